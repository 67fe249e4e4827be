import PyProof.Rows.All
import Wide.All
import OpenK.AllK
import Wide.FinOn
import KE.KRevSl
import KE.KDictOf
import KE.KSortedM
import KE.KPairTest
import KE.KUnpack
import KE.KItem
import PyProof.StrCalls2
import PyProof.Rows.StrWeight2
import PyProof.TupleKey
import PyProof.DictRoadsH
import PyProof.ZipIter
import KE.KSuperObj
import PyProof.InstStoreFacts
import PyProof.ExcClass3
import PyProof.ExcBaseAll.Exception
import PyProof.StrLawsRepr
import PyProof.ReprLen
import PySem.Challenge.RW_pq0379_04
set_option Elab.async false
set_option linter.all false
set_option bootstrap.genMatcherCode false
set_option genSizeOf false
set_option genInjectivity false
set_option maxRecDepth 100000
set_option maxHeartbeats 0
namespace Mine.Lake
open PySem PySem.W PyProof.Rows
noncomputable abbrev pw : Program := PySem.Challenge.pw_pq0379_04
noncomputable abbrev rw : OpenLaw := PySem.Challenge.rw_pq0379_04
noncomputable def st (i : Nat) : Stmt := (pw.main.body[i]?).getD default
noncomputable def ms (i j : Nat) : Stmt := match st i with | .ClassDef _ _ _ b .. => (b[j]?).getD default | _ => default
noncomputable def fa : Stmt -> Arguments | .FunctionDef _ a .. => a | _ => default
noncomputable def fb : Stmt -> List Stmt | .FunctionDef _ _ b .. => b | _ => []
noncomputable def fs : Stmt -> Scope | .FunctionDef _ _ _ _ _ _ s .. => s | _ => default
noncomputable def fp : Stmt -> Pos | .FunctionDef _ _ _ _ _ _ _ _ _ p => p | _ => default
noncomputable def zs (s : String) (t : Nat) : Value := .str (Str.ofString s) t
noncomputable def zf (t : Nat) : Value := .str (Str.ofString "/claim/cut.py") t
noncomputable def zi (i : Int) : Value := .int i 0
noncomputable def zd (P : Params) (s : String) (t : Nat) (v : Value) : DictEntry := ⟨PyData.keyHash P (Str.ofString s), .str (Str.ofString s) t, v⟩
noncomputable def zc (a : Nat) (n : String) (t : Nat) (q : String) (t2 f : Nat) (x y z u v : Int) (r : Nat) (b : Bool) (g : Int) (r2 : Nat) (w : Value) (r3 r4 r5 : Nat) (x2 y2 : Int) (f2 : Nat) : Nat × Obj := (a, ⟨.type "code", none, .fields #[zs n t, zs q t2, zf f, zi x, zi y, zi z, zi u, zi v, .ref r, .bool b, zi g, .ref r2, w, .ref r3, .ref r4, .ref r5, zi x2, zi y2, zf f2], #[]⟩)
noncomputable def zg (a : Nat) (n q : String) (s : Stmt) (l : List (Str × Addr)) (dV kV doc pm : Value) (c : Nat) : Nat × Obj := (a, ⟨.type "function", none, .func (fnX (Str.ofString n) (Str.ofString q) (fa s) (fb s) (fs s) l dV kV doc pm none (.ref c) .none), #[]⟩)
noncomputable def K (P : Params) : Frag := [
 (1, ⟨(.type "dict"), none, (.dict #[zd P "builtins" 162 (.ref 4), zd P "__main__" 163 (.ref 5)] 2), #[]⟩),
 (2, ⟨.none, none, (.dict #[zd P "type.__subclasses__.Exception.0" 269 (zi 75), zd P "type.__subclasses__.Exception.n" 270 (zi 1)] 2), #[]⟩),
 (3, ⟨(.type "dict"), none, (.dict #[zd P "__name__" 165 (zs "law_pq0379_04" 730), zd P "__doc__" 166 .none, zd P "__package__" 167 .none, zd P "__loader__" 168 (.builtin "__main__.__loader__#opaque"), zd P "__spec__" 169 .none, zd P "__annotations__" 170 (.ref 6), zd P "__builtins__" 171 (.ref 4), zd P "__file__" 173 (zf 172), zd P "__cached__" 174 .none, zd P "range_of" 196 (.ref 21), zd P "put_behind" 205 (.ref 28), zd P "from_values" 214 (.ref 35), zd P "next_from" 224 (.ref 42), zd P "has" 232 (.ref 49), zd P "FdError" 272 (.ref 75), zd P "SpotFault" 307 (.ref 104), zd P "EvalFault" 323 (.ref 116), zd P "LimitFault" 339 (.ref 128), zd P "MOST_VALUES" 343 (.int (100000) 342), zd P "MOST_POWER" 345 (.int (1000) 344), zd P "MOST_SHOWN" 347 (.int (1000) 346), zd P "is_array" 354 (.ref 137), zd P "is_set" 361 (.ref 144), zd P "number_of" 369 (.ref 151), zd P "truth_of" 377 (.ref 158), zd P "text_of" 385 (.ref 165), zd P "set_of" 393 (.ref 172), zd P "list_of" 401 (.ref 179), zd P "elements_of" 409 (.ref 186), zd P "row_of" 416 (.ref 193), zd P "span" 424 (.ref 200), zd P "quotient" 434 (.ref 207), zd P "within_figures" 441 (.ref 214), zd P "power" 452 (.ref 221), zd P "are_same" 458 (.ref 226), zd P "are_compared" 468 (.ref 233), zd P "joined_sets" 474 (.ref 238), zd P "reckoned" 484 (.ref 245), zd P "show_text" 490 (.ref 250), zd P "folded" 496 (.ref 255), zd P "FOLDING" 505 (.ref 256), zd P "scopes_of" 511 (.ref 261), zd P "Evaluator" 675 (.ref 363), zd P "fitted_one" 681 (.ref 372), zd P "called" 687 (.ref 377), zd P "alone" 696 (.ref 384), zd P "of_value" 702 (.ref 389), zd P "indexes_of" 712 (.ref 396), zd P "indexed" 718 (.ref 401), zd P "united" 729 (.ref 408), zd P "_law_draw" 740 (.ref 415), zd P "_law_dim" 746 (.ref 420), zd P "_law_domain" 754 (.ref 427), zd P "_law_thing" 763 (.ref 434), zd P "_law_value" 769 (.ref 439), zd P "_law_is_array" 776 (.ref 446), zd P "_law_lot" 782 (.ref 451), zd P "_law_complaint" 788 (.ref 456), zd P "_law_span" 794 (.ref 461), zd P "_law_due" 800 (.ref 466), zd P "_law_stand_right" 806 (.ref 471), zd P "law" 812 (.ref 476)] 62), #[]⟩),
 zc 20 "range_of" 189 "range_of" 190 191 2 2 0 0 3 15 true 181 16 .none 17 18 19 194 2 195,
 zg 21 "range_of" "range_of" (st 1) [] .none .none .none (zs "fdsolve.domains" 187) 20,
 zc 27 "put_behind" 197 "put_behind" 198 199 4 3 0 0 3 22 true 181 23 .none 24 25 26 203 4 204,
 zg 28 "put_behind" "put_behind" (st 2) [] .none .none .none (zs "fdsolve.domains" 187) 27,
 zc 34 "from_values" 206 "from_values" 207 208 10 1 0 0 3 29 true 181 30 .none 31 32 33 212 10 213,
 zg 35 "from_values" "from_values" (st 3) [] .none .none .none (zs "fdsolve.domains" 187) 34,
 zc 41 "next_from" 215 "next_from" 216 217 15 2 0 0 3 36 true 181 37 .none 38 39 40 222 15 223,
 zg 42 "next_from" "next_from" (st 4) [] .none .none .none (zs "fdsolve.domains" 187) 41,
 zc 48 "has" 225 "has" 226 227 20 2 0 0 3 43 true 181 44 .none 45 46 47 230 20 231,
 zg 49 "has" "has" (st 5) [] .none .none .none (zs "fdsolve.domains" 187) 48,
 (50, ⟨(.type "tuple"), none, (.seq #[(.type "Exception")] 0), #[]⟩),
 (53, ⟨(.type "cell"), none, (.cell (some (.ref 75))), #[]⟩),
 (58, ⟨(.type "tuple"), none, (.seq #[(.ref 53)] 0), #[]⟩),
 zc 64 "__init__" 247 "FdError.__init__" 248 249 25 2 0 0 3 59 true 181 60 .none 61 62 63 253 25 254,
 (65, ⟨(.type "function"), none, (.func (fnX (Str.ofString "__init__") (Str.ofString "FdError.__init__") (fa (ms 7 0)) (fb (ms 7 0)) (fs (ms 7 0)) [((Str.ofString "__class__"), 53)] .none .none .none (zs "fdsolve.errors" 233) none (.ref 64) (.ref 58))), #[]⟩),
 zc 71 "told" 256 "FdError.told" 257 258 29 1 0 0 3 66 true 181 67 .none 68 69 70 260 29 261,
 zg 72 "told" "FdError.told" (ms 7 1) [] .none .none .none (zs "fdsolve.errors" 233) 71,
 (73, ⟨(.type "tuple"), none, (.seq #[(zs "what" 263)] 0), #[]⟩),
 (74, ⟨(.type "dict"), none, (.dict #[zd P "__module__" 242 (zs "fdsolve.errors" 233), zd P "__firstlineno__" 246 (.int (23) 245), zd P "__init__" 255 (.ref 65), zd P "told" 262 (.ref 72), zd P "__static_attributes__" 264 (.ref 73), zd P "__weakref__" 267 (.ref 76), zd P "__doc__" 268 .none] 4), #[]⟩),
 (75, ⟨(.type "type"), none, (.cls { name := (Str.ofString "FdError"), bases := [(.type "Exception")], mro := [(.ref 75), (.type "Exception"), (.type "BaseException"), (.type "object")], ns := 74, qualname := (Str.ofString "FdError"), hasDict := true, slotNames := [], subclasses := [(.ref 104), (.ref 128)], abstract := false, collection := none, hasDel := false }), #[(some (.ref 50)), none, (some (zs "FdError" 235)), (some (zs "FdError" 243)), (some (.builtin "Exception.__new__")), (some (.bool true))]⟩),
 (76, ⟨(.type "getset_descriptor"), none, (.fields #[(zs "__weakref__" 266), (.ref 75), (.builtin "ExceptionGroup.__weakref__"), .none]), #[]⟩),
 (79, ⟨(.type "tuple"), none, (.seq #[(.ref 75)] 0), #[]⟩),
 (82, ⟨(.type "cell"), none, (.cell (some (.ref 104))), #[]⟩),
 (87, ⟨(.type "tuple"), none, (.seq #[(.ref 82)] 0), #[]⟩),
 zc 93 "__init__" 285 "SpotFault.__init__" 286 287 33 3 0 0 3 88 true 181 89 .none 90 91 92 292 33 293,
 (94, ⟨(.type "function"), none, (.func (fnX (Str.ofString "__init__") (Str.ofString "SpotFault.__init__") (fa (ms 8 0)) (fb (ms 8 0)) (fs (ms 8 0)) [((Str.ofString "__class__"), 82)] .none .none .none (zs "fdsolve.errors" 233) none (.ref 93) (.ref 87))), #[]⟩),
 zc 100 "told" 295 "SpotFault.told" 296 297 37 1 0 0 3 95 true 181 96 .none 97 98 99 299 37 300,
 zg 101 "told" "SpotFault.told" (ms 8 1) [] .none .none .none (zs "fdsolve.errors" 233) 100,
 (102, ⟨(.type "tuple"), none, (.seq #[(zs "spot" 302)] 0), #[]⟩),
 (103, ⟨(.type "dict"), none, (.dict #[zd P "__module__" 280 (zs "fdsolve.errors" 233), zd P "__firstlineno__" 284 (.int (31) 283), zd P "__init__" 294 (.ref 94), zd P "told" 301 (.ref 101), zd P "__static_attributes__" 303 (.ref 102), zd P "__doc__" 305 .none] 3), #[]⟩),
 (104, ⟨(.type "type"), none, (.cls { name := (Str.ofString "SpotFault"), bases := [(.ref 75)], mro := [(.ref 104), (.ref 75), (.type "Exception"), (.type "BaseException"), (.type "object")], ns := 103, qualname := (Str.ofString "SpotFault"), hasDict := true, slotNames := [], subclasses := [(.ref 116)], abstract := false, collection := none, hasDel := false }), #[(some (.ref 79)), none, (some (zs "SpotFault" 273)), (some (zs "SpotFault" 281)), (some (.builtin "Exception.__new__")), (some (.bool true))]⟩),
 (107, ⟨(.type "tuple"), none, (.seq #[(.ref 104)] 0), #[]⟩),
 (114, ⟨(.type "tuple"), none, (.seq #[] 0), #[]⟩),
 (115, ⟨(.type "dict"), none, (.dict #[zd P "__module__" 315 (zs "fdsolve.errors" 233), zd P "__firstlineno__" 319 (.int (39) 318), zd P "__static_attributes__" 320 (.ref 114), zd P "__doc__" 321 .none] 2), #[]⟩),
 (116, ⟨(.type "type"), none, (.cls { name := (Str.ofString "EvalFault"), bases := [(.ref 104)], mro := [(.ref 116), (.ref 104), (.ref 75), (.type "Exception"), (.type "BaseException"), (.type "object")], ns := 115, qualname := (Str.ofString "EvalFault"), hasDict := true, slotNames := [], subclasses := [], abstract := false, collection := none, hasDel := false }), #[(some (.ref 107)), none, (some (zs "EvalFault" 308)), (some (zs "EvalFault" 316)), (some (.builtin "Exception.__new__")), (some (.bool true))]⟩),
 (119, ⟨(.type "tuple"), none, (.seq #[(.ref 75)] 0), #[]⟩),
 (126, ⟨(.type "tuple"), none, (.seq #[] 0), #[]⟩),
 (127, ⟨(.type "dict"), none, (.dict #[zd P "__module__" 331 (zs "fdsolve.errors" 233), zd P "__firstlineno__" 335 (.int (41) 334), zd P "__static_attributes__" 336 (.ref 126), zd P "__doc__" 337 .none] 2), #[]⟩),
 (128, ⟨(.type "type"), none, (.cls { name := (Str.ofString "LimitFault"), bases := [(.ref 75)], mro := [(.ref 128), (.ref 75), (.type "Exception"), (.type "BaseException"), (.type "object")], ns := 127, qualname := (Str.ofString "LimitFault"), hasDict := true, slotNames := [], subclasses := [], abstract := false, collection := none, hasDel := false }), #[(some (.ref 119)), none, (some (zs "LimitFault" 324)), (some (zs "LimitFault" 332)), (some (.builtin "Exception.__new__")), (some (.bool true))]⟩),
 zc 136 "is_array" 348 "is_array" 349 350 47 1 0 0 3 131 true 181 132 .none 133 134 135 352 47 353,
 zg 137 "is_array" "is_array" (st 15) [] .none .none .none (zs "fdsolve.values" 340) 136,
 zc 143 "is_set" 355 "is_set" 356 357 49 1 0 0 3 138 true 181 139 .none 140 141 142 359 49 360,
 zg 144 "is_set" "is_set" (st 16) [] .none .none .none (zs "fdsolve.values" 340) 143,
 zc 150 "number_of" 362 "number_of" 363 364 51 2 0 0 3 145 true 181 146 .none 147 148 149 367 51 368,
 zg 151 "number_of" "number_of" (st 17) [] .none .none .none (zs "fdsolve.values" 340) 150,
 zc 157 "truth_of" 370 "truth_of" 371 372 55 2 0 0 3 152 true 181 153 .none 154 155 156 375 55 376,
 zg 158 "truth_of" "truth_of" (st 18) [] .none .none .none (zs "fdsolve.values" 340) 157,
 zc 164 "text_of" 378 "text_of" 379 380 59 2 0 0 3 159 true 181 160 .none 161 162 163 383 59 384,
 zg 165 "text_of" "text_of" (st 19) [] .none .none .none (zs "fdsolve.values" 340) 164,
 zc 171 "set_of" 386 "set_of" 387 388 63 2 0 0 3 166 true 181 167 .none 168 169 170 391 63 392,
 zg 172 "set_of" "set_of" (st 20) [] .none .none .none (zs "fdsolve.values" 340) 171,
 zc 178 "list_of" 394 "list_of" 395 396 67 2 0 0 3 173 true 181 174 .none 175 176 177 399 67 400,
 zg 179 "list_of" "list_of" (st 21) [] .none .none .none (zs "fdsolve.values" 340) 178,
 zc 185 "elements_of" 402 "elements_of" 403 404 71 2 0 0 3 180 true 181 181 .none 182 183 184 407 71 408,
 zg 186 "elements_of" "elements_of" (st 22) [] .none .none .none (zs "fdsolve.values" 340) 185,
 zc 192 "row_of" 410 "row_of" 411 412 73 1 0 0 3 187 true 181 188 .none 189 190 191 414 73 415,
 zg 193 "row_of" "row_of" (st 23) [] .none .none .none (zs "fdsolve.values" 340) 192,
 zc 199 "span" 417 "span" 418 419 75 2 0 0 3 194 true 181 195 .none 196 197 198 422 75 423,
 zg 200 "span" "span" (st 24) [] .none .none .none (zs "fdsolve.values" 340) 199,
 zc 206 "quotient" 425 "quotient" 426 427 79 3 0 0 3 201 true 181 202 .none 203 204 205 432 79 433,
 zg 207 "quotient" "quotient" (st 25) [] .none .none .none (zs "fdsolve.values" 340) 206,
 zc 213 "within_figures" 435 "within_figures" 436 437 84 1 0 0 3 208 true 181 209 .none 210 211 212 439 84 440,
 zg 214 "within_figures" "within_figures" (st 26) [] .none .none .none (zs "fdsolve.values" 340) 213,
 zc 220 "power" 442 "power" 443 444 88 3 0 0 3 215 true 181 216 .none 217 218 219 450 88 451,
 zg 221 "power" "power" (st 27) [] .none .none .none (zs "fdsolve.values" 340) 220,
 (225, ⟨(.type "code"), none, (.fields #[(zs "are_same" 453), (zs "are_same" 454), (zf 455), (zi 97), (zi 2), (zi 0), (zi 0), (zi 3), (.ref 222), (.bool true), (zi 181), (.ref 223), .none, .none, .none, (.ref 224), (zi 456), (zi 97), (zf 457)]), #[]⟩),
 zg 226 "are_same" "are_same" (st 28) [] .none .none .none (zs "fdsolve.values" 340) 225,
 zc 232 "are_compared" 459 "are_compared" 460 461 103 4 0 0 3 227 true 181 228 .none 229 230 231 466 103 467,
 zg 233 "are_compared" "are_compared" (st 29) [] .none .none .none (zs "fdsolve.values" 340) 232,
 (237, ⟨(.type "code"), none, (.fields #[(zs "joined_sets" 469), (zs "joined_sets" 470), (zf 471), (zi 115), (zi 3), (zi 0), (zi 0), (zi 3), (.ref 234), (.bool true), (zi 181), (.ref 235), .none, .none, .none, (.ref 236), (zi 472), (zi 115), (zf 473)]), #[]⟩),
 zg 238 "joined_sets" "joined_sets" (st 30) [] .none .none .none (zs "fdsolve.values" 340) 237,
 zc 244 "reckoned" 475 "reckoned" 476 477 123 4 0 0 3 239 true 181 240 .none 241 242 243 482 123 483,
 zg 245 "reckoned" "reckoned" (st 31) [] .none .none .none (zs "fdsolve.values" 340) 244,
 (249, ⟨(.type "code"), none, (.fields #[(zs "show_text" 485), (zs "show_text" 486), (zf 487), (zi 135), (zi 1), (zi 0), (zi 0), (zi 3), (.ref 246), (.bool true), (zi 181), (.ref 247), .none, .none, .none, (.ref 248), (zi 488), (zi 135), (zf 489)]), #[]⟩),
 zg 250 "show_text" "show_text" (st 32) [] .none .none .none (zs "fdsolve.values" 340) 249,
 (254, ⟨(.type "code"), none, (.fields #[(zs "folded" 491), (zs "folded" 492), (zf 493), (zi 147), (zi 3), (zi 0), (zi 0), (zi 3), (.ref 251), (.bool true), (zi 181), (.ref 252), .none, .none, .none, (.ref 253), (zi 494), (zi 147), (zf 495)]), #[]⟩),
 zg 255 "folded" "folded" (st 33) [] .none .none .none (zs "fdsolve.values" 340) 254,
 (256, ⟨(.type "tuple"), none, (.seq #[(zs "forall" 497), (zs "exists" 498), (zs "xorall" 499), (zs "iffall" 500), (zs "sum" 501), (zs "product" 502), (zs "min" 503), (zs "max" 504)] 0), #[]⟩),
 (260, ⟨(.type "code"), none, (.fields #[(zs "scopes_of" 506), (zs "scopes_of" 507), (zf 508), (zi 167), (zi 3), (zi 0), (zi 0), (zi 3), (.ref 257), (.bool true), (zi 181), (.ref 258), .none, .none, .none, (.ref 259), (zi 509), (zi 167), (zf 510)]), #[]⟩),
 zg 261 "scopes_of" "scopes_of" (st 35) [] .none .none .none (zs "fdsolve.values" 340) 260,
 zc 274 "__init__" 524 "Evaluator.__init__" 525 526 188 2 0 0 3 269 true 181 270 .none 271 272 273 529 188 530,
 zg 275 "__init__" "Evaluator.__init__" (ms 36 0) [] .none .none .none (zs "fdsolve.values" 340) 274,
 zc 281 "value_of" 532 "Evaluator.value_of" 533 534 191 2 0 0 3 276 true 181 277 .none 278 279 280 539 191 540,
 zg 282 "value_of" "Evaluator.value_of" (ms 36 1) [] .none .none .none (zs "fdsolve.values" 340) 281,
 (286, ⟨(.type "code"), none, (.fields #[(zs "values_of" 542), (zs "Evaluator.values_of" 543), (zf 544), (zi 217), (zi 2), (zi 0), (zi 0), (zi 3), (.ref 283), (.bool true), (zi 181), (.ref 284), .none, .none, .none, (.ref 285), (zi 545), (zi 217), (zf 546)]), #[]⟩),
 zg 287 "values_of" "Evaluator.values_of" (ms 36 2) [] .none .none .none (zs "fdsolve.values" 340) 286,
 (291, ⟨(.type "code"), none, (.fields #[(zs "built" 548), (zs "Evaluator.built" 549), (zf 550), (zi 220), (zi 4), (zi 0), (zi 0), (zi 3), (.ref 288), (.bool true), (zi 181), (.ref 289), .none, .none, .none, (.ref 290), (zi 551), (zi 220), (zf 552)]), #[]⟩),
 zg 292 "built" "Evaluator.built" (ms 36 3) [] .none .none .none (zs "fdsolve.values" 340) 291,
 zc 298 "gathered" 554 "Evaluator.gathered" 555 556 241 2 0 0 3 293 true 181 294 .none 295 296 297 563 241 564,
 zg 299 "gathered" "Evaluator.gathered" (ms 36 4) [] .none .none .none (zs "fdsolve.values" 340) 298,
 zc 305 "of_one" 566 "Evaluator.of_one" 567 568 249 4 0 0 3 300 true 181 301 .none 302 303 304 574 249 575,
 zg 306 "of_one" "Evaluator.of_one" (ms 36 5) [] .none .none .none (zs "fdsolve.values" 340) 305,
 zc 312 "of_two" 577 "Evaluator.of_two" 578 579 255 5 0 0 3 307 true 181 308 .none 309 310 311 589 255 590,
 zg 313 "of_two" "Evaluator.of_two" (ms 36 6) [] .none .none .none (zs "fdsolve.values" 340) 312,
 zc 319 "element" 592 "Evaluator.element" 593 594 283 2 0 0 3 314 true 181 315 .none 316 317 318 605 283 606,
 zg 320 "element" "Evaluator.element" (ms 36 7) [] .none .none .none (zs "fdsolve.values" 340) 319,
 zc 326 "chosen" 608 "Evaluator.chosen" 609 610 296 2 0 0 3 321 true 181 322 .none 323 324 325 615 296 616,
 zg 327 "chosen" "Evaluator.chosen" (ms 36 8) [] .none .none .none (zs "fdsolve.values" 340) 326,
 zc 333 "asserted" 618 "Evaluator.asserted" 619 620 302 2 0 0 3 328 true 181 329 .none 330 331 332 623 302 624,
 zg 334 "asserted" "Evaluator.asserted" (ms 36 9) [] .none .none .none (zs "fdsolve.values" 340) 333,
 zc 340 "within" 626 "Evaluator.within" 627 628 307 2 0 0 3 335 true 181 336 .none 337 338 339 633 307 634,
 zg 341 "within" "Evaluator.within" (ms 36 10) [] .none .none .none (zs "fdsolve.values" 340) 340,
 zc 347 "ranges_of" 636 "Evaluator.ranges_of" 637 638 319 4 0 0 3 342 true 181 343 .none 344 345 346 648 319 649,
 zg 348 "ranges_of" "Evaluator.ranges_of" (ms 36 11) [] .none .none .none (zs "fdsolve.values" 340) 347,
 zc 354 "domain_of" 651 "Evaluator.domain_of" 652 653 334 2 0 0 3 349 true 181 350 .none 351 352 353 658 334 659,
 zg 355 "domain_of" "Evaluator.domain_of" (ms 36 12) [] .none .none .none (zs "fdsolve.values" 340) 354,
 (359, ⟨(.type "code"), none, (.fields #[(zs "fitted" 661), (zs "Evaluator.fitted" 662), (zf 663), (zi 340), (zi 4), (zi 0), (zi 0), (zi 3), (.ref 356), (.bool true), (zi 181), (.ref 357), .none, .none, .none, (.ref 358), (zi 664), (zi 340), (zf 665)]), #[]⟩),
 zg 360 "fitted" "Evaluator.fitted" (ms 36 13) [] .none .none .none (zs "fdsolve.values" 340) 359,
 (361, ⟨(.type "tuple"), none, (.seq #[(zs "scope" 667)] 0), #[]⟩),
 (362, ⟨(.type "dict"), none, (.dict #[zd P "__module__" 519 (zs "fdsolve.values" 340), zd P "__firstlineno__" 523 (.int (186) 522), zd P "__init__" 531 (.ref 275), zd P "value_of" 541 (.ref 282), zd P "values_of" 547 (.ref 287), zd P "built" 553 (.ref 292), zd P "gathered" 565 (.ref 299), zd P "of_one" 576 (.ref 306), zd P "of_two" 591 (.ref 313), zd P "element" 607 (.ref 320), zd P "chosen" 617 (.ref 327), zd P "asserted" 625 (.ref 334), zd P "within" 635 (.ref 341), zd P "ranges_of" 650 (.ref 348), zd P "domain_of" 660 (.ref 355), zd P "fitted" 666 (.ref 360), zd P "__static_attributes__" 668 (.ref 361), zd P "__dict__" 670 (.ref 364), zd P "__weakref__" 672 (.ref 365), zd P "__doc__" 673 .none] 4), #[]⟩),
 (363, ⟨(.type "type"), none, (.cls { name := (Str.ofString "Evaluator"), bases := [(.type "object")], mro := [(.ref 363), (.type "object")], ns := 362, qualname := (Str.ofString "Evaluator"), hasDict := true, slotNames := [], subclasses := [], abstract := false, collection := none, hasDel := false }), #[none, none, (some (zs "Evaluator" 512)), (some (zs "Evaluator" 520)), (some (.builtin "object.__new__")), (some (.bool true))]⟩),
 (364, ⟨(.type "getset_descriptor"), none, (.fields #[(zs "__dict__" 669), (.ref 363), (.builtin "function.__dict__"), (.builtin "function.__dict__#set")]), #[]⟩),
 (365, ⟨(.type "getset_descriptor"), none, (.fields #[(zs "__weakref__" 671), (.ref 363), (.builtin "ExceptionGroup.__weakref__"), .none]), #[]⟩),
 (371, ⟨(.type "code"), none, (.fields #[(zs "fitted_one" 676), (zs "fitted_one" 677), (zf 678), (zi 347), (zi 4), (zi 0), (zi 0), (zi 3), (.ref 368), (.bool true), (zi 181), (.ref 369), .none, .none, .none, (.ref 370), (zi 679), (zi 347), (zf 680)]), #[]⟩),
 zg 372 "fitted_one" "fitted_one" (st 37) [] .none .none .none (zs "fdsolve.values" 340) 371,
 (376, ⟨(.type "code"), none, (.fields #[(zs "called" 682), (zs "called" 683), (zf 684), (zi 356), (zi 3), (zi 0), (zi 0), (zi 3), (.ref 373), (.bool true), (zi 181), (.ref 374), .none, .none, .none, (.ref 375), (zi 685), (zi 356), (zf 686)]), #[]⟩),
 zg 377 "called" "called" (st 38) [] .none .none .none (zs "fdsolve.values" 340) 376,
 zc 383 "alone" 688 "alone" 689 690 380 3 0 0 3 378 true 181 379 .none 380 381 382 694 380 695,
 zg 384 "alone" "alone" (st 39) [] .none .none .none (zs "fdsolve.values" 340) 383,
 (388, ⟨(.type "code"), none, (.fields #[(zs "of_value" 697), (zs "of_value" 698), (zf 699), (zi 384), (zi 3), (zi 0), (zi 0), (zi 3), (.ref 385), (.bool true), (zi 181), (.ref 386), .none, .none, .none, (.ref 387), (zi 700), (zi 384), (zf 701)]), #[]⟩),
 zg 389 "of_value" "of_value" (st 40) [] .none .none .none (zs "fdsolve.values" 340) 388,
 zc 395 "indexes_of" 703 "indexes_of" 704 705 403 3 0 0 3 390 true 181 391 .none 392 393 394 710 403 711,
 zg 396 "indexes_of" "indexes_of" (st 41) [] .none .none .none (zs "fdsolve.values" 340) 395,
 (400, ⟨(.type "code"), none, (.fields #[(zs "indexed" 713), (zs "indexed" 714), (zf 715), (zi 409), (zi 3), (zi 0), (zi 0), (zi 3), (.ref 397), (.bool true), (zi 181), (.ref 398), .none, .none, .none, (.ref 399), (zi 716), (zi 409), (zf 717)]), #[]⟩),
 zg 401 "indexed" "indexed" (st 42) [] .none .none .none (zs "fdsolve.values" 340) 400,
 zc 407 "united" 719 "united" 720 721 425 3 0 0 3 402 true 181 403 .none 404 405 406 727 425 728,
 zg 408 "united" "united" (st 43) [] .none .none .none (zs "fdsolve.values" 340) 407,
 zc 414 "_law_draw" 732 "_law_draw" 733 734 433 2 0 0 3 409 true 181 410 .none 411 412 413 738 433 739,
 zg 415 "_law_draw" "_law_draw" (st 45) [] .none .none .none (zs "law_pq0379_04" 730) 414,
 (419, ⟨(.type "code"), none, (.fields #[(zs "_law_dim" 741), (zs "_law_dim" 742), (zf 743), (zi 439), (zi 2), (zi 0), (zi 0), (zi 3), (.ref 416), (.bool true), (zi 181), (.ref 417), .none, .none, .none, (.ref 418), (zi 744), (zi 439), (zf 745)]), #[]⟩),
 zg 420 "_law_dim" "_law_dim" (st 46) [] .none .none .none (zs "law_pq0379_04" 730) 419,
 zc 426 "_law_domain" 747 "_law_domain" 748 749 452 1 0 0 3 421 true 181 422 .none 423 424 425 752 452 753,
 zg 427 "_law_domain" "_law_domain" (st 47) [] .none .none .none (zs "law_pq0379_04" 730) 426,
 zc 433 "_law_thing" 755 "_law_thing" 756 757 461 2 0 0 3 428 true 181 429 .none 430 431 432 761 461 762,
 zg 434 "_law_thing" "_law_thing" (st 48) [] .none .none .none (zs "law_pq0379_04" 730) 433,
 (438, ⟨(.type "code"), none, (.fields #[(zs "_law_value" 764), (zs "_law_value" 765), (zf 766), (zi 470), (zi 3), (zi 0), (zi 0), (zi 3), (.ref 435), (.bool true), (zi 181), (.ref 436), .none, .none, .none, (.ref 437), (zi 767), (zi 470), (zf 768)]), #[]⟩),
 zg 439 "_law_value" "_law_value" (st 49) [] .none .none .none (zs "law_pq0379_04" 730) 438,
 zc 445 "_law_is_array" 770 "_law_is_array" 771 772 482 1 0 0 3 440 true 181 441 .none 442 443 444 774 482 775,
 zg 446 "_law_is_array" "_law_is_array" (st 50) [] .none .none .none (zs "law_pq0379_04" 730) 445,
 (450, ⟨(.type "code"), none, (.fields #[(zs "_law_lot" 777), (zs "_law_lot" 778), (zf 779), (zi 484), (zi 2), (zi 0), (zi 0), (zi 3), (.ref 447), (.bool true), (zi 181), (.ref 448), .none, .none, .none, (.ref 449), (zi 780), (zi 484), (zf 781)]), #[]⟩),
 zg 451 "_law_lot" "_law_lot" (st 51) [] .none .none .none (zs "law_pq0379_04" 730) 450,
 (455, ⟨(.type "code"), none, (.fields #[(zs "_law_complaint" 783), (zs "_law_complaint" 784), (zf 785), (zi 492), (zi 4), (zi 0), (zi 0), (zi 3), (.ref 452), (.bool true), (zi 181), (.ref 453), .none, .none, .none, (.ref 454), (zi 786), (zi 492), (zf 787)]), #[]⟩),
 zg 456 "_law_complaint" "_law_complaint" (st 52) [] .none .none .none (zs "law_pq0379_04" 730) 455,
 (460, ⟨(.type "code"), none, (.fields #[(zs "_law_span" 789), (zs "_law_span" 790), (zf 791), (zi 509), (zi 5), (zi 0), (zi 0), (zi 3), (.ref 457), (.bool true), (zi 181), (.ref 458), .none, .none, .none, (.ref 459), (zi 792), (zi 509), (zf 793)]), #[]⟩),
 zg 461 "_law_span" "_law_span" (st 53) [] .none .none .none (zs "law_pq0379_04" 730) 460,
 (465, ⟨(.type "code"), none, (.fields #[(zs "_law_due" 795), (zs "_law_due" 796), (zf 797), (zi 520), (zi 6), (zi 0), (zi 0), (zi 3), (.ref 462), (.bool true), (zi 181), (.ref 463), .none, .none, .none, (.ref 464), (zi 798), (zi 520), (zf 799)]), #[]⟩),
 zg 466 "_law_due" "_law_due" (st 54) [] .none .none .none (zs "law_pq0379_04" 730) 465,
 (470, ⟨(.type "code"), none, (.fields #[(zs "_law_stand_right" 801), (zs "_law_stand_right" 802), (zf 803), (zi 538), (zi 1), (zi 0), (zi 0), (zi 3), (.ref 467), (.bool true), (zi 181), (.ref 468), .none, .none, .none, (.ref 469), (zi 804), (zi 538), (zf 805)]), #[]⟩),
 zg 471 "_law_stand_right" "_law_stand_right" (st 55) [] .none .none .none (zs "law_pq0379_04" 730) 470,
 (475, ⟨(.type "code"), none, (.fields #[(zs "law" 807), (zs "law" 808), (zf 809), (zi 546), (zi 1), (zi 0), (zi 0), (zi 3), (.ref 472), (.bool true), (zi 181), (.ref 473), .none, .none, .none, (.ref 474), (zi 810), (zi 546), (zf 811)]), #[]⟩),
 zg 476 "law" "law" (st 56) [] .none .none .none (zs "law_pq0379_04" 730) 475]
noncomputable def loose : List PySem.Str := ["range_of", "put_behind", "from_values", "next_from", "has", "FdError", "SpotFault", "EvalFault", "LimitFault", "MOST_VALUES", "MOST_POWER", "MOST_SHOWN", "is_array", "is_set", "number_of", "truth_of", "text_of", "set_of", "list_of", "elements_of", "row_of", "span", "quotient", "within_figures", "power", "are_same", "are_compared", "joined_sets", "reckoned", "show_text", "folded", "FOLDING", "scopes_of", "Evaluator", "fitted_one", "called", "alone", "of_value", "indexes_of", "indexed", "united", "_law_draw", "_law_dim", "_law_domain", "_law_thing", "_law_value", "_law_is_array", "_law_lot", "_law_complaint", "_law_span", "_law_due", "_law_stand_right"].map Str.ofString
noncomputable def KA : List Addr := (K ⟨fun _ => 0, fun _ => 0, id, fun _ => 0, fun _ _ => 0, fun _ => false, fun _ => 0, .refcount, .text, fun _ => 0, fun _ => none, fun _ => false, fun _ _ _ => true, fun _ _ _ => true, true, fun _ => false, fun _ => none, fun _ => none, fun _ _ _ => 0, fun _ _ => none, fun _ => none, fun _ => (0, false, ""), fun _ => none, fun d => d, fun _ => false⟩).map (·.1)
theorem KA_eq : ∀ P, KA = (K P).map (·.1) := fun _ => by kernel_rfl
noncomputable abbrev lawD : DefRec := ⟨Str.ofString "law", fa (st 56), fb (st 56), fs (st 56), fp (st 56)⟩
noncomputable def q : Program := { pw with main := { pw.main with body := [st 56] } }
noncomputable abbrev N : Nat := 6200
theorem said : rw.wellSaid = true := (congrFun PySem.W.Fast.te9446332074065402090 _).trans (by kernel_rfl)
theorem zdi (p : Program) (w : World) (N : Nat) : openEnds treeTable p w N =
  ((PySem.W.Fast.tw10274390034422433532 PySem.W.Fast.tw14364793385576792824 (PySem.W.opening p) w N (PySem.W.Fast.tw1435165496053646825 (PySem.W.opening p)).1 (PySem.W.Fast.tw1435165496053646825 (PySem.W.opening p)).2).bind (PySem.W.Fast.tw14289696077712309145 p)).bind (fun s₀ =>
   match s₀.heap.isNs mainGlobals && s₀.gens.size == 0 with
 | true => (PySem.W.Fast.tw14082659384304107361 PySem.W.Fast.tw14364793385576792824 p w s₀.heap.objs.size (s₀.heap.nsMap mainGlobals "__annotations__") N s₀ (topStub p)).bind fun s₁ => match staticsOk (importedModules p.main.body) s₀.heap s₁.heap && namesBound p s₁.heap && gensDone s₁ && laidKept s₀.heap s₁.heap with
   | true => some s₁
   | false => none
 | false => none) := by
 unfold openEnds fencedOpening
 rw [PySem.W.Fast.te10274390034422433532, PySem.W.Fast.te14364793385576792824, PySem.W.Fast.te1435165496053646825, PySem.W.Fast.te14289696077712309145]
 congr 1
 funext s₀
 unfold topFrom
 rw [PySem.W.Fast.te14082659384304107361]
 rfl
noncomputable abbrev HK : Hook := kHook K KA KA_eq
noncomputable abbrev XT (s : Shared) : Bool := xlAt q [] s && recOk [] s
theorem left : LeftO pw q loose XT HK.obs HK.val N := fun w => by
 rw [zdi, PySem.W.Fast.te4187177175401517315]
 kernel_rfl
theorem holds_of (call : WalkO q loose (XL q []) HK.says rw.row.toRowW lawD [] fun f vs => PySem.call f vs) (hw : rw.row.toRowW.promised) : rw.Holds :=
 holds_law said fun ok => holds_open (r := rw.row) (q := q) (loose := loose) (Xt := XT) (XP := XL q []) (Yf := HK.obs) (Ya := HK.val) (YP := HK.says) (N := N) (d := lawD) (kwd := [])
  left HK.of HK.keeps (fun s e => xl_of s (Bool.and_eq_true_iff.mp e).1) XL.keeps (by kernel_rfl) (by kernel_rfl) (by kernel_rfl) (fun s e => recFacts_of (Bool.and_eq_true_iff.mp e).2) (by kernel_rfl) ok (by decide +kernel)
  ⟨rfl, rfl, rfl, rfl, rfl, by decide +kernel⟩ hw call
set_option backward.match.sparseCases false
set_option genCtorIdx false in
inductive V where
 | pd (d : PyData)
 | ref (i : Nat)
 | evr (sc : V)
 | rng (lo hi : Int)
 | ty (n : String)
 | set (l : List Int)
noncomputable def V.ctorIdx (x : V) : Nat := V.casesOn x (fun _ => 0) (fun _ => 1) (fun _ => 2) (fun _ _ => 3) (fun _ => 4) (fun _ => 5)
set_option genCtorIdx false in
inductive O where
 | list (l : List PyData)
 | dict (l : List (Str × V))
noncomputable def O.ctorIdx (x : O) : Nat := O.casesOn x (fun _ => 0) (fun _ => 1)
noncomputable abbrev Hp := List O
structure Exc where
 lim : Bool
 what : Str
 spot : PyData
inductive Op where
 | add | sub | mul | mod | eq | ne | lt | le | gt | ge | isin | notin | is | isnot
 deriving DecidableEq
inductive Prim where
 | len | isi | int | str | repr | tuple | list | range | sorted | set | max
 deriving DecidableEq
inductive LM where
 | append
 deriving DecidableEq
set_option genCtorIdx false in
inductive Tg where
 | n (i : Nat)
 | t (l : List Tg)
noncomputable def Tg.ctorIdx (x : Tg) : Nat := Tg.casesOn (motive_1 := fun _ => Nat) x (fun _ => 0) (fun _ => 1)
set_option genCtorIdx false in
inductive X where
 | c (d : PyData)
 | g (i : Nat)
 | v (i : Nat)
 | w (i : Nat)
 | ty (n : String)
 | tup (l : List X)
 | lst (m : Bool) (l : List X)
 | dct (m : Bool) (l : List (Str × X))
 | op (o : Op) (a b : X)
 | neg (a : X)
 | not (a : X)
 | and (a b : X)
 | or (a b : X)
 | ch (o p : Op) (a b d : X)
 | ite (t a b : X)
 | sub (a i : X)
 | slice (a : X) (lo hi : Option Int)
 | rev (a : X)
 | cutv (a b : X)
 | pick (rows : List (List Int × Str)) (a : X)
 | scope (a : X)
 | fault (i : Nat) (spot : Bool)
 | call (f : Nat) (l : List X)
 | meth (f : Nat) (o : X) (l : List X)
 | new (a : X)
 | prim (p : Prim) (l : List X)
 | lm (m : LM) (o : X) (l : List X)
 | fstr (l : List X)
 | comp (m : Bool) (e : X) (t : Tg) (it : X) (c : Option X)
 | comp2 (m : Bool) (e : X) (t : Tg) (it : X) (i : Nat) (it2 : X)
 | join (a b : X)
noncomputable def X.ctorIdx (x : X) : Nat := X.casesOn (motive_1 := fun _ => Nat) x (fun _ => 0) (fun _ => 1) (fun _ => 2) (fun _ => 3) (fun _ => 4) (fun _ => 5) (fun _ _ => 6) (fun _ _ => 7) (fun _ _ _ => 8) (fun _ => 9) (fun _ => 10) (fun _ _ => 11) (fun _ _ => 12) (fun _ _ _ _ _ => 13) (fun _ _ _ => 14) (fun _ _ => 15) (fun _ _ _ => 16) (fun _ => 17) (fun _ _ => 18) (fun _ _ => 19) (fun _ => 20) (fun _ _ => 21) (fun _ _ => 22) (fun _ _ _ => 23) (fun _ => 24) (fun _ _ => 25) (fun _ _ _ => 26) (fun _ => 27) (fun _ _ _ _ _ => 28) (fun _ _ _ _ _ _ => 29) (fun _ _ => 30)
set_option genCtorIdx false in
inductive S where
 | asg (i : Nat) (e : X)
 | asgs (l : List Nat) (es : List X)
 | unp (l : List Nat) (e : X)
 | seti (o k e : X)
 | ex (e : X)
 | ret (e : X)
 | ite (t : X) (a b : List S)
 | for (t : Tg) (it : X) (b : List S)
 | bad
 | raise (lim : Bool) (l : List X)
 | try (b : List S) (h : List (Bool × Option Nat × List S))
 | forz (t : Tg) (l : List X) (b : List S)
noncomputable def S.ctorIdx (x : S) : Nat := S.casesOn (motive_1 := fun _ => Nat) x (fun _ _ => 0) (fun _ _ => 1) (fun _ _ => 2) (fun _ _ _ => 3) (fun _ => 4) (fun _ => 5) (fun _ _ _ => 6) (fun _ _ _ => 7) 8 (fun _ _ => 9) (fun _ _ => 10) (fun _ _ _ => 11)
set_option genCtorIdx false in
inductive Loc where
 | v (x : V)
 | fault (e : Exc)
noncomputable def Loc.ctorIdx (x : Loc) : Nat := Loc.casesOn x (fun _ => 0) (fun _ => 1)
set_option genCtorIdx false in
inductive Fl where
 | next | ret (v : V)
noncomputable def Fl.ctorIdx (x : Fl) : Nat := Fl.casesOn x 0 (fun _ => 1)
noncomputable abbrev Fm := List (Option Loc)
noncomputable abbrev KV := V -> Hp -> Prop
noncomputable abbrev KE := Exc -> Hp -> Prop
noncomputable abbrev sb (a b : Str) : Bool := a.cps.toList == b.cps.toList
noncomputable def need {α : Type} (o : Option α) (k : α -> Prop) : Prop := match o with | some a => k a | none => False
noncomputable def alt {β : Type} (a b : Option β) : Option β := match a with
 | some x => some x
 | none => b
noncomputable def when (c : Prop) [Decidable c] (k : Prop) : Prop := match decide c with | true => k | false => False
theorem zah {c : Prop} [Decidable c] {k : Prop} (h : c) (q : k) : when c k := by
 unfold when
 rw [decide_eq_true h]; exact q
theorem zat {c : Prop} [Decidable c] {k : Prop} (h : when c k) : c /\ k := by
 unfold when at h
 by_cases q : c
 ·rw [decide_eq_true q] at h; exact ⟨q, h⟩
 ·rw [decide_eq_false q] at h; exact h.elim
@[irreducible] noncomputable def whenL (c : Prop) [Decidable c] (k : Prop) : Prop := when c k
theorem zge {c : Prop} [Decidable c] {k : Prop} (h : c) (q : k) : whenL c k := by
 unfold whenL; exact zah h q
theorem za9 {c : Prop} [Decidable c] {k : Prop} (h : whenL c k) : c /\ k := by
 unfold whenL at h; exact zat h
noncomputable def gd {β : Type} (c : Prop) [Decidable c] (x : β) : Option β := if c then some x else none
noncomputable def zga : PyData -> Option Int
 | .int i => some i
 | .bool b => some (if b then 1 else 0)
 | _ => none
noncomputable def intP : PyData -> Option Int
 | .int i => some i
 | _ => none
noncomputable def strP : PyData -> Option Str
 | .str x => some x
 | _ => none
noncomputable def zjr : PyData -> Option Bool
 | .bool b => some b
 | _ => none
noncomputable def za7 : PyData -> Option (List PyData)
 | .list l => some l
 | _ => none
noncomputable def tupP : PyData -> Option (List PyData)
 | .tuple l => some l
 | _ => none
noncomputable def zhR : PyData -> Option (List (PyData × PyData))
 | .dict l => some l
 | _ => none
noncomputable def b2 {α β γ : Type} (f : PyData -> Option α) (g : PyData -> Option β) (a b : PyData) (k : α -> β -> Option γ) : Option γ := (f a).bind fun x => (g b).bind fun y => k x y
noncomputable def pdV : V -> Option PyData
 | .pd d => some d
 | _ => none
noncomputable def refV : V -> Option Nat
 | .ref i => some i
 | _ => none
noncomputable def evrV : V -> Option V
 | .evr s => some s
 | _ => none
noncomputable def valL : Loc -> Option V
 | .v x => some x
 | _ => none
noncomputable def fltL : Loc -> Option Exc
 | .fault e => some e
 | _ => none
noncomputable def locA {α : Type} (f : Loc -> Option α) (m : Fm) (i : Nat) : Option α := (m[i]?).bind fun l => l.bind f
noncomputable abbrev locV : Fm -> Nat -> Option V := locA valL
noncomputable def tyV : V -> Option String
 | .ty n => some n
 | _ => none
noncomputable def rngV : V -> Option (Int × Int)
 | .rng a b => some (a, b)
 | _ => none
noncomputable def lstO : O -> Option (List PyData)
 | .list l => some l
 | _ => none
noncomputable def dctO : O -> Option (List (Str × V))
 | .dict l => some l
 | _ => none
noncomputable abbrev intV (v : V) : Option Int := (pdV v).bind intP
noncomputable abbrev zjq (v : V) : Option Bool := (pdV v).bind zjr
noncomputable def newV (v : V) : Option V := alt (((pdV v).bind zhR).map fun l => .pd (.dict l)) ((refV v).map .ref)
noncomputable abbrev strV (v : V) : Option Str := (pdV v).bind strP
noncomputable def lstR (σ : Hp) (v : V) : Option (Nat × List PyData) := (refV v).bind fun i => (σ[i]?).bind fun o => (lstO o).map fun l => (i, l)
noncomputable def dctR (σ : Hp) (v : V) : Option (Nat × List (Str × V)) := (refV v).bind fun i => (σ[i]?).bind fun o => (dctO o).map fun l => (i, l)
noncomputable def zbE : List V -> Option (List PyData)
 | [] => some []
 | v :: r => (pdV v).bind fun d => (zbE r).map (d :: ·)
noncomputable def kvPd : List (Str × V) -> Option (List (PyData × PyData))
 | [] => some []
 | (k, v) :: r => (pdV v).bind fun d => (kvPd r).map ((.str k, d) :: ·)
noncomputable def rdO : O -> Option PyData
 | .list l => some (.list l)
 | .dict l => (kvPd l).map .dict
noncomputable def rd (σ : Hp) : V -> Option PyData
 | .pd d => some d
 | .ref i => (σ[i]?).bind rdO
 | _ => none
noncomputable def zbY (k : Str) : List (Str × V) -> Option V
 | [] => none
 | (a, v) :: r => match sb a k with | true => some v | false => zbY k r
noncomputable def setS (k : Str) (v : V) : List (Str × V) -> List (Str × V)
 | [] => [(k, v)]
 | (a, u) :: r => match sb a k with | true => (a, v) :: r | false => (a, u) :: setS k v r
noncomputable def zdk (k : Str) : List (PyData × PyData) -> Option PyData
 | [] => none
 | (.str a, v) :: r => match sb a k with | true => some v | false => zdk k r
 | _ :: _ => none
noncomputable def zfu (k : Str) : List Str -> Bool
 | [] => true
 | a :: r => !sb a k && zfu k r
noncomputable def zdU : List Str -> Bool
 | [] => true
 | k :: r => zfu k r && zdU r
noncomputable def eqP (a b : PyData) : Option Bool := alt (b2 strP strP a b fun x y => some (sb x y)) (alt (b2 intP intP a b fun i j => some (i == j)) (gd (a.canLay0 = true /\ b.canLay0 = true /\ a.depth <= 64) (PyData.eqv a b)))
noncomputable def okS (x : Str) : Bool := x.cps.toList.all fun c => decide (c < 0x110000)
noncomputable def inS (x : Str) : List PyData -> Option Bool
 | [] => some false
 | d :: r => (strP d).bind fun y => (gd (okS y = true) (sb y x)).bind fun b => (inS x r).map (b || ·)
noncomputable def inI (i : Int) : List PyData -> Option Bool
 | [] => some false
 | d :: r => (intP d).bind fun j => (inI i r).map ((j == i) || ·)
noncomputable def inL (d : PyData) (l : List PyData) : Option Bool := alt ((strP d).bind fun x => (gd (okS x = true) x).bind fun x => inS x l) (alt ((intP d).bind fun i => inI i l) (gd (d.canLay0 = true /\ PyData.canLayAll0 l = true /\ d.depth <= 64) (l.any fun y => PyData.eqv y d)))
noncomputable def addP (a b : PyData) : Option PyData := alt (b2 strP strP a b fun x y => gd (x.length + y.length <= sizeLine) (.str (x ++ y))) (alt (b2 za7 za7 a b fun x y => gd (x.length + y.length <= sizeLine) (.list (x ++ y))) (b2 intP intP a b fun i j => some (.int (i + j))))
noncomputable def subP (a b : PyData) : Option PyData := b2 intP intP a b fun i j => some (.int (i - j))
noncomputable def mulP (a b : PyData) : Option PyData := b2 intP intP a b fun i j => gd (-(2 ^ 64) < i /\ i < 2 ^ 64) (.int (i * j))
noncomputable def modP (a b : PyData) : Option PyData := b2 intP intP a b fun i j => gd (0 < j) (.int (Int.emod i j))
noncomputable def zbO : List PyData -> Option (List Int)
 | [] => some []
 | d :: r => (intP d).bind fun i => (zbO r).map (i :: ·)
noncomputable def ltP (a b : PyData) : Option Bool := alt (b2 strP strP a b fun x y => some (decide (x.cps.toList < y.cps.toList))) (b2 zga zga a b fun i j => some (decide (i < j)))
noncomputable def ordP (f : Int -> Int -> Bool) (a b : PyData) : Option Bool := b2 intP intP a b fun i j => some (f i j)
noncomputable def isN : PyData -> Bool
 | .none => true
 | _ => false
noncomputable def isP (a b : PyData) : Option Bool := gd (isN b = true) (isN a)
noncomputable def opP (o : Op) (a b : PyData) : Option PyData := match o with
 | .add => addP a b
 | .sub => subP a b
 | .mul => mulP a b
 | .mod => modP a b
 | .eq => (eqP a b).map .bool
 | .ne => (eqP a b).map fun r => .bool (!r)
 | .lt => (ltP a b).map .bool
 | .le => (ordP (fun i j => decide (i <= j)) a b).map .bool
 | .gt => (ordP (fun i j => decide (i > j)) a b).map .bool
 | .ge => (ordP (fun i j => decide (i >= j)) a b).map .bool
 | .is => (isP a b).map .bool
 | .isnot => (isP a b).map fun r => .bool (!r)
 | _ => none
noncomputable def setV : V -> Option (List Int)
 | .set l => some l
 | _ => none
noncomputable def inV (x : V) (σ : Hp) (y : V) : Option Bool := alt ((dctR σ y).bind fun p => (strV x).bind fun k => some (zbY k p.2).isSome)
 ((rd σ y).bind fun d => alt ((za7 d).bind fun l => (pdV x).bind fun c => inL c l) (alt ((tupP d).bind fun l => (pdV x).bind fun c => inL c l) ((zhR d).bind fun l => (strV x).bind fun k => some (zdk k l).isSome)))
noncomputable def evOp (o : Op) (a b : V) (σ : Hp) : Option PyData := match o with
 | .isin => (inV a σ b).map .bool
 | .notin => (inV a σ b).map fun r => .bool (!r)
 | o => (rd σ a).bind fun x => (rd σ b).bind fun y => opP o x y
noncomputable def zaW {κ α : Type} [DecidableEq κ] : List (κ × α) -> κ -> Option α
 | [], _ => none
 | (a, k) :: r, x => if a = x then some k else zaW r x
noncomputable def isiL : PyData -> List (String × Bool)
 | .bool _ => [("bool", true), ("int", true), ("str", false), ("tuple", false), ("list", false)]
 | .int _ => [("bool", false), ("int", true), ("str", false), ("tuple", false), ("list", false)]
 | .str _ => [("bool", false), ("int", false), ("str", true), ("tuple", false), ("list", false)]
 | .tuple _ => [("bool", false), ("int", false), ("str", false), ("tuple", true), ("list", false)]
 | .list _ => [("list", true), ("tuple", false)]
 | .none => [("tuple", false)]
 | _ => []
noncomputable def isiP (d : PyData) (n : String) : Option Bool := zaW (isiL d) n
noncomputable def zaQ (a b : Int) : List PyData := (List.range (b - a).toNat).map fun (k : Nat) => PyData.int (a + k)
noncomputable def seqT (σ : Hp) (v : V) : Option (List PyData) := (rd σ v).bind fun d => alt (za7 d) (tupP d)
noncomputable def zac (σ : Hp) (v : V) : Option (List PyData) := alt (seqT σ v) ((rngV v).bind fun p => gd (-(2 ^ 62) <= p.1 /\ p.1 < 2 ^ 62 /\ -(2 ^ 62) <= p.2 /\ p.2 < 2 ^ 62) (zaQ p.1 p.2))
noncomputable def still (σ σ' : Hp) (v : V) (k : Prop) : Prop := match v with
 | .ref i => σ'[i]? = σ[i]? /\ k
 | _ => k
noncomputable def one (vs : List V) (k : V -> Prop) : Prop := match vs with
 | [v] => k v
 | _ => False
noncomputable def two (vs : List V) (k : V -> V -> Prop) : Prop := match vs with
 | [v, u] => k v u
 | _ => False
noncomputable def insI (i : Int) : List Int -> List Int
 | [] => [i]
 | j :: r => if i <= j then i :: j :: r else j :: insI i r
noncomputable def zdM : List Int -> List Int
 | [] => []
 | i :: r => insI i (zdM r)
noncomputable def dedup (l : List Int) : List Int := l.foldl step_dedup []
noncomputable def zeV (v : V) (σ : Hp) (K : KV) : Prop := match rngV v with
 | some p => when (-(2 ^ 62) <= p.1 /\ p.1 < 2 ^ 62 /\ -(2 ^ 62) <= p.2 /\ p.2 < 2 ^ 62 /\ p.2 - p.1 <= 2 ^ 24) (K (.pd (.tuple (zaQ p.1 p.2))) σ)
 | none => need (seqT σ v) fun l => when (l.length <= sizeLine) (K (.pd (.tuple l)) σ)
noncomputable def zhv (v : V) (σ : Hp) (K : KV) : Prop := match rngV v with
 | some p => when (-(2 ^ 62) <= p.1 /\ p.1 < 2 ^ 62 /\ -(2 ^ 62) <= p.2 /\ p.2 < 2 ^ 62 /\ p.2 - p.1 <= 2 ^ 24) (K (.pd (.list (zaQ p.1 p.2))) σ)
 | none => need (seqT σ v) fun l => when (l.length <= sizeLine) (K (.pd (.list l)) σ)
noncomputable def zih (σ : Hp) (v : V) : Option (List Int) := alt ((setV v).bind fun l => gd (l.length <= 4) l) ((seqT σ v).bind fun l => gd (l.length < 64) l |>.bind zbO)
noncomputable def zhu (vs : List V) (σ : Hp) (K : KV) : Prop := match vs with
 | [v] => need (intV v) fun n => K (.rng 0 n) σ
 | vs => two vs fun v u => need (intV v) fun a => need (intV u) fun b => K (.rng a b) σ
noncomputable def zaX (p : Prim) (vs : List V) (σ : Hp) (K : KV) : Prop := match p with
 | .len => one vs fun v => need (seqT σ v) fun l => when (l.length <= sizeLine) (K (.pd (.int l.length)) σ)
 | .isi => two vs fun v u => need (pdV v) fun d => need (tyV u) fun n => need (isiP d n) fun b => K (.pd (.bool b)) σ
 | .int => one vs fun v => need (pdV v) fun d => need (zga d) fun i => K (.pd (.int i)) σ
 | .str => one vs fun v => need (intV v) fun i => when (i.natAbs.log2 < 1920) (K (.pd (.str (Str.ofString (toString i)))) σ)
 | .repr => one vs fun v => need (rd σ v) fun d => whenL (d.showable = true /\ d.depth <= 64 /\ d.shown.length <= sizeLine) (K (.pd (.str d.shown)) σ)
 | .tuple => one vs fun v => zeV v σ K
 | .list => one vs fun v => zhv v σ K
 | .range => zhu vs σ K
 | .sorted => one vs fun v => need (zih σ v) fun l => K (.pd (.list ((zdM l).map .int))) σ
 | .set => one vs fun v => need ((seqT σ v).bind zbO) fun l => when (l.length < 1000) (K (.set (dedup l)) σ)
 | .max => two vs fun v u => need (intV v) fun a => need (intV u) fun b => K (.pd (.int (if a < b then b else a))) σ
noncomputable def evLM (m : LM) (o : V) (vs : List V) (σ : Hp) (K : KV) : Prop := match m with
 | .append => one vs fun v => need (pdV v) fun d => need (lstR σ o) fun p => when (p.2.length < sizeLine) (K (.pd .none) (σ.set p.1 (.list (p.2 ++ [d]))))
noncomputable def idx (l : List PyData) (i : Int) : Option PyData := if -(l.length : Int) <= i /\ i < l.length /\ l.length <= sizeLine then l[(if i < 0 then i + l.length else i).toNat]? else none
noncomputable def zaA (σ : Hp) (a i : V) : Option V := alt ((strV i).bind fun k => alt ((dctR σ a).bind fun p => zbY k p.2) (((pdV a).bind zhR).bind fun l => (zdk k l).map .pd))
 ((intV i).bind fun i => (rd σ a).bind fun d => alt ((za7 d).bind fun l => (idx l i).map .pd) ((tupP d).bind fun l => (idx l i).map .pd))
noncomputable def cut (l : List PyData) (lo hi : Option Int) : List PyData :=
 let n := l.length
 let a := lo.elim 0 (clipAt n)
 let b := hi.elim n (clipAt n)
 (l.drop a).take (b - a)
noncomputable def zfp : Option Int -> Bool
 | none => true
 | some i => decide (0 <= i)
noncomputable def zdr (σ : Hp) (a : V) (lo hi : Option Int) : Option PyData := (rd σ a).bind fun d => alt ((za7 d).bind fun l => gd (l.length <= sizeLine) (.list (cut l lo hi))) ((tupP d).bind fun l => gd (l.length <= sizeLine /\ zfp lo = true /\ zfp hi = true) (.tuple (cut l lo hi)))
noncomputable def zht (σ : Hp) (a : V) : Option PyData := (rd σ a).bind fun d => (za7 d).bind fun l => gd (l.length <= sizeLine) (.list l.reverse)
noncomputable def zmd (rows : List (List Int × Str)) (x : V) : Option PyData := (((pdV x).bind tupP).bind zbO).bind fun k => (zaW rows k).map .str
noncomputable def zd7 : Fm -> Nat -> Bool
 | [], _ => false
 | o :: _, 0 => o.isNone
 | _ :: r, n + 1 => zd7 r n
noncomputable def zlI : PyData -> Option Str
 | .str x => some x
 | .int i => if i.natAbs.log2 < 1920 then some (Str.ofString (toString i)) else none
 | _ => none
noncomputable abbrev txt (v : V) : Option Str := (pdV v).bind zlI
noncomputable def zfM : List PyData -> Option (List Str)
 | [] => some []
 | d :: r => (strP d).bind fun x => (zfM r).map (x :: ·)
noncomputable def zkS (σ : Hp) (x : Str) (v : V) : Option PyData := (((rd σ v).bind za7).bind zfM).bind fun l => gd ((l.map (·.length)).sum + l.length <= 1048576 /\ x.length <= 16) (.str (Txt.join x l))
noncomputable def zaw {α : Type} : List α -> Nat -> α -> List α
 | [], _, _ => []
 | _ :: r, 0, x => x :: r
 | y :: r, n + 1, x => y :: zaw r n x
mutual
noncomputable def tgFm (m : Fm) : Tg -> PyData -> Option Fm
 | .n i, d => if i < m.length then some (zaw m i (some (.v (.pd d)))) else none
 | .t l, .tuple ds => tgsFm m l ds
 | .t _, _ => none
noncomputable def tgsFm (m : Fm) : List Tg -> List PyData -> Option Fm
 | [], [] => some m
 | t :: ts, d :: ds => (tgFm m t d).bind fun m' => tgsFm m' ts ds
 | _, _ => none
end
noncomputable abbrev kd (o : Option PyData) (K : KV) (σ : Hp) : Prop := need o fun d => K (.pd d) σ
noncomputable abbrev truth (v : V) (k : Bool -> Prop) : Prop := need (zjq v) k
noncomputable def hN (x : Option Nat) (a : Nat -> Prop) (b : Prop) : Prop := match x with
 | some i => a i
 | none => b
noncomputable def brn (b : Bool) (x y : Prop) : Prop := match b with
 | true => x
 | false => y
noncomputable def forN (turn : PyData -> Fm -> Hp -> (Fl -> Fm -> Hp -> Prop) -> Prop) (ok : Hp -> Prop -> Prop) (K : Fl -> Fm -> Hp -> Prop) : List PyData -> Fm -> Hp -> Prop
 | [], m, σ => K .next m σ
 | d :: r, m, σ => turn d m σ fun f m' σ' => match f with
  | .ret v => K (.ret v) m' σ'
  | _ => ok σ' (forN turn ok K r m' σ')
noncomputable def zau (turn : PyData -> List PyData -> Hp -> (List PyData -> Hp -> Prop) -> Prop) (ok : Hp -> Prop -> Prop) (K : List PyData -> Hp -> Prop) : List PyData -> List PyData -> Hp -> Prop
 | [], acc, σ => K acc σ
 | d :: r, acc, σ => turn d acc σ fun acc' σ' => ok σ' (zau turn ok K r acc' σ')
noncomputable def made (m : Bool) (l : List PyData) (σ : Hp) (K : KV) : Prop := when (l.length <= sizeLine) (brn m (K (.ref σ.length) (σ ++ [.list l])) (K (.pd (.list l)) σ))
noncomputable abbrev mc0 : Fm := List.replicate 12 none
noncomputable abbrev zaa := Nat -> List Loc -> Hp -> KV -> KE -> Prop
section
variable (G : zaa) (gc : Nat -> PyData)
mutual
noncomputable def evX (m : Fm) (mc : Fm) : X -> Hp -> KV -> KE -> Prop
 | .c d, σ, K, _ => K (.pd d) σ
 | .g i, σ, K, _ => K (.pd (gc i)) σ
 | .v i, σ, K, _ => need (locV m i) fun x => K x σ
 | .w i, σ, K, _ => need (locV mc i) fun x => K x σ
 | .ty n, σ, K, _ => K (.ty n) σ
 | .tup l, σ, K, E => evXs m mc l σ (fun vs σ' => need (zbE vs) fun ds => when (ds.length <= sizeLine) (K (.pd (.tuple ds)) σ')) E
 | .lst b l, σ, K, E => evXs m mc l σ (fun vs σ' => need (zbE vs) fun ds => made b ds σ' K) E
 | .dct b l, σ, K, E => evKs m mc l σ (fun kvs σ' => when (zdU (kvs.map (·.1)) = true) (brn b (K (.ref σ'.length) (σ' ++ [.dict kvs])) (need (kvPd kvs) fun ds => K (.pd (.dict ds)) σ'))) E
 | .op o a b, σ, K, E => evX m mc a σ (fun x σ1 => evX m mc b σ1 (fun y σ2 => kd (evOp o x y σ2) K σ2) E) E
 | .neg a, σ, K, E => evX m mc a σ (fun x σ1 => need (intV x) fun i => K (.pd (.int (-i))) σ1) E
 | .not a, σ, K, E => evX m mc a σ (fun x σ1 => truth x fun b => K (.pd (.bool (!b))) σ1) E
 | .and a b, σ, K, E => evX m mc a σ (fun x σ1 => truth x fun t => brn t (evX m mc b σ1 K E) (K x σ1)) E
 | .or a b, σ, K, E => evX m mc a σ (fun x σ1 => truth x fun t => brn t (K x σ1) (evX m mc b σ1 K E)) E
 | .ch o p a b d, σ, K, E => evX m mc a σ (fun x σ1 => evX m mc b σ1 (fun y σ2 => need ((evOp o x y σ2).bind zjr) fun t => brn t (evX m mc d σ2 (fun z σ3 => kd (evOp p y z σ3) K σ3) E) (K (.pd (.bool false)) σ2)) E) E
 | .ite t a b, σ, K, E => evX m mc t σ (fun x σ1 => truth x fun r => brn r (evX m mc a σ1 K E) (evX m mc b σ1 K E)) E
 | .sub a i, σ, K, E => evX m mc a σ (fun x σ1 => evX m mc i σ1 (fun y σ2 => need (zaA σ2 x y) fun z => K z σ2) E) E
 | .slice a lo hi, σ, K, E => evX m mc a σ (fun x σ1 => kd (zdr σ1 x lo hi) K σ1) E
 | .rev a, σ, K, E => evX m mc a σ (fun x σ1 => kd (zht σ1 x) K σ1) E
 | .cutv a b, σ, K, E => evX m mc a σ (fun x σ1 => evX m mc b σ1 (fun y σ2 => need (intV y) fun i => kd (zdr σ2 x none (some i)) K σ2) E) E
 | .pick rows a, σ, K, E => evX m mc a σ (fun x σ1 => kd (zmd rows x) K σ1) E
 | .scope a, σ, K, E => evX m mc a σ (fun x σ1 => need (evrV x) fun s => K s σ1) E
 | .fault i b, σ, K, _ => need (locA fltL m i) fun e => when ((!b || !e.lim) = true) (K (.pd (if b then e.spot else .str e.what)) σ)
 | .call f l, σ, K, E => evXs m mc l σ (fun vs σ' => G f (vs.map .v) σ' K E) E
 | .meth f o l, σ, K, E => evX m mc o σ (fun x σ1 => need (evrV x) fun s => evXs m mc l σ1 (fun vs σ' => G f (.v (.evr s) :: vs.map .v) σ' K E) E) E
 | .new a, σ, K, E => evX m mc a σ (fun x σ1 => need (newV x) fun d => K (.evr d) σ1) E
 | .prim p l, σ, K, E => evXs m mc l σ (fun vs σ' => zaX p vs σ' K) E
 | .lm q o l, σ, K, E => evX m mc o σ (fun x σ1 => when ((lstR σ1 x).isSome = true) (evXs m mc l σ1 (fun vs σ' => evLM q x vs σ' K) E)) E
 | .fstr l, σ, K, E => evFs m mc l Str.empty σ (fun x σ' => K (.pd (.str x)) σ') E
 | .comp b e t it c, σ, K, E => evX m mc it σ (fun x σ1 => need (zac σ1 x) fun l =>
   zau (fun d acc σ2 k => need (tgFm mc0 t d) fun mc' => evC m mc' c σ2 (fun r σ3 => brn r (when (acc.length <= sizeLine) (evX m mc' e σ3 (fun v σ4 => need (pdV v) fun d' => k (acc ++ [d']) σ4) E)) (k acc σ3)) E)
    (fun σ' k => still σ1 σ' x k) (fun ds σ' => made b ds σ' K) l [] σ1) E
 | .comp2 b e t it i it2, σ, K, E => evX m mc it σ (fun x σ1 => need (zac σ1 x) fun l =>
   zau (fun d acc σ2 k => need (tgFm mc0 t d) fun mc' => when (zd7 mc' i = true) (evX m mc' it2 σ2 (fun y σ3 => need (zac σ3 y) fun l2 =>
     zau (fun d2 acc2 σ4 k2 => need (tgFm mc' (.n i) d2) fun mc2 => when (acc2.length <= sizeLine) (evX m mc2 e σ4 (fun v σ5 => need (pdV v) fun d' => k2 (acc2 ++ [d']) σ5) fun _ _ => False))
      (fun σ' k' => still σ3 σ' y k') k l2 acc σ3) fun _ _ => False))
    (fun σ' k => still σ1 σ' x k) (fun ds σ' => made b ds σ' K) l [] σ1) E
 | .join a b, σ, K, E => evX m mc a σ (fun x σ1 => need (strV x) fun u => evX m mc b σ1 (fun y σ2 => kd (zkS σ2 u y) K σ2) E) E
noncomputable def evC (m : Fm) (mc : Fm) : Option X -> Hp -> (Bool -> Hp -> Prop) -> KE -> Prop
 | none, σ, K, _ => K true σ
 | some e, σ, K, E => evX m mc e σ (fun v σ' => truth v fun r => K r σ') E
noncomputable def evXs (m : Fm) (mc : Fm) : List X -> Hp -> (List V -> Hp -> Prop) -> KE -> Prop
 | [], σ, K, _ => K [] σ
 | x :: r, σ, K, E => evX m mc x σ (fun v σ1 => evXs m mc r σ1 (fun vs σ2 => K (v :: vs) σ2) E) E
noncomputable def evFs (m : Fm) (mc : Fm) : List X -> Str -> Hp -> (Str -> Hp -> Prop) -> KE -> Prop
 | [], acc, σ, K, _ => whenL (acc.length <= sizeLine) (K acc σ)
 | x :: r, acc, σ, K, E => evX m mc x σ (fun v σ1 => need (txt v) fun y => whenL (y.length <= sizeLine /\ (acc ++ y).length <= sizeLine) (evFs m mc r (acc ++ y) σ1 K E)) E
noncomputable def evKs (m : Fm) (mc : Fm) : List (Str × X) -> Hp -> (List (Str × V) -> Hp -> Prop) -> KE -> Prop
 | [], σ, K, _ => K [] σ
 | (k, x) :: r, σ, K, E => evX m mc x σ (fun v σ1 => evKs m mc r σ1 (fun vs σ2 => K ((k, v) :: vs) σ2) E) E
end
noncomputable abbrev KS := Fl -> Fm -> Hp -> Prop
noncomputable def zcg : V -> Bool
 | .rng .. => false
 | _ => true
noncomputable def zipT (a b : List PyData) : List PyData := (a.zip b).map fun p => .tuple [p.1, p.2]
noncomputable def asgN : List Nat -> List V -> Fm -> Option Fm
 | [], [], m => some m
 | i :: r, v :: q, m => if i < m.length then asgN r q (zaw m i (some (.v v))) else none
 | _, _, _ => none
noncomputable def zci (d : PyData) : Option (List PyData) := alt (za7 d) (tupP d)
noncomputable def zhr (σ : Hp) (o k v : V) : Option Hp := alt ((strV k).bind fun s => (dctR σ o).bind fun p => gd (p.2.length <= sizeLine) (σ.set p.1 (.dict (setS s v p.2))))
 ((intV k).bind fun i => (lstR σ o).bind fun p => (pdV v).bind fun d => gd (i < 0 /\ -(p.2.length : Int) <= i /\ p.2.length <= sizeLine) (σ.set p.1 (.list (p.2.set (i + p.2.length).toNat d))))
noncomputable def zf6 (lim : Bool) (vs : List V) : Option Exc := match vs with
 | [a] => (strV a).bind fun w => gd (lim = true) ⟨true, w, .none⟩
 | [a, b] => (strV a).bind fun w => (pdV b).bind fun d => gd (lim = false) ⟨false, w, d⟩
 | _ => none
mutual
noncomputable def evS : S -> Fm -> Hp -> KS -> KE -> Prop
 | .asg i e, m, σ, K, E => evX G gc m [] e σ (fun v σ' => when (i < m.length) (K .next (zaw m i (some (.v v))) σ')) E
 | .asgs l es, m, σ, K, E => evXs G gc m [] es σ (fun vs σ' => need (asgN l vs m) fun m' => K .next m' σ') E
 | .unp l e, m, σ, K, E => evX G gc m [] e σ (fun v σ' => need (rd σ' v) fun d => need (zci d) fun ds => need (asgN l (ds.map .pd) m) fun m' => K .next m' σ') E
 | .seti o k e, m, σ, K, E => evX G gc m [] e σ (fun v σ1 => evX G gc m [] o σ1 (fun x σ2 => evX G gc m [] k σ2 (fun y σ3 => need (zhr σ3 x y v) fun σ4 => K .next m σ4) E) E) E
 | .ex e, m, σ, K, E => evX G gc m [] e σ (fun _ σ' => K .next m σ') E
 | .ret e, m, σ, K, E => evX G gc m [] e σ (fun v σ' => K (.ret v) m σ') E
 | .ite t a b, m, σ, K, E => evX G gc m [] t σ (fun v σ' => truth v fun r => brn r (evSs a m σ' K E) (evSs b m σ' K E)) E
 | .for t it b, m, σ, K, E => evX G gc m [] it σ (fun x σ1 => need (zac σ1 x) fun l =>
   forN (fun d m' σ' k => need (tgFm m' t d) fun m'' => evSs b m'' σ' k E) (fun σ' k => still σ1 σ' x k) K l m σ1) E
 | .bad, _, _, _, _ => False
 | .raise lim l, m, σ, _, E => evXs G gc m [] l σ (fun vs σ' => need (zf6 lim vs) fun e => E e σ') E
 | .try b h, m, σ, K, E => evSs b m σ K (fun e σ' => evH h e m σ' K E)
 | .forz t l b, m, σ, K, E => evXs G gc m [] l σ (fun vs σ1 => two vs fun x y => when (zcg x = true /\ zcg y = true) (need (zac σ1 x) fun l1 => need (zac σ1 y) fun l2 =>
    forN (fun d m' σ' k => need (tgFm m' t d) fun m'' => evSs b m'' σ' k E) (fun σ' k => still σ1 σ' x (still σ1 σ' y k)) K (zipT l1 l2) m σ1)) E
noncomputable def evSs : List S -> Fm -> Hp -> KS -> KE -> Prop
 | [], m, σ, K, _ => K .next m σ
 | s :: r, m, σ, K, E => evS s m σ (fun f m' σ' => match f with
   | .next => evSs r m' σ' K E
   | f => K f m' σ') E
noncomputable def evH : List (Bool × Option Nat × List S) -> Exc -> Fm -> Hp -> KS -> KE -> Prop
 | [], e, _, σ, _, E => E e σ
 | (lim, x, b) :: r, e, m, σ, K, E => if lim = e.lim then
   hN x (fun i => when (i < m.length) (evSs b (zaw m i (some (.fault e))) σ (fun f m' σ' => K f (zaw m' i none) σ') (fun _ _ => False))) (evSs b m σ K (fun _ _ => False))
  else evH r e m σ K E
end
end
structure Fn where
 size : Nat
 ps : List Nat
 body : List S
noncomputable def zdg : List Nat -> List Loc -> Fm -> Option Fm
 | [], [], m => some m
 | i :: r, a :: q, m => if i < m.length then zdg r q (zaw m i (some a)) else none
 | _, _, _ => none
noncomputable def zaM (tab : Nat -> Option Fn) (gc : Nat -> PyData) : Nat -> zaa
 | 0, _, _, _, _, _ => False
 | n + 1, f, as, σ, K, E => need (tab f) fun fn => need (zdg fn.ps as (List.replicate fn.size none)) fun m =>
   evSs (zaM tab gc n) gc fn.body m σ (fun fl _ σ' => match fl with
    | .ret v => K v σ'
    | .next => K (.pd .none) σ') E
section
variable {α β γ : Type} {P : Prop}
theorem bd_e {o : Option α} {k : α -> Option β} {b : β} (h : o.bind k = some b) (c : ∀ a, o = some a -> k a = some b -> P) : P := by
 cases o with
 | none => cases h
 | some a => exact c a rfl h
theorem zbH {o : Option α} {f : α -> β} {b : β} (h : o.map f = some b) (c : ∀ a, o = some a -> f a = b -> P) : P := by
 cases o with
 | none => cases h
 | some a => exact c a rfl (Option.some.inj h)
theorem zaJ {a b : Option β} {c : β} (h : alt a b = some c) (l : a = some c -> P) (r : b = some c -> P) : P := by
 cases a with
 | none => exact r h
 | some x => exact l h
theorem gd_e {c : Prop} [Decidable c] {x y : β} (h : gd c x = some y) (k : c -> x = y -> P) : P := by
 by_cases q : c
 ·exact k q (Option.some.inj ((if_pos q).symm.trans h))
 ·cases (if_neg q).symm.trans h
theorem b2_e {f : PyData -> Option α} {g : PyData -> Option β} {a b : PyData} {k : α -> β -> Option γ} {c : γ} (h : b2 f g a b k = some c) (n : ∀ x y, f a = some x -> g b = some y -> k x y = some c -> P) : P :=
 bd_e h fun x h1 h => bd_e h fun y h2 h => n x y h1 h2 h
@[elab_as_elim] theorem some_m {P : β -> Prop} {x y : β} (h : some x = some y) (k : P x) : P y := Option.some.inj h ▸ k
@[elab_as_elim] theorem gd_m {P : β -> Prop} {c : Prop} [Decidable c] {x y : β} (h : gd c x = some y) (k : c -> P x) : P y := gd_e h fun q e => e ▸ k q
@[elab_as_elim] theorem map_m {P : β -> Prop} {o : Option α} {f : α -> β} {b : β} (h : o.map f = some b) (k : ∀ a, o = some a -> P (f a)) : P b := zbH h fun a q e => e ▸ k a q
theorem zaj {o : Option α} {k : α -> Prop} (h : need o k) (c : ∀ a, o = some a -> k a -> P) : P := by
 cases o with
 | none => exact h.elim
 | some a => exact c a rfl h
theorem zn2 {vs : List V} {k : V -> Prop} (h : one vs k) (c : ∀ v, vs = [v] -> k v -> P) : P := by
 cases vs with
 | nil => exact h.elim
 | cons v r =>
  cases r with
  | nil => exact c v rfl h
  | cons => exact h.elim
theorem znL {vs : List V} {k : V -> V -> Prop} (h : two vs k) (c : ∀ v u, vs = [v, u] -> k v u -> P) : P := by
 cases vs with
 | nil => exact h.elim
 | cons v r =>
  cases r with
  | nil => exact h.elim
  | cons u r =>
   cases r with
   | nil => exact c v u rfl h
   | cons => exact h.elim
end
theorem zc4 {d : PyData} {i : Int} (h : intP d = some i) : d = .int i := by cases d <;> cases h; rfl
theorem zdJ {d : PyData} {x : Str} (h : strP d = some x) : d = .str x := by cases d <;> cases h; rfl
theorem zbf {d : PyData} {l : List PyData} (h : za7 d = some l) : d = .list l := by cases d <;> cases h; rfl
theorem zcn {d : PyData} {l : List PyData} (h : tupP d = some l) : d = .tuple l := by cases d <;> cases h; rfl
theorem zdx {d : PyData} {l : List (PyData × PyData)} (h : zhR d = some l) : d = .dict l := by cases d <;> cases h; rfl
theorem zbv {v : V} {d : PyData} (h : pdV v = some d) : v = .pd d := by cases v <;> cases h; rfl
theorem zgI {v : V} {i : Nat} (h : refV v = some i) : v = .ref i := by cases v <;> cases h; rfl
theorem zgH {v : V} {p : Int × Int} (h : rngV v = some p) : v = .rng p.1 p.2 := by cases v <;> cases h; rfl
theorem znK {v : V} {n : String} (h : tyV v = some n) : v = .ty n := by cases v <;> cases h; rfl
theorem zbz {v : V} {i : Int} (h : intV v = some i) : v = .pd (.int i) := bd_e h fun d h1 h2 => by rw [zbv h1, zc4 h2]
theorem zb6 {v : V} {x : Str} (h : strV v = some x) : v = .pd (.str x) := bd_e h fun d h1 h2 => by rw [zbv h1, zdJ h2]
theorem zmw {σ : Hp} {v : V} {p : Nat × List PyData} (h : lstR σ v = some p) : v = .ref p.1 /\ σ[p.1]? = some (.list p.2) :=
 bd_e h fun i h1 h => bd_e h fun o h2 h => zbH h fun l h3 h => by
  subst h
  cases o <;> cases h3
  exact ⟨zgI h1, h2⟩
theorem zem {σ : Hp} {v : V} {p : Nat × List (Str × V)} (h : dctR σ v = some p) : v = .ref p.1 /\ σ[p.1]? = some (.dict p.2) :=
 bd_e h fun i h1 h => bd_e h fun o h2 h => zbH h fun l h3 h => by
  subst h
  cases o <;> cases h3
  exact ⟨zgI h1, h2⟩
theorem ze2 {d : PyData} {b : Bool} (h : zjr d = some b) : d = .bool b := by cases d <;> cases h; rfl
theorem zle {v : V} {b : Bool} (h : zjq v = some b) : v = .pd (.bool b) := bd_e h fun d h1 h2 => by rw [zbv h1, ze2 h2]
theorem zjN {v s : V} (h : evrV v = some s) : v = .evr s := by cases v <;> cases h; rfl
theorem zly {l : Loc} {x : V} (h : valL l = some x) : l = .v x := by cases l <;> cases h; rfl
theorem zmP {l : Loc} {e : Exc} (h : fltL l = some e) : l = .fault e := by cases l <;> cases h; rfl
theorem zjK {α : Type} {P : Prop} {f : Loc -> Option α} {m : Fm} {i : Nat} {a : α} (h : locA f m i = some a) (c : ∀ l, m[i]? = some (some l) -> f l = some a -> P) : P :=
 bd_e h fun o h1 h2 => bd_e h2 fun l h3 h4 => c l (h3 ▸ h1) h4
end Mine.Lake
namespace Mine.Lake
open PySem PySem.W PyProof.Rows PySem.Calls
inductive Kd where
 | ot | fz | mu | fr | ex | tb | cl
 deriving DecidableEq
structure Gh where
 κ : Addr -> Kd
 μ : Nat -> Addr
 n : Nat
section
variable (P : Params) (h : Heap) (κ : Addr -> Kd)
mutual
inductive PV : Value -> PyData -> Prop
 | none : PV .none .none
 | bool (b : Bool) : PV (.bool b) (.bool b)
 | int (i : Int) (t : Tok) : PV (.int i t) (.int i)
 | str (x : Str) (t : Tok) : PV (.str x t) (.str x)
 | tuple {a : Addr} {o : Obj} {vs : Array Value} {n : Nat} {ds : List PyData} : κ a = .fz -> h.get? a = some o -> o.cls = .type "tuple" -> o.data = .seq vs n -> PVs vs.toList ds -> PV (.ref a) (.tuple ds)
 | list {a : Addr} {o : Obj} {vs : Array Value} {n : Nat} {ds : List PyData} : κ a = .fz -> h.get? a = some o -> o.cls = .type "list" -> o.data = .seq vs n -> a ≠ sysModules -> PVs vs.toList ds -> PV (.ref a) (.list ds)
 | dict {a : Addr} {es : Array DictEntry} {n : Nat} {kvs : List (PyData × PyData)} : κ a = .fz -> h.get? a = some ⟨.type "dict", none, .dict es n, #[]⟩ -> a ≠ sysModules -> PEs es.toList kvs -> PV (.ref a) (.dict kvs)
inductive PVs : List Value -> List PyData -> Prop
 | nil : PVs [] []
 | cons {v : Value} {vs : List Value} {d : PyData} {ds : List PyData} : PV v d -> PVs vs ds -> PVs (v :: vs) (d :: ds)
inductive PEs : List DictEntry -> List (PyData × PyData) -> Prop
 | nil : PEs [] []
 | cons {e : DictEntry} {es : List DictEntry} {k : Str} {t : Tok} {d : PyData} {kvs : List (PyData × PyData)} : e.key = .str k t -> e.hash = PyData.keyHash P k -> PV e.val d -> (∀ e' ∈ es, e'.key.isStr k = false) -> PEs es kvs -> PEs (e :: es) ((.str k, d) :: kvs)
end
end
noncomputable def Fz (κ κ' : Addr -> Kd) (h h' : Heap) : Prop := ∀ a o, κ a = .fz -> h.get? a = some o -> κ' a = .fz /\ h'.get? a = some o
structure Ext (X : Addr -> Prop) (g g' : Gh) (h h' : Heap) : Prop where
 kind : ∀ a o, h.get? a = some o -> g'.κ a = g.κ a
 num : g.n <= g'.n
 addr : ∀ i, i < g.n -> g'.μ i = g.μ i
 fz : Fz g.κ g'.κ h h'
 keep : ∀ a o, h.get? a = some o -> ¬ X a -> g.κ a ≠ .mu -> g.κ a ≠ .fr -> g.κ a ≠ .ex -> g.κ a ≠ .tb -> h'.get? a = some o
 frs : ∀ a o, h.get? a = some o -> ¬ X a -> g.κ a = .fr -> ∃ sl, h'.get? a = some { o with slots := sl }
 exs : ∀ a o vs, h.get? a = some o -> ¬ X a -> g.κ a = .ex -> o.data = .fields vs -> ∃ ws, h'.get? a = some { o with data := .fields ws }
 still : ∀ a o, h.get? a = some o -> ∃ o', h'.get? a = some o'
noncomputable abbrev No : Addr -> Prop := fun _ => False
theorem Ext.refl (X : Addr -> Prop) (g : Gh) (h : Heap) : Ext X g g h h := ⟨fun _ _ _ => rfl, Nat.le_refl _, fun _ _ => rfl, fun _ _ k e => ⟨k, e⟩, fun _ _ e _ _ _ _ _ => e, fun _ o e _ _ => ⟨o.slots, e⟩, fun _ o vs e _ _ q => ⟨vs, q ▸ e⟩, fun _ o e => ⟨o, e⟩⟩
theorem Ext.trans {X : Addr -> Prop} {g g' g'' : Gh} {h h' h'' : Heap} (x : Ext X g g' h h') (y : Ext X g' g'' h' h'') : Ext X g g'' h h'' where
 kind a o e := by
  obtain ⟨o', e'⟩ := x.still a o e
  exact (y.kind a o' e').trans (x.kind a o e)
 num := Nat.le_trans x.num y.num
 addr i hi := (y.addr i (Nat.lt_of_lt_of_le hi x.num)).trans (x.addr i hi)
 fz a o k e := y.fz a o (x.fz a o k e).1 (x.fz a o k e).2
 keep a o e z k1 k2 k3 k4 := by
  have hk := x.kind a o e
  exact y.keep a o (x.keep a o e z k1 k2 k3 k4) z (hk ▸ k1) (hk ▸ k2) (hk ▸ k3) (hk ▸ k4)
 frs a o e z k := by
  have hk := x.kind a o e
  obtain ⟨sl, e1⟩ := x.frs a o e z k
  obtain ⟨sl', e2⟩ := y.frs a _ e1 z (hk ▸ k)
  exact ⟨sl', e2⟩
 exs a o vs e z k d := by
  have hk := x.kind a o e
  obtain ⟨dt, e1⟩ := x.exs a o vs e z k d
  obtain ⟨dt', e2⟩ := y.exs a _ dt e1 z (hk ▸ k) rfl
  exact ⟨dt', e2⟩
 still a o e := by
  obtain ⟨o', e'⟩ := x.still a o e
  exact y.still a o' e'
theorem Ext.of_keeps (X : Addr -> Prop) (g : Gh) {h h' : Heap} (k : ∀ b o, h.get? b = some o -> h'.get? b = some o) : Ext X g g h h' :=
 ⟨fun _ _ _ => rfl, Nat.le_refl _, fun _ _ => rfl, fun _ _ q e => ⟨q, k _ _ e⟩, fun _ _ e _ _ _ _ _ => k _ _ e, fun _ o e _ _ => ⟨o.slots, k _ _ e⟩, fun _ o vs e _ _ q => ⟨vs, q ▸ k _ _ e⟩, fun _ o e => ⟨o, k _ _ e⟩⟩
theorem Ext.weaken {X Y : Addr -> Prop} {g g' : Gh} {h h' : Heap} (i : ∀ a, X a -> Y a) (x : Ext X g g' h h') : Ext Y g g' h h' :=
 ⟨x.kind, x.num, x.addr, x.fz, fun a o e z => x.keep a o e fun q => z (i a q), fun a o e z => x.frs a o e fun q => z (i a q), fun a o vs e z => x.exs a o vs e fun q => z (i a q), x.still⟩
theorem Ext.no {X : Addr -> Prop} {g g' : Gh} {h h' : Heap} (x : Ext No g g' h h') : Ext X g g' h h' := x.weaken fun _ q => q.elim
structure Up (g g' : Gh) (h h' : Heap) : Prop where
 num : g.n <= g'.n
 addr : ∀ i, i < g.n -> g'.μ i = g.μ i
 fz : Fz g.κ g'.κ h h'
theorem Ext.up {X : Addr -> Prop} {g g' : Gh} {h h' : Heap} (x : Ext X g g' h h') : Up g g' h h' := ⟨x.num, x.addr, x.fz⟩
theorem Ext.drop {X Y : Addr -> Prop} {g g' : Gh} {h h' : Heap} (x : Ext X g g' h h') (i : ∀ a o, X a -> h.get? a = some o -> Y a) : Ext Y g g' h h' :=
 ⟨x.kind, x.num, x.addr, x.fz, fun a o e z => x.keep a o e fun q => z (i a o q e), fun a o e z => x.frs a o e fun q => z (i a o q e), fun a o vs e z => x.exs a o vs e fun q => z (i a o q e), x.still⟩
section
variable {P : Params} {h h' : Heap} {κ κ' : Addr -> Kd}
theorem PV.mono (x : Fz κ κ' h h') {v : Value} {d : PyData} (p : PV P h κ v d) : PV P h' κ' v d :=
 PV.rec (motive_1 := fun v d _ => PV P h' κ' v d) (motive_2 := fun vs ds _ => PVs P h' κ' vs ds) (motive_3 := fun es kvs _ => PEs P h' κ' es kvs) .none .bool .int .str
  (fun k e c d _ r => .tuple (x _ _ k e).1 (x _ _ k e).2 c d r) (fun k e c d z _ r => .list (x _ _ k e).1 (x _ _ k e).2 c d z r) (fun k e n _ r => .dict (x _ _ k e).1 (x _ _ k e).2 n r)
  .nil (fun _ _ a r => .cons a r) .nil (fun a b _ d _ c r => .cons a b c d r) p
theorem PVs.ind {m : List Value -> List PyData -> Prop} (n : m [] []) (c : ∀ {v d vs ds}, PV P h κ v d -> PVs P h κ vs ds -> m vs ds -> m (v :: vs) (d :: ds)) {vs : List Value} {ds : List PyData} (p : PVs P h κ vs ds) : m vs ds :=
 PVs.rec (motive_1 := fun _ _ _ => True) (motive_2 := fun vs ds _ => m vs ds) (motive_3 := fun _ _ _ => True) ⟨⟩ (fun _ => ⟨⟩) (fun _ _ => ⟨⟩) (fun _ _ => ⟨⟩)
  (fun _ _ _ _ _ _ => ⟨⟩) (fun _ _ _ _ _ _ _ => ⟨⟩) (fun _ _ _ _ _ => ⟨⟩)
  n (fun a r _ i => c a r i) ⟨⟩ (fun _ _ _ _ _ _ _ => ⟨⟩) p
theorem PVs.mono (x : Fz κ κ' h h') {vs : List Value} {ds : List PyData} (p : PVs P h κ vs ds) : PVs P h' κ' vs ds := PVs.ind .nil (fun a _ i => .cons (a.mono x) i) p
theorem PVs.length {vs : List Value} {ds : List PyData} (p : PVs P h κ vs ds) : vs.length = ds.length := PVs.ind (m := fun vs ds => vs.length = ds.length) rfl (fun _ _ i => congrArg (· + 1) i) p
theorem PVs.append {vs : List Value} {ds : List PyData} {ws : List Value} {es : List PyData} (p : PVs P h κ vs ds) (y : PVs P h κ ws es) : PVs P h κ (vs ++ ws) (ds ++ es) :=
 PVs.ind (m := fun vs ds => PVs P h κ (vs ++ ws) (ds ++ es)) y (fun a _ i => .cons a i) p
theorem PVs.get {vs : List Value} {ds : List PyData} (p : PVs P h κ vs ds) : ∀ {i : Nat} {d : PyData}, ds[i]? = some d -> ∃ v, vs[i]? = some v /\ PV P h κ v d :=
 PVs.ind (m := fun vs ds => ∀ {i : Nat} {d : PyData}, ds[i]? = some d -> ∃ v, vs[i]? = some v /\ PV P h κ v d) (fun {i _} e => nomatch (List.getElem?_nil (i := i)).symm.trans e)
  (fun {v _ _ _} a _ ih {i d} e => by
   cases i with
   | zero => exact ⟨v, rfl, Option.some.inj e ▸ a⟩
   | succ i => exact ih (i := i) e) p
theorem PVs.take {vs : List Value} {ds : List PyData} (n : Nat) (p : PVs P h κ vs ds) : PVs P h κ (vs.take n) (ds.take n) :=
 PVs.ind (m := fun vs ds => ∀ n, PVs P h κ (vs.take n) (ds.take n)) (fun n => by cases n <;> exact .nil) (fun a _ i n => by
  cases n with
  | zero => exact .nil
  | succ n => exact .cons a (i n)) p n
theorem PVs.drop {vs : List Value} {ds : List PyData} (n : Nat) (p : PVs P h κ vs ds) : PVs P h κ (vs.drop n) (ds.drop n) :=
 PVs.ind (m := fun vs ds => ∀ n, PVs P h κ (vs.drop n) (ds.drop n)) (fun n => by cases n <;> exact .nil) (fun a r i n => by
  cases n with
  | zero => exact .cons a r
  | succ n => exact i n) p n
theorem PVs.set {vs : List Value} {ds : List PyData} {v : Value} {d : PyData} (n : Nat) (p : PVs P h κ vs ds) (q : PV P h κ v d) : PVs P h κ (vs.set n v) (ds.set n d) :=
 PVs.ind (m := fun vs ds => ∀ n, PVs P h κ (vs.set n v) (ds.set n d)) (fun n => by cases n <;> exact .nil) (fun a r i n => by
  cases n with
  | zero => exact .cons q r
  | succ n => exact .cons a (i n)) p n
theorem zfi {v : Value} {d : PyData} {vs : List Value} {ds : List PyData} (x : ∃ as, Reads h v d as /\ sysModules ∉ as) (y : ∃ as, ReadsAll h vs ds as /\ sysModules ∉ as) : ∃ as, ReadsAll h (v :: vs) (d :: ds) as /\ sysModules ∉ as := by
 obtain ⟨as, q, n⟩ := x
 obtain ⟨bs, p, m⟩ := y
 exact ⟨_, .cons q p, fun hm => (List.mem_append.mp hm).elim n m⟩
theorem zjB {e : DictEntry} {es : List DictEntry} {k : Str} {t : Tok} {d : PyData} {kvs : List (PyData × PyData)} (a : e.key = .str k t) (x : ∃ as, Reads h e.val d as /\ sysModules ∉ as)
  (y : ∃ as bs, ReadsAll h (es.map (·.key)) (kvs.map (·.1)) as /\ ReadsAll h (es.map (·.val)) (kvs.map (·.2)) bs /\ sysModules ∉ as /\ sysModules ∉ bs) :
  ∃ as bs, ReadsAll h ((e :: es).map (·.key)) (((PyData.str k, d) :: kvs).map (·.1)) as /\ ReadsAll h ((e :: es).map (·.val)) (((PyData.str k, d) :: kvs).map (·.2)) bs /\ sysModules ∉ as /\ sysModules ∉ bs := by
 obtain ⟨as, q, n⟩ := x
 obtain ⟨bs, cs, p1, p2, m1, m2⟩ := y
 exact ⟨_, _, .cons (a ▸ Reads.str k t) p1, .cons q p2, m1, fun hm => (List.mem_append.mp hm).elim n m2⟩
theorem zcS : sysModules ∉ ([] : List Addr) := fun h => nomatch h
theorem PV.reads {v : Value} {d : PyData} (p : PV P h κ v d) : ∃ as, Reads h v d as /\ sysModules ∉ as :=
 PV.rec (motive_1 := fun v d _ => ∃ as, Reads h v d as /\ sysModules ∉ as) (motive_2 := fun vs ds _ => ∃ as, ReadsAll h vs ds as /\ sysModules ∉ as)
  (motive_3 := fun es kvs _ => ∃ as bs, ReadsAll h (es.map (·.key)) (kvs.map (·.1)) as /\ ReadsAll h (es.map (·.val)) (kvs.map (·.2)) bs /\ sysModules ∉ as /\ sysModules ∉ bs)
  ⟨_, .none, zcS⟩ (fun b => ⟨_, .bool b, zcS⟩) (fun i t => ⟨_, .int i t, zcS⟩) (fun y t => ⟨_, .str y t, zcS⟩)
  (fun _ e c d _ i => i.imp fun _ q => ⟨.tuple e c d q.1, q.2⟩)
  (fun _ e c d z _ i => i.elim fun _ q => ⟨_, .list e c d q.1, fun hm => (List.mem_cons.mp hm).elim (fun w => z w.symm) q.2⟩)
  (fun _ e n _ i => i.elim fun _ i => i.elim fun _ q => ⟨_, .dict e rfl rfl q.1 q.2.1, fun hm => (List.mem_append.mp hm).elim (fun hm => (List.mem_cons.mp hm).elim (fun w => n w.symm) q.2.2.1) q.2.2.2⟩)
  ⟨_, .nil, zcS⟩ (fun _ _ x y => zfi x y) ⟨_, _, .nil, .nil, zcS, zcS⟩ (fun a _ _ _ _ x y => zjB a x y) p
theorem PVs.reads {vs : List Value} {ds : List PyData} (p : PVs P h κ vs ds) : ∃ as, ReadsAll h vs ds as /\ sysModules ∉ as := PVs.ind (m := fun vs ds => ∃ as, ReadsAll h vs ds as /\ sysModules ∉ as) ⟨_, .nil, zcS⟩ (fun a _ i => zfi a.reads i) p
theorem PEs.reads {es : List DictEntry} {kvs : List (PyData × PyData)} (p : PEs P h κ es kvs) : ∃ as bs, ReadsAll h (es.map (·.key)) (kvs.map (·.1)) as /\ ReadsAll h (es.map (·.val)) (kvs.map (·.2)) bs /\ sysModules ∉ as /\ sysModules ∉ bs :=
 PEs.rec (motive_1 := fun _ _ _ => True) (motive_2 := fun _ _ _ => True) (motive_3 := fun es kvs _ => ∃ as bs, ReadsAll h (es.map (·.key)) (kvs.map (·.1)) as /\ ReadsAll h (es.map (·.val)) (kvs.map (·.2)) bs /\ sysModules ∉ as /\ sysModules ∉ bs)
  ⟨⟩ (fun _ => ⟨⟩) (fun _ _ => ⟨⟩) (fun _ _ => ⟨⟩) (fun _ _ _ _ _ _ => ⟨⟩) (fun _ _ _ _ _ _ _ => ⟨⟩) (fun _ _ _ _ _ => ⟨⟩)
  ⟨⟩ (fun _ _ _ _ => ⟨⟩) ⟨_, _, .nil, .nil, zcS, zcS⟩ (fun a _ c _ _ _ y => zjB a c.reads y) p
end
end Mine.Lake
namespace Mine.Lake
open PySem PySem.W PyProof.Rows
noncomputable def plL (m : Nat) : List Nat := (List.range 8).filter (m.testBit ·)
noncomputable def plc (m : Nat) : Array Nat := (plL m).toArray
theorem zl9 : ∀ m, m < 256 -> ∀ j, j < 8 -> m.testBit j = false -> (SetTable.insertAt (plc m) (SetTable.below (plc m) j) j).toList = plL (m + 2 ^ j) := by decide +kernel
theorem zmb : ∀ m, m < 256 -> ∀ j, j < 8 -> ((plc m)[SetTable.below (plc m) j]? == some j) = m.testBit j := by decide +kernel
theorem zkw : ∀ m, m < 256 -> ∀ i, i < (plL m).length -> SetTable.below (plc m) ((plL m).getD i 0 + 1) = i + 1 := by decide +kernel
theorem zkv : ∀ m, m < 256 -> SetTable.below (plc m) 0 = 0 := by decide +kernel
theorem zmc : ∀ m, m < 256 -> ∀ j, j < 8 -> m.testBit j = false -> m + 2 ^ j < 256 /\ (plL (m + 2 ^ j)).length = (plL m).length + 1 := by decide +kernel
theorem ziK : ∀ m, m < 256 -> ∀ j, j < 8 -> SetTable.below (plc m) j <= (plL m).length := by decide +kernel
noncomputable def hole (m : Nat) : Nat -> Nat -> Nat -> Option Nat
 | 0, _, _ => none
 | f + 1, i, p => if m.testBit i = true then hole m f ((i * 5 + 1 + p / 32) % 8) (p / 32) else some i
noncomputable def zhm (m : Nat) : Option Nat -> Bool
 | some j => decide (j < 8) && !m.testBit j
 | none => false
theorem zhk : ∀ m, m < 255 -> ∀ i, i < 8 -> zhm m (hole m 207 i 0) = true := by decide +kernel
theorem zhl {m : Nat} (hm : m < 255) : ∀ (k : Nat) {i p : Nat}, i < 8 -> p < 32 ^ k -> zhm m (hole m (207 + k) i p) = true
 | 0, i, p, hi, hp => by
  have : p = 0 := Nat.lt_one_iff.mp hp
  subst this; exact zhk m hm i hi
 | k + 1, i, p, hi, hp => by
  show zhm m (if m.testBit i = true then hole m (207 + k) ((i * 5 + 1 + p / 32) % 8) (p / 32) else some i) = true
  by_cases h : m.testBit i = true
  ·rw [if_pos h]; exact zhl hm k (Nat.mod_lt _ (by decide)) (Nat.div_lt_of_lt_mul (by rw [Nat.mul_comm]; exact hp))
  ·rw [if_neg h]
   have h : m.testBit i = false := by cases q : m.testBit i with | true => exact absurd q h | false => rfl
   show (decide (i < 8) && !m.testBit i) = true
   rw [h, decide_eq_true hi]; rfl
theorem zkx : ∀ m, m < 255 -> ∀ j, j < 8 -> m.testBit j = false -> (plL m).length <= 3 -> m + 2 ^ j < 255 := by decide +kernel
structure TG (t : SetTable) (m : Nat) : Prop where
 mask : t.mask = 7
 place : t.place = plc m
 dum : t.dummies = #[]
 lt : m < 255
 plain : t.plain = true
theorem TG.slot {t : SetTable} {m : Nat} (T : TG t m) {j : Nat} (hj : j < 8) : t.slot j = if m.testBit j = true then .live (SetTable.below (plc m) j) else .empty := by
 show (if (t.place[SetTable.below t.place j]? == some j) = true then SetTable.Slot.live (SetTable.below t.place j) else if (t.dummies[SetTable.below t.dummies j]? == some j) = true then .dummy else .empty) = _
 rw [T.place, T.dum, zmb m (Nat.lt_trans T.lt (by decide)) j hj]
 rfl
theorem TG.go {t : SetTable} {m : Nat} (T : TG t m) (h : Int) : ∀ (f : Nat) (i p : Nat), i < 8 -> SetTable.probe.go t (fun _ => h + 1) h f { j := i, more := 0, i := i, perturb := p, dummy := none } = (hole m f i p).map fun j => .empty j none
 | 0, _, _, _ => rfl
 | f + 1, i, p, hi => by
  have e : SetTable.probe.go t (fun _ => h + 1) h (f + 1) { j := i, more := 0, i := i, perturb := p, dummy := none } = (match t.slot i with
   | .empty => some (.empty i none)
   | .dummy => SetTable.probe.go t (fun _ => h + 1) h f (t.advance { j := i, more := 0, i := i, perturb := p, dummy := some i })
   | .live k => if (h + 1 == h) = true then some (.candidate i k (t.advance { j := i, more := 0, i := i, perturb := p, dummy := none })) else SetTable.probe.go t (fun _ => h + 1) h f (t.advance { j := i, more := 0, i := i, perturb := p, dummy := none })) := rfl
  rw [e, T.slot hi]
  show _ = Option.map _ (if m.testBit i = true then hole m f ((i * 5 + 1 + p / 32) % 8) (p / 32) else some i)
  by_cases q : m.testBit i = true
  ·rw [if_pos q, if_pos q]
   have n : ¬ (h + 1 == h) = true := by rw [beq_iff_eq]; exact Int.ne_of_gt (Int.lt_succ h)
   show (if (h + 1 == h) = true then _ else _) = _
   rw [if_neg n]
   have a : t.advance { j := i, more := 0, i := i, perturb := p, dummy := none } = { j := (i * 5 + 1 + p / 32) % 8, more := 0, i := (i * 5 + 1 + p / 32) % 8, perturb := p / 32, dummy := none } := by
    have le : ∀ x : Nat, SetTable.runEnd 7 x = x := fun x => if_neg (Nat.not_le.mpr (Nat.lt_of_lt_of_le (by decide : 7 < 9) (Nat.le_add_left 9 x)))
    show ({ j := (i * 5 + 1 + p / 32) % (t.mask + 1), more := SetTable.runEnd t.mask ((i * 5 + 1 + p / 32) % (t.mask + 1)) - (i * 5 + 1 + p / 32) % (t.mask + 1), i := (i * 5 + 1 + p / 32) % (t.mask + 1), perturb := p / 32, dummy := none } : SetTable.Probe) = _
    rw [T.mask, le, Nat.sub_self]
   rw [a]
   exact TG.go T h f _ _ (Nat.mod_lt _ (by decide))
  ·rw [if_neg q, if_neg q]; rfl
theorem TG.free {t : SetTable} {m : Nat} (T : TG t m) (h : Int) : ∃ j, j < 8 /\ m.testBit j = false /\ t.freeSlot h = some (j, false) := by
 have b : SetTable.bits h < 2 ^ 64 := by
  exact (Int.toNat_lt (Int.emod_nonneg h (by decide))).mpr (Int.emod_lt_of_pos h (by decide))
 have ok := zhl T.lt 13 (i := SetTable.bits h % 8) (Nat.mod_lt _ (by decide)) (Nat.lt_trans b (by decide))
 have e : t.probe (fun _ => h + 1) h (t.probeStart h) = (hole m 220 (SetTable.bits h % 8) (SetTable.bits h)).map fun j => .empty j none := by
  have le : ∀ x : Nat, SetTable.runEnd 7 x = x := fun x => if_neg (Nat.not_le.mpr (Nat.lt_of_lt_of_le (by decide : 7 < 9) (Nat.le_add_left 9 x)))
  have st : t.probeStart h = { j := SetTable.bits h % 8, more := 0, i := SetTable.bits h % 8, perturb := SetTable.bits h, dummy := none } := by
   show ({ j := SetTable.bits h % (t.mask + 1), more := SetTable.runEnd t.mask (SetTable.bits h % (t.mask + 1)) - SetTable.bits h % (t.mask + 1), i := SetTable.bits h % (t.mask + 1), perturb := SetTable.bits h, dummy := none } : SetTable.Probe) = _
   rw [T.mask, le, Nat.sub_self]
  rw [st]
  show SetTable.probe.go t _ h (10 * (t.mask + 15)) _ = _
  rw [T.mask]
  exact T.go h 220 _ _ (Nat.mod_lt _ (by decide))
 cases q : hole m 220 (SetTable.bits h % 8) (SetTable.bits h) with
 | none => rw [q] at ok; cases ok
 | some j =>
  rw [q] at ok e
  have ok := Bool.and_eq_true_iff.mp ok
  refine ⟨j, of_decide_eq_true ok.1, by simpa using ok.2, ?_⟩
  unfold SetTable.freeSlot
  rw [e]; rfl
theorem TG.lay {t : SetTable} {m : Nat} (T : TG t m) {es : Array (Int × Value)} (hm : (plL m).length = es.size) (h3 : es.size <= 3) (h : Int) (x : Value) :
  ∃ t' es' m', layNew t es h x = (es', t', false, false) /\ TG t' m' /\ es'.size = es.size + 1 /\ (plL m').length = es.size + 1 /\ t'.led = t.led := by
 obtain ⟨j, hj, hb, e⟩ := T.free h
 have lt : m < 256 := Nat.lt_trans T.lt (by decide)
 have pb := zmc m lt j hj hb
 have be := ziK m lt j hj
 have put : t.put j = ({ t with place := plc (m + 2 ^ j), dummies := #[] }, SetTable.below (plc m) j) := by
  show (({ t with place := SetTable.insertAt t.place (SetTable.below t.place j) j, dummies := if (t.dummies[SetTable.below t.dummies j]? == some j) = true then SetTable.eraseAt t.dummies (SetTable.below t.dummies j) else t.dummies } : SetTable), SetTable.below t.place j) = _
  rw [T.place, T.dum]
  have : SetTable.insertAt (plc m) (SetTable.below (plc m) j) j = plc (m + 2 ^ j) := by
   apply Array.toList_inj.mp; exact zl9 m lt j hj hb
  rw [this]; rfl
 have sz : (SetTable.insertAt es (SetTable.below (plc m) j) (h, x)).size = es.size + 1 := by
  unfold SetTable.insertAt
  simp only [Array.size_append, Array.size_push, Array.size_extract]
  rw [Nat.min_eq_left (hm ▸ be), Nat.min_self, Nat.sub_zero, Nat.add_right_comm, Nat.add_sub_cancel' (hm ▸ be)]
 have fit : ({ t with place := plc (m + 2 ^ j), dummies := #[] } : SetTable).fits (es.size + 1) = true := by
  show ((plL (m + 2 ^ j)).length == es.size + 1 && decide ((plL (m + 2 ^ j)).length + 0 <= t.mask)) = true
  rw [pb.2, hm, T.mask, Bool.and_eq_true, beq_iff_eq, decide_eq_true_eq]
  exact ⟨rfl, Nat.le_trans (Nat.succ_le_succ h3) (by decide)⟩
 refine ⟨{ t with place := plc (m + 2 ^ j), dummies := #[] }, SetTable.insertAt es (SetTable.below (plc m) j) (h, x), m + 2 ^ j, ?_, ⟨T.mask, rfl, rfl, zkx m T.lt j hj hb (by rw [hm]; exact h3), T.plain⟩, sz, by rw [pb.2, hm], rfl⟩
 unfold layNew
 rw [e]
 dsimp only
 rw [put]
 dsimp only
 unfold SetTable.orStandIn
 rw [sz, fit]; rfl
section
variable {prog : Program} {w : World} {A : Around} {E : Value -> Shared -> Prop} {s : Shared}
noncomputable abbrev zaY (w : World) : Bool := w.params.followText "set-order"
structure SetG (prog : Program) (w : World) (h : Heap) (a : Addr) (l : List Int) (o : Obj) (es : Array (Int × Value)) (ep : Nat) (t : SetTable) (m : Nat) : Prop where
 at_ : h.get? a = some o
 ex : o.ExactSet
 data : o.data = .set es ep t
 el : ElemsOf (intKind prog w) es.toList
 mem : ∀ k, k ∈ l ↔ ∃ e ∈ es.toList, (intKind prog w).is k e.2 = true
 size : es.size = l.length
 tab : TG t m
 cnt : (plL m).length = es.size
 led : t.led = !zaY w
 small : es.size <= 4
theorem SetG.fits {h : Heap} {a : Addr} {l : List Int} {o es ep t m} (G : SetG prog w h a l o es ep t m) : t.fits es.size = true := by
 show (t.place.size == es.size && decide (t.place.size + t.dummies.size <= t.mask)) = true
 rw [G.tab.place, G.tab.dum, G.tab.mask]
 show ((plL m).length == es.size && decide ((plL m).length + 0 <= 7)) = true
 rw [G.cnt, Bool.and_eq_true, beq_iff_eq, decide_eq_true_eq]
 exact ⟨rfl, Nat.le_trans G.small (by decide)⟩
noncomputable def SetS (prog : Program) (w : World) (h : Heap) (a : Addr) (l : List Int) : Prop := ∃ o es ep t m, SetG prog w h a l o es ep t m
theorem any_mem {l : List Int} {k : Int} : l.any (· == k) = true ↔ k ∈ l := by
 rw [List.any_eq_true]
 exact ⟨fun ⟨x, hx, e⟩ => by rw [beq_iff_eq] at e; exact e ▸ hx, fun h => ⟨k, h, beq_self_eq_true k⟩⟩
theorem SetS.setOf {h : Heap} {a : Addr} {l : List Int} (G : SetS prog w h a l) : h.SetOf (intKind prog w) a (fun k => l.any (· == k)) l.length := by
 obtain ⟨o, es, ep, t, m, G⟩ := G
 exact ⟨o, es, ep, t, G.at_, G.ex, G.data, G.el, fun k => any_mem.trans (G.mem k), Nat.lt_of_le_of_lt G.small (by decide), G.fits, G.size⟩
theorem SetS.add {a : Addr} {l : List Int} {k : Int} {u : Tok} {Q : Bool -> Shared -> Prop} (G : SetS prog w s.heap a l) (hl : (step_dedup l k).length <= 4)
  (h : ∀ h', Heap.SameBut a s.heap h' -> SetS prog w h' a (step_dedup l k) -> ∀ b, Q b { s with heap := h' }) : wpAny (model prog w) A (setAddHashed a (.int k u) (hashInt k)) Q E s := by
 obtain ⟨o, es, ep, t, m, G⟩ := G
 have hkey : (intKind prog w).is k (.int k u) = true := intKind_is _ _ _ _
 unfold setAddHashed setAddHashedIn
 refine wpAny_holding (wpAny_bind (wpAny_setState_of G.at_ G.data G.fits ?_))
 dsimp only
 rw [byScan_of rfl (Nat.lt_of_le_of_lt G.small (by decide)) G.el]
 simp only [↓reduceIte]
 unfold setAddByScan
 refine wpAny_bind ?_
 refine wpAny_bind (wpAny_rule ?_)
 refine wpAny_bind (wpAny_setScan_of hkey G.at_ G.data G.fits G.el ?_)
 cases hr : List.findIdx? (fun e => (intKind prog w).is k e.2) es.toList with
 | some j =>
  obtain ⟨hj, hpj, _⟩ := List.findIdx?_eq_some_iff_getElem.mp hr
  have hk : k ∈ l := (G.mem k).mpr ⟨_, List.getElem_mem hj, hpj⟩
  have e : step_dedup l k = l := if_pos (any_mem.mpr hk)
  rw [e] at h
  exact wpAny_pure (wpAny_pure (h s.heap (Heap.SameBut.refl a s.heap) ⟨o, es, ep, t, m, G⟩ _))
 | none =>
  have hk : ¬ k ∈ l := fun hk => by
   obtain ⟨e, he, hp⟩ := (G.mem k).mp hk
   have := List.findIdx?_eq_none_iff.mp hr e he
   rw [hp] at this; cases this
  have e : step_dedup l k = l ++ [k] := if_neg fun q => hk (any_mem.mp q)
  rw [e] at h hl
  have h3 : es.size <= 3 := by rw [G.size]; rw [List.length_append] at hl; exact Nat.le_of_succ_le_succ hl
  obtain ⟨t', es', m', hL, T', sz, cnt, led⟩ := G.tab.lay G.cnt h3 (hashInt k) (.int k u)
  have hperm := layNew_perm t es (hashInt k) (.int k u)
  rw [hL, Array.toList_push] at hperm
  show wpAny _ _ _ _ _ _
  have hL' : layNew t es ((intKind prog w).hash k) (.int k u) = (es', t', false, false) := hL
  dsimp only
  rw [show layNew t es (hashInt k) (.int k u) = (es', t', false, false) from hL]
  refine wpAny_bind (wpAny_pure ?_)
  dsimp only
  rw [T'.plain]
  refine wpAny_bind ?_
  show wpAny _ _ (hashByValue 8 (.int k u)) _ _ _
  rw [hashByValue_scannable 8 rfl]
  refine wpAny_pure ?_
  have tf : t'.tooFull = false := by
   show decide ((t'.place.size + t'.dummies.size) * 5 >= t'.mask * 3) = false
   rw [T'.place, T'.dum, T'.mask]
   show decide (((plL m').length + 0) * 5 >= 7 * 3) = false
   rw [cnt]
   exact decide_eq_false (Nat.not_le.mpr (Nat.lt_of_le_of_lt (Nat.mul_le_mul_right 5 (Nat.succ_le_succ h3)) (by decide)))
  show wpAny _ _ (storeSet a es' t' >>= _) _ _ _
  refine wpAny_bind (wpAny_storeSet_of G.at_ G.data ?_ (by rw [sz, sizeLine_eq]; exact Nat.le_trans (Nat.succ_le_succ h3) (by decide)))
  show wpAny _ _ (if (!false && t'.tooFull) = true then _ else pure (some true)) _ _ _
  rw [tf, Bool.and_false]
  refine wpAny_pure (wpAny_pure (h _ (Heap.SameBut.update ..) ⟨Obj.putSet es' t' o, es', ep + 1, t', m', ?_⟩ _))
  have hup := Heap.get?_update_self (Obj.putSet es' t') G.at_ (by
   have := G.data
   obtain ⟨c, d, dt, sl⟩ := o; cases this; rfl)
  refine ⟨hup, ?_, ?_, (G.el.push hkey rfl).perm hperm, fun k' => ?_, by rw [sz, G.size, List.length_append]; rfl, T', by rw [cnt, sz], led.trans G.led, by rw [sz]; exact Nat.succ_le_succ h3⟩
  ·rw [putSet_of _ _ G.data]; exact G.ex
  ·rw [putSet_of _ _ G.data]
  ·rw [List.mem_append, G.mem k', List.mem_singleton]
   refine ⟨fun q => ?_, fun ⟨e, he, hp⟩ => ?_⟩
   ·rcases q with ⟨e, he, hp⟩ | rfl
    ·exact ⟨e, hperm.mem_iff.mpr (List.mem_append_left _ he), hp⟩
    ·exact ⟨_, hperm.mem_iff.mpr (List.mem_append_right _ (List.mem_singleton.mpr rfl)), hkey⟩
   ·rcases List.mem_append.mp (hperm.mem_iff.mp he) with he | he
    ·exact .inl ⟨e, he, hp⟩
    ·rw [List.mem_singleton] at he; subst he
     exact .inr ((intKind prog w).inj _ _ _ hp hkey)
end
theorem zj7 (l : List Int) (k : Int) : l.length <= (step_dedup l k).length := by
 rw [step_length]; split
 ·exact Nat.le_refl _
 ·exact Nat.le_succ _
noncomputable def SI (prog : Program) (w : World) (h : Heap) (a : Addr) (l : List Int) : Prop := h.SetOf (intKind prog w) a (fun k => l.any (· == k)) l.length /\ (l.length <= 4 -> SetS prog w h a l)
section
variable {prog : Program} {w : World} {A : Around} {E : Value -> Shared -> Prop} {s : Shared}
theorem SI.add {a : Addr} {l : List Int} {k : Int} {u : Tok} {Q : Bool -> Shared -> Prop} (G : SI prog w s.heap a l) (hl : l.length + 1 < scanBound)
  (h : ∀ h', Heap.SameBut a s.heap h' -> SI prog w h' a (step_dedup l k) -> ∀ b, Q b { s with heap := h' }) : wpAny (model prog w) A (setAddHashed a (.int k u) (hashInt k)) Q E s := by
 by_cases q : (step_dedup l k).length <= 4
 ·exact (G.2 (Nat.le_trans (zj7 l k) q)).add q fun h' sb G' b => h h' sb ⟨G'.setOf, fun _ => G'⟩ b
 ·refine wpAny_setAddHashed_of (knd := intKind prog w) (intKind_is _ _ _ _) rfl G.1 hl fun h' sb G' => h h' sb ⟨SetOf_congr G' (fun k' => (step_any _ _ _).symm) (step_length _ _).symm, fun z => absurd z q⟩ _
theorem SI.at {h h' : Heap} {a : Addr} {l : List Int} (G : SI prog w h a l) (e : ∀ o, h.get? a = some o -> h'.get? a = some o) : SI prog w h' a l := by
 refine ⟨?_, fun q => ?_⟩
 ·obtain ⟨o, es, ep, t, ho, r⟩ := G.1
  exact ⟨o, es, ep, t, e _ ho, r⟩
 ·obtain ⟨o, es, ep, t, m, G⟩ := G.2 q
  exact ⟨o, es, ep, t, m, e _ G.at_, G.ex, G.data, G.el, G.mem, G.size, G.tab, G.cnt, G.led, G.small⟩
end
section
variable {prog : Program} {w : World} {A : Around} {R : Result -> Shared -> Prop} {I : Addr} {fp wr : List Addr} {G : Array GenState -> Array GenState -> Prop} {n : Nat} {P : Nat -> Value -> Prop} {St : Nat -> Shared -> Prop}
theorem ziu (W : WalksS prog w A.in1 I fp wr G n P St) (D : Addr) (hD : D ∉ fp) (val : Nat -> Int) (hval : ∀ i v, P i v -> ∃ t, v = .int (val i) t) (hb : n + 1 < scanBound) :
  ∀ (k i : Nat) (s : Shared), n - i = k -> i <= n -> St i s -> SI prog w s.heap D (firstMet val i) ->
   (∀ s', Moved (D :: wr) G s s' -> SI prog w s'.heap D (firstMet val n) -> R (.ok (.ret .none)) s') -> codeAny (model prog w) A (.builtin "set.update.loop" ⟨[.ref D, .ref I], []⟩) R s := by
 have hw : D ∉ wr := fun h => hD (W.sub _ h)
 have up : ∀ b ∈ wr, b ∈ D :: wr := fun b hb => List.mem_cons_of_mem _ hb
 intro k
 induction k with
 | zero =>
  intro i s hk hi hst hS hR
  obtain rfl : i = n := Nat.le_antisymm hi (Nat.sub_eq_zero_iff_le.mp hk)
  refine codeAny_builtin PyProof.Rows.F.entry_set_update_loop ?_
  rw [Around.under_plainId PyProof.Rows.F.plain_set_update_loop _]
  exact wpAny_bind (W.done s _ _ hst fun s' hm => wpAny_pure (hR s' (hm.mono up) (hS.at fun o e => hm.heap D o hw e)))
 | succ k ih =>
  intro i s hk hi hst hS hR
  have hlt : i < n := Nat.sub_pos_iff_lt.mp (by rw [hk]; exact Nat.succ_pos k)
  refine codeAny_builtin PyProof.Rows.F.entry_set_update_loop ?_
  rw [Around.under_plainId PyProof.Rows.F.plain_set_update_loop _]
  refine wpAny_bind (W.item i s _ _ hlt hst fun v s' hP hst' hm => ?_)
  obtain ⟨t, rfl⟩ := hval i v hP
  have hS' := hS.at fun o e => hm.heap D o hw e
  show wpAny _ A.in1 (holding [Value.int (val i) t] (setAdd D (.int (val i) t)) >>= _) _ _ s'
  refine wpAny_bind (wpAny_holding ?_)
  unfold setAdd
  refine wpAny_holding (wpAny_bind ((intKind prog w).pyHash (k := val i) (intKind_is _ _ _ _) ?_))
  have room : (firstMet val i).length + 1 < scanBound := Nat.lt_of_le_of_lt (Nat.succ_le_succ (Nat.le_trans (firstMet_length_le val i) (Nat.le_of_lt hlt))) hb
  refine SI.add (s := { s' with toks := s'.toks + 1 }) hS' room fun h' sb hS2 b => ?_
  rw [← firstMet_succ] at hS2
  refine wpAny_pure ⟨plainId_quiet PyProof.Rows.F.plain_set_update_loop _, ih (i + 1) _ (show Nat.pred (n - i) = k from congrArg Nat.pred hk) hlt (W.frame _ s' _ _ hst' (Nat.le_succ _) fun c hc o e => ?_) hS2 fun s'' hm'' hS'' => ?_⟩
  ·rw [sb.2 c fun q => hD (q ▸ hc)]; exact e
  ·refine hR s'' (Moved.trans W.gtrans ((hm.mono up).then_heap (Nat.le_succ _) fun c o hc e => ?_) hm'') hS''
   rw [sb.2 c fun q => hc (q ▸ List.mem_cons_self)]; exact e
end
end Mine.Lake
namespace Mine.Lake
open PySem PySem.W PyProof.Rows PySem.Calls
noncomputable abbrev Names := List (Str × NameKind)
structure Cx where
 fn : Names
 cs : Option Names
 funs : List (Str × Nat)
 meths : List (Str × Nat)
 cons : List (Str × Nat)
 muts : List (Nat × Nat)
 lam : Bool
structure Sta where
 prog : Program
 w : World
 s0 : Shared
 K : Frag
 mg : Str -> Option Value
 mb : Str -> Option Value
 cev : Addr
 ec : Bool -> Addr
 fa : Nat -> Addr
 cx : Cx
 gc : Nat -> PyData
 tab : Nat -> Option Fn
 lc : Addr
 tp : Addr
 lq : Str
noncomputable abbrev Sta.B (S : Sta) : Heap := S.s0.heap
noncomputable abbrev Sta.M (S : Sta) : Model := model S.prog S.w
structure StaOk (S : Sta) : Prop where
 K : S.K.In S.B
 g : S.B.Ns mainGlobals S.mg
 b : S.B.Ns builtinsNs S.mb
 builtins : ∀ x : Str, x ≠ "__name__" -> S.mb x = bootBuiltins x
 nolimit : S.B.NoLimit
 cev : 14 < S.cev
 sm : ∃ o, S.B.get? sysModules = some o
 lc : CodeHd S.B S.lc S.tp
 tn : S.B.get? S.tp = none
 ba : ∀ h, S.B.StaysIn h -> h.BuiltinsAt S.mg S.tp
section
variable (S : Sta) (h : Heap) (g : Gh)
inductive VR : Value -> V -> Prop
 | pd {v : Value} {d : PyData} : PV S.w.params h g.κ v d -> VR v (.pd d)
 | ref {i : Nat} : i < g.n -> VR (.ref (g.μ i)) (.ref i)
 | evr {a dx : Addr} {e : DictEntry} {t : Tok} {n : Nat} {sc : V} : g.κ a = .fz -> g.κ dx = .fz -> h.get? a = some (instObj S.cev dx) -> h.get? dx = some (dictOf [e] n) -> e.key = .str (Str.ofString "scope") t -> e.hash = PyData.keyHash S.w.params (Str.ofString "scope") ->
   VR e.val sc -> VR (.ref a) (.evr sc)
 | rng {a : Addr} {lo hi : Int} {t u r : Tok} : g.κ a = .fz -> IsRange h a lo hi 1 t u r -> VR (.ref a) (.rng lo hi)
 | ty (n : String) : VR (.type n) (.ty n)
 | set {a : Addr} {o : Obj} {l : List Int} : g.κ a = .fz -> h.get? a = some o -> SI S.prog S.w h a l -> l.length < scanBound -> l.Nodup -> VR (.ref a) (.set l)
inductive VEs : List DictEntry -> List (Str × V) -> Prop
 | nil : VEs [] []
 | cons {e : DictEntry} {es : List DictEntry} {k : Str} {t : Tok} {x : V} {kvs : List (Str × V)} : e.key = .str k t -> e.hash = PyData.keyHash S.w.params k -> VR S h g e.val x -> (∀ e' ∈ es, e'.key.isStr k = false) -> VEs es kvs -> VEs (e :: es) ((k, x) :: kvs)
inductive VRs : List Value -> List V -> Prop
 | nil : VRs [] []
 | cons {v : Value} {vs : List Value} {d : V} {ds : List V} : VR S h g v d -> VRs vs ds -> VRs (v :: vs) (d :: ds)
inductive MO (a : Addr) : O -> Prop
 | list {vs : List Value} {n : Nat} {l : List PyData} : h.get? a = some ⟨.type "list", none, .seq vs.toArray n, #[]⟩ -> PVs S.w.params h g.κ vs l -> MO a (.list l)
 | dict {es : List DictEntry} {n : Nat} {l : List (Str × V)} : h.get? a = some ⟨.type "dict", none, .dict es.toArray n, #[]⟩ -> VEs S h g es l -> MO a (.dict l)
end
section
variable {S : Sta} {h h' : Heap} {g g' : Gh}
theorem VR.mono (x : Up g g' h h') {v : Value} {d : V} (r : VR S h g v d) : VR S h' g' v d := by
 induction r with
 | pd r => exact .pd (r.mono x.fz)
 | ref hi => exact x.addr _ hi ▸ .ref (Nat.lt_of_lt_of_le hi x.num)
 | evr k1 k2 e1 e2 a b _ ih => exact .evr (x.fz _ _ k1 e1).1 (x.fz _ _ k2 e2).1 (x.fz _ _ k1 e1).2 (x.fz _ _ k2 e2).2 a b ih
 | rng k e => exact .rng (x.fz _ _ k e).1 (x.fz _ _ k e).2
 | ty n => exact .ty n
 | set k e q b nd => exact .set (x.fz _ _ k e).1 (x.fz _ _ k e).2 (q.at fun o e => (x.fz _ _ k e).2) b nd
theorem VRs.mono (x : Up g g' h h') {vs : List Value} {ds : List V} (r : VRs S h g vs ds) : VRs S h' g' vs ds := by
 induction r with
 | nil => exact .nil
 | cons a _ ih => exact .cons (a.mono x) ih
theorem VEs.mono (x : Up g g' h h') {es : List DictEntry} {kvs : List (Str × V)} (r : VEs S h g es kvs) : VEs S h' g' es kvs := by
 induction r with
 | nil => exact .nil
 | cons a b c d _ ih => exact .cons a b (c.mono x) d ih
theorem MO.mono_at (x : Up g g' h h') {a b : Addr} {o : O} (r : MO S h g a o) (e : ∀ ob, h.get? a = some ob -> h'.get? b = some ob) : MO S h' g' b o := by
 cases r with
 | list e1 r => exact .list (e _ e1) (r.mono x.fz)
 | dict e1 r => exact .dict (e _ e1) (r.mono x)
theorem VRs.append {vs ws : List Value} {ds es : List V} (r : VRs S h g vs ds) (q : VRs S h g ws es) : VRs S h g (vs ++ ws) (ds ++ es) := by
 induction r with
 | nil => exact q
 | cons a _ ih => exact .cons a ih
theorem VRs.length {vs : List Value} {ds : List V} (r : VRs S h g vs ds) : vs.length = ds.length := by
 induction r with
 | nil => rfl
 | cons a _ ih => rw [List.length_cons, List.length_cons, ih]
theorem VRs.pds {vs : List Value} {ds : List V} (r : VRs S h g vs ds) : ∀ {l : List PyData}, zbE ds = some l -> PVs S.w.params h g.κ vs l := by
 induction r with
 | nil => intro l e; cases e; exact .nil
 | @cons v vs d ds a r ih =>
  intro l e
  cases d with
  | pd d =>
   obtain ⟨q, e', rfl⟩ := Option.map_eq_some_iff.mp (show (zbE ds).map (d :: ·) = some l from e)
   cases a with
   | pd a => exact .cons a (ih e')
  | _ => cases e
end
set_option backward.match.sparseCases false
noncomputable def zao : Names -> Str -> Nat -> Option (Nat × NameKind)
 | [], _, _ => none
 | (a, k) :: r, x, i => if a = x then some (i, k) else zao r x (i + 1)
theorem zaC {κ α : Type} [DecidableEq κ] {x : κ} {k : α} {l : List (κ × α)} (h : zaW l x = some k) : (x, k) ∈ l := by
 induction l with
 | nil => cases h
 | cons p r ih =>
  by_cases e : p.1 = x
  ·have := (if_pos e).symm.trans h; cases this; cases e; exact .head _
  ·exact .tail _ (ih ((if_neg e).symm.trans h))
set_option genCtorIdx false in
inductive Nm where
 | v (i : Nat)
 | w (i : Nat)
 | g
noncomputable def Nm.ctorIdx (x : Nm) : Nat := Nm.casesOn x (fun _ => 0) (fun _ => 1) 2
noncomputable def badN (x : Str) : Bool := (x == Str.ofString "__debug__") || (x == Str.ofString "__classdict__")
noncomputable def gdN (b : Bool) (x : Option Nm) : Option Nm := match b with
 | true => none
 | false => x
noncomputable def nmF : NameKind -> Nat -> Option Nm
 | .local, i => some (.v i) | .cell, i => some (.v i) | .free, i => some (.v i) | .globalExplicit, _ => none | .globalImplicit, _ => some .g
noncomputable def nmI : NameKind -> Nat -> Option Nm
 | .local, _ => none | .cell, i => some (.v i) | .free, i => some (.v i) | .globalExplicit, _ => none | .globalImplicit, _ => none
noncomputable def nmC (fn : Names) (x : Str) : NameKind -> Nat -> Option Nm
 | .local, i => some (.w i) | .cell, _ => none | .free, _ => (zao fn x 0).bind fun p => nmI p.2 p.1 | .globalExplicit, _ => none | .globalImplicit, _ => some .g
noncomputable def nmOf (cx : Cx) (x : Str) : Option Nm := gdN (badN x) (match cx.cs with
 | none => (zao cx.fn x 0).bind fun p => nmF p.2 p.1
 | some cs => (zao cs x 0).bind fun p => nmC cx.fn x p.2 p.1)
theorem zcj {cx : Cx} {x : Str} {n : Nm} (h : nmOf cx x = some n) : badN x = false := by
 unfold nmOf at h
 cases q : badN x with
 | false => rfl
 | true => rw [q] at h; cases h
theorem zg4 {cx : Cx} {x : Str} {n : Nm} (hc : cx.cs = none) (h : nmOf cx x = some n) : ∃ i k, zao cx.fn x 0 = some (i, k) /\ nmF k i = some n := by
 have hb := zcj h
 unfold nmOf at h
 rw [hb, hc] at h
 exact bd_e h fun p e q => ⟨p.1, p.2, e, q⟩
theorem zg3 {cx : Cx} {cs : Names} {x : Str} {n : Nm} (hc : cx.cs = some cs) (h : nmOf cx x = some n) : ∃ i k, zao cs x 0 = some (i, k) /\ nmC cx.fn x k i = some n := by
 have hb := zcj h
 unfold nmOf at h
 rw [hb, hc] at h
 exact bd_e h fun p e q => ⟨p.1, p.2, e, q⟩
theorem zmj {cx : Cx} {x : Str} {i : Nat} {k : NameKind} (hb : badN x = false) (hc : cx.cs = none) (e : zao cx.fn x 0 = some (i, k)) : nmOf cx x = nmF k i := by
 unfold nmOf
 rw [hb, hc]
 show (zao cx.fn x 0).bind _ = _
 rw [e]; rfl
noncomputable def ziR (cx : Cx) (x : Str) : Option X := match nmOf cx x with
 | some (.v i) => some (.v i)
 | some (.w i) => some (.w i)
 | some .g => (zaW cx.cons x).map .g
 | none => none
noncomputable def zhS : Const -> Option X
 | .none => some (.c .none)
 | .bool b => some (.c (.bool b))
 | .int i => some (.c (.int i))
 | .str s => some (.c (.str s))
 | _ => none
noncomputable def opOf : Operator -> Option Op
 | .Add => some .add | .Sub => some .sub | .Mult => some .mul | .Mod => some .mod | _ => none
noncomputable def zcM : CmpOp -> Op
 | .Eq => .eq | .NotEq => .ne | .Lt => .lt | .LtE => .le | .Gt => .gt | .GtE => .ge | .Is => .is | .IsNot => .isnot | .In => .isin | .NotIn => .notin
noncomputable def primTab : List (Str × Prim) := [(Str.ofString "len", .len), (Str.ofString "int", .int), (Str.ofString "str", .str), (Str.ofString "repr", .repr), (Str.ofString "tuple", .tuple), (Str.ofString "list", .list), (Str.ofString "range", .range), (Str.ofString "sorted", .sorted), (Str.ofString "set", .set), (Str.ofString "max", .max)]
noncomputable def tyTab : List (Str × String) := [(Str.ofString "bool", "bool"), (Str.ofString "int", "int"), (Str.ofString "str", "str"), (Str.ofString "tuple", "tuple"), (Str.ofString "list", "list")]
noncomputable def zgR (x : Str) : Option Prim := zaW primTab x
noncomputable def tyOf (x : Str) : Option String := zaW tyTab x
noncomputable def lmOf (x : Str) : Option LM := zaW [(Str.ofString "append", .append)] x
noncomputable def zcF (x : Str) : Option Bool := zaW [(Str.ofString "what", false), (Str.ofString "spot", true)] x
noncomputable def ziZ (cx : Cx) (p : Pos) : Bool := cx.muts.contains (p.line, p.col)
noncomputable def asKs (e : PySem.Expr) : Option {q : Const × Nat × Pos // e = .Constant q.1 q.2.1 q.2.2} := match e with
 | .Constant c k p => some ⟨(c, k, p), rfl⟩
 | _ => none
noncomputable def asK (e : PySem.Expr) : Option Const := (asKs e).bind fun q => some q.1.1
theorem zjT {e : PySem.Expr} {c : Const} (h : asK e = some c) : ∃ k p, e = .Constant c k p := bd_e h fun q _ h => by
 obtain rfl := Option.some.inj h
 exact ⟨_, _, q.2⟩
noncomputable def intK : Const -> Option Int
 | .int i => some i
 | _ => none
noncomputable def strK : Const -> Option Str
 | .str i => some i
 | _ => none
noncomputable def intC : Option PySem.Expr -> Option (Option Int)
 | none => some none
 | some e => ((asK e).bind intK).map some
noncomputable def zg8 : List (Option PySem.Expr) -> Option (List Str)
 | [] => some []
 | e :: r => (e.bind asK).bind fun c => (strK c).bind fun s => (zg8 r).map (s :: ·)
noncomputable def both {α β : Type} (a : Option α) (b : Option β) : Option (α × β) := match a, b with | some x, some y => some (x, y) | _, _ => none
noncomputable def zf3 (o : PySem.BoolOp) : List X -> Option X
 | [] => none
 | [a] => some a
 | a :: r => (zf3 o r).map fun b => match o with | .And => .and a b | .Or => .or a b
noncomputable def zap : PySem.Expr -> Bool
 | .Starred .. => true
 | _ => false
noncomputable def zcK (fn : Names) (sc : Scope) : Bool := (sc.kind == .function) && sc.names.all (fun p => p.2 != .cell) && sc.names.all (fun p => p.2 != .local || sc.names.lookup p.1 == some .local) && sc.names.all fun p => p.2 != .free || !badN p.1 && (match zao fn p.1 0 with | some (_, .cell) => true | _ => false)
noncomputable def zof : PySem.Expr -> Bool
 | .Name .. => true
 | _ => false
noncomputable def zc8 : PySem.Expr -> Bool
 | .Call f a k _ => !(zof f && (a.isEmpty && k.isEmpty))
 | _ => true
noncomputable def znT : NameKind -> Nat -> Option Nat
 | .local, i => some i | .cell, i => some i | .free, _ => none | .globalExplicit, _ => none | .globalImplicit, _ => none
noncomputable def zdf (fn : Names) (x : Str) : Option Nat := (zao fn x 0).bind fun p => znT p.2 p.1
theorem zbS {fn : Names} {x : Str} {i : Nat} (h : zdf fn x = some i) : ∃ k, zao fn x 0 = some (i, k) /\ (k = .local \/ k = .cell) := bd_e h fun p e h => by
 obtain ⟨j, k⟩ := p
 cases k <;> cases h
 ·exact ⟨_, e, .inl rfl⟩
 ·exact ⟨_, e, .inr rfl⟩
noncomputable def za1 (e : PySem.Expr) : Option {p : Str × Pos // e = .Name p.1 p.2} := match e with
 | .Name x p => some ⟨(x, p), rfl⟩
 | _ => none
noncomputable def zbx (cx : Cx) (e : PySem.Expr) : Option Nat := (za1 e).bind fun p => zdf cx.fn p.1.1
theorem zdP {cx : Cx} {t : PySem.Expr} {i : Nat} (h : zbx cx t = some i) : ∃ x p, t = .Name x p /\ zdf cx.fn x = some i := bd_e h fun p _ h => ⟨p.1.1, p.1.2, p.2, h⟩
noncomputable def zbR (cx : Cx) : List PySem.Expr -> Option (List Nat)
 | [] => some []
 | e :: r => (zbx cx e).bind fun i => (zbR cx r).bind fun l => some (i :: l)
noncomputable def one? {α : Type} (l : List α) : Option {a : α // l = [a]} := match l with
 | [a] => some ⟨a, rfl⟩
 | _ => none
noncomputable def zjU (e : PySem.Expr) : Option {p : PySem.Expr × List PySem.Expr × Pos // e = .Call p.1 p.2.1 [] p.2.2} := match e with
 | .Call f as ks p => match ks with
  | [] => some ⟨(f, as, p), rfl⟩
  | _ => none
 | _ => none
noncomputable def zjV (e : PySem.Expr) : Option {p : PySem.Expr × Str × Pos // e = .Attribute p.1 p.2.1 p.2.2} := match e with
 | .Attribute o x p => some ⟨(o, x, p), rfl⟩
 | _ => none
section
variable {α β : Type} {P : α -> Prop}
noncomputable def bnd (o : Option {a : α // P a}) (k : ∀ a, P a -> Option β) : Option β := match o with
 | some a => k a.1 a.2
 | none => none
noncomputable def chk (b : Bool) (k : b = true -> Option β) : Option β := if h : b = true then k h else none
noncomputable def opt (o : Option α) (k : ∀ a, o = some a -> Option β) : Option β := match o, k with
 | some a, k => k a rfl
 | none, _ => none
end
noncomputable def zme {α β : Type} (f : α -> Option β) : List α -> Option (List β)
 | [] => some []
 | a :: r => opt (f a) fun b _ => opt (zme f r) fun l _ => some (b :: l)
noncomputable def isG : Nm -> Bool
 | .g => true
 | _ => false
noncomputable def zaK : PySem.Expr -> Nat
 | .ListComp .. => 1
 | .SetComp .. => 1
 | .DictComp .. => 1
 | .Tuple .. => 2
 | .Set .. => 3
 | .Slice .. => 5
 | _ => 0
set_option backward.match.sparseCases true
noncomputable def Rest (s s' : Shared) : Prop := s'.gens = s.gens /\ s'.drawn = s.drawn /\ s'.os = s.os
theorem Rest.refl (s : Shared) : Rest s s := ⟨rfl, rfl, rfl⟩
theorem Rest.trans {s s' s'' : Shared} (x : Rest s s') (y : Rest s' s'') : Rest s s'' := ⟨y.1.trans x.1, y.2.1.trans x.2.1, y.2.2.trans x.2.2⟩
theorem Rest.with_ (s : Shared) (h : Heap) (t : Nat) : Rest s { s with heap := h, toks := t } := ⟨rfl, rfl, rfl⟩
noncomputable abbrev Gh.put (g : Gh) (a : Addr) (k : Kd) : Gh := { g with κ := fun b => if b = a then k else g.κ b }
noncomputable abbrev Gh.mu (g : Gh) (a : Addr) : Gh := { κ := fun b => if b = a then .mu else g.κ b, μ := fun i => if i = g.n then a else g.μ i, n := g.n + 1 }
noncomputable def FramesOk (h : Heap) (g : Gh) (fr : List Env) : Prop := h.FunFrames {} fr /\ ∀ L ∈ fr.filterMap (·.frame), g.κ L = .fr
structure Tabs (S : Sta) (h : Heap) (g : Gh) : Prop where
 k : g.κ S.tp = .tb
 at_ : ∃ ps, h.get? S.tp = some (tabObj ps) /\ TriplesOk ps.toList /\ ∀ pos cv, codeAmong pos ps.toList = some cv -> ∃ c oc vs t, cv = .ref c /\ g.κ c = .fz /\ h.get? c = some oc /\ oc.data = .fields vs /\ vs[1]? = some (.str S.lq t)
theorem Tabs.mono {S : Sta} {h h' : Heap} {g g' : Gh} (x : Tabs S h g) (f : Fz g.κ g'.κ h h') (hk : g'.κ S.tp = .tb) (e : ∀ o, h.get? S.tp = some o -> h'.get? S.tp = some o) : Tabs S h' g' := by
 obtain ⟨ps, h1, h2, h3⟩ := x.at_
 refine ⟨hk, ps, e _ h1, h2, fun pos cv q => ?_⟩
 obtain ⟨c, oc, vs, t, q1, q2, q3, q4⟩ := h3 pos cv q
 exact ⟨c, oc, vs, t, q1, (f _ _ q2 q3).1, (f _ _ q2 q3).2, q4⟩
structure Inv (S : Sta) (fr : List Env) (g : Gh) (σ : Hp) (h : Heap) : Prop where
 stays : S.B.StaysIn h
 bfz : ∀ a o, S.B.get? a = some o -> g.κ a = .fz
 ot : ∀ a, h.get? a = none -> g.κ a = .ot
 num : σ.length = g.n
 mu : ∀ i o, σ[i]? = some o -> MO S h g (g.μ i) o
 km : ∀ i, i < g.n -> g.κ (g.μ i) = .mu
 inj : ∀ i j, i < g.n -> j < g.n -> g.μ i = g.μ j -> i = j
 fr : FramesOk h g fr
 tb : Tabs S h g
theorem zax {h h' base : Heap} : ∀ {l : List Env}, (∀ L ∈ l.filterMap (·.frame), ∀ o, h.get? L = some o -> ∃ sl, h'.get? L = some { o with slots := sl }) -> h.FunFrames base l -> h'.FunFrames base l
 | [], _, _ => trivial
 | env :: r, k, ⟨a, ⟨L, o, e1, e2, e3, e4⟩, z⟩ => by
  obtain ⟨sl, e⟩ := k L (by simp [List.filterMap_cons, e1]) o e3
  refine ⟨a, ⟨L, _, e1, e2, e, e4⟩, zax (fun L' m => k L' ?_) z⟩
  rw [List.filterMap_cons, e1]; exact List.mem_cons_of_mem _ m
theorem FramesOk.mem {h : Heap} {g : Gh} {fr : List Env} (x : FramesOk h g fr) {L : Addr} (m : L ∈ fr.filterMap (·.frame)) : ∃ o, h.get? L = some o /\ ∀ vs, o.data ≠ .fields vs := (Heap.FunFrames.mem x.1 m).2
theorem FramesOk.mono {h h' : Heap} {g g' : Gh} {fr : List Env} (x : FramesOk h g fr) (e : Ext No g g' h h') : FramesOk h' g' fr :=
 ⟨zax (fun L m o ho => e.frs L o ho id (x.2 L m)) x.1, fun L m => by
  obtain ⟨o, ho, _⟩ := x.mem m
  exact (e.kind L o ho).trans (x.2 L m)⟩
section
variable {S : Sta} {fr : List Env} {g : Gh} {σ : Hp} {h h' : Heap} {X : Addr -> Prop}
theorem MO.at {a : Addr} {o : O} (x : MO S h g a o) : ∃ ob, h.get? a = some ob := by
 cases x with
 | list e _ => exact ⟨_, e⟩
 | dict e _ => exact ⟨_, e⟩
theorem Inv.lt (I : Inv S fr g σ h) {i : Nat} {o : O} (e : σ[i]? = some o) : i < g.n := by
 rw [← I.num]; exact (List.getElem?_eq_some_iff.mp e).1
theorem Inv.new (I : Inv S fr g σ h) {a : Addr} {k : Kd} {o : Obj} (kp : ∀ b o, h.get? b = some o -> h'.get? b = some o) (hn : h.get? a = none) (ha : h'.get? a = some o) : Inv S fr (g.put a k) σ h' /\ Ext No g (g.put a k) h h' := by
 have ne : ∀ b o, h.get? b = some o -> b ≠ a := fun b o e q => by rw [q, hn] at e; cases e
 have hk : ∀ b o, h.get? b = some o -> (g.put a k).κ b = g.κ b := fun b o e => if_neg (ne b o e)
 have E : Ext No g (g.put a k) h h' := ⟨hk, Nat.le_refl _, fun _ _ => rfl, fun b o q e => ⟨(hk b o e).trans q, kp b o e⟩, fun b o e _ _ _ _ _ => kp b o e, fun b o e _ _ => ⟨o.slots, kp b o e⟩, fun b o vs e _ _ q => ⟨vs, q ▸ kp b o e⟩, fun b o e => ⟨o, kp b o e⟩⟩
 refine ⟨⟨fun b o e => kp b o (I.stays b o e), fun b o e => (hk b o (I.stays b o e)).trans (I.bfz b o e), fun b e => ?_, I.num, fun i o e => (I.mu i o e).mono_at E.up fun ob q => kp _ _ q, fun i hi => ?_, I.inj, I.fr.mono E, I.tb.mono E.fz (let ⟨_, q, _⟩ := I.tb.at_; (hk _ _ q).trans I.tb.k) (kp _)⟩, E⟩
 ·show (if b = a then k else g.κ b) = .ot
  rw [if_neg (fun q => by rw [q, ha] at e; cases e)]
  refine I.ot b ?_
  cases z : h.get? b with
  | none => rfl
  | some o => rw [kp b o z] at e; cases e
 ·have z := I.km i hi
  have hi' : i < σ.length := I.num ▸ hi
  obtain ⟨ob, e⟩ := (I.mu i σ[i] (List.getElem?_eq_getElem hi')).at
  exact (hk _ ob e).trans z
theorem Inv.keeps (I : Inv S fr g σ h) (kp : ∀ b o, h.get? b = some o -> h'.get? b = some o) : Inv S fr g σ h' /\ Ext No g g h h' := by
 have E := Ext.of_keeps No g kp
 refine ⟨⟨fun b o e => kp b o (I.stays b o e), I.bfz, fun b e => I.ot b ?_, I.num, fun i o e => (I.mu i o e).mono_at E.up fun ob q => kp _ _ q, I.km, I.inj, I.fr.mono E, I.tb.mono E.fz I.tb.k (kp _)⟩, E⟩
 cases z : h.get? b with
 | none => rfl
 | some o => rw [kp b o z] at e; cases e
theorem Inv.muAt (I : Inv S fr g σ h) {i : Nat} (hi : i < g.n) : ∃ ob, h.get? (g.μ i) = some ob := by
 have hi' : i < σ.length := I.num ▸ hi
 exact (I.mu i σ[i] (List.getElem?_eq_getElem hi')).at
theorem Inv.newMu (I : Inv S fr g σ h) {a : Addr} {o : O} (kp : ∀ b o, h.get? b = some o -> h'.get? b = some o) (hn : h.get? a = none) (ha : Up g (g.mu a) h h' -> MO S h' (g.mu a) a o) : Inv S fr (g.mu a) (σ ++ [o]) h' /\ Ext No g (g.mu a) h h' := by
 have ne : ∀ b o, h.get? b = some o -> b ≠ a := fun b o e q => by rw [q, hn] at e; cases e
 have hk : ∀ b o, h.get? b = some o -> (g.mu a).κ b = g.κ b := fun b o e => if_neg (ne b o e)
 have hμ : ∀ i, i < g.n -> (g.mu a).μ i = g.μ i := fun i hi => if_neg (Nat.ne_of_lt hi)
 have E : Ext No g (g.mu a) h h' := ⟨hk, Nat.le_succ _, hμ, fun b o q e => ⟨(hk b o e).trans q, kp b o e⟩, fun b o e _ _ _ _ _ => kp b o e, fun b o e _ _ => ⟨o.slots, kp b o e⟩, fun b o vs e _ _ q => ⟨vs, q ▸ kp b o e⟩, fun b o e => ⟨o, kp b o e⟩⟩
 have hM := ha E.up
 have hat : ∃ ob, h'.get? a = some ob := hM.at
 have hself : (g.mu a).μ g.n = a := if_pos rfl
 have old : ∀ i, i < g.n -> g.μ i ≠ a := fun i hi => by obtain ⟨ob, e⟩ := I.muAt hi; exact ne _ _ e
 refine ⟨⟨fun b o e => kp b o (I.stays b o e), fun b o e => (hk b o (I.stays b o e)).trans (I.bfz b o e), fun b e => ?_, ?_, fun i o e => ?_, fun i hi => ?_, fun i j hi hj e => ?_, I.fr.mono E, I.tb.mono E.fz (let ⟨_, q, _⟩ := I.tb.at_; (hk _ _ q).trans I.tb.k) (kp _)⟩, E⟩
 ·show (if b = a then Kd.mu else g.κ b) = .ot
  rw [if_neg (fun q => by obtain ⟨ob, z⟩ := hat; rw [q, z] at e; cases e)]
  refine I.ot b ?_
  cases z : h.get? b with
  | none => rfl
  | some o => rw [kp b o z] at e; cases e
 ·simp [I.num]
 ·by_cases hi : i < σ.length
  ·rw [List.getElem?_append_left hi] at e
   rw [hμ i (I.num ▸ hi)]
   exact (I.mu i o e).mono_at E.up fun ob q => kp _ _ q
  ·rw [List.getElem?_append_right (Nat.le_of_not_lt hi)] at e
   obtain ⟨q1, q2⟩ := List.getElem?_eq_some_iff.mp e
   have : i = σ.length := Nat.le_antisymm (Nat.sub_eq_zero_iff_le.mp (Nat.lt_one_iff.mp q1)) (Nat.not_lt.mp hi)
   subst this
   simp at q2; subst q2
   rw [I.num, hself]; exact hM
 ·by_cases z : i = g.n
  ·subst z; rw [hself]; exact if_pos rfl
  ·have hi' : i < g.n := Nat.lt_of_le_of_ne (Nat.le_of_lt_succ hi) z
   rw [hμ i hi']
   exact (if_neg (old i hi')).trans (I.km i hi')
 ·by_cases z : i = g.n <;> by_cases y : j = g.n
  ·rw [z, y]
  ·have hj' : j < g.n := Nat.lt_of_le_of_ne (Nat.le_of_lt_succ hj) y
   subst z; rw [hself, hμ j hj'] at e; exact absurd e.symm (old j hj')
  ·have hi' : i < g.n := Nat.lt_of_le_of_ne (Nat.le_of_lt_succ hi) z
   subst y; rw [hself, hμ i hi'] at e; exact absurd e (old i hi')
  ·have hi' : i < g.n := Nat.lt_of_le_of_ne (Nat.le_of_lt_succ hi) z
   have hj' : j < g.n := Nat.lt_of_le_of_ne (Nat.le_of_lt_succ hj) y
   rw [hμ i hi', hμ j hj'] at e; exact I.inj i j hi' hj' e
theorem Inv.upMu (I : Inv S fr g σ h) {i : Nat} {o : O} (hi : i < g.n) (kp : ∀ b o, b ≠ g.μ i -> h.get? b = some o -> h'.get? b = some o) (hs : ∃ ob, h'.get? (g.μ i) = some ob) (ha : Up g g h h' -> MO S h' g (g.μ i) o) : Inv S fr g (σ.set i o) h' /\ Ext No g g h h' := by
 have hki := I.km i hi
 have k2 : ∀ b o, g.κ b ≠ .mu -> h.get? b = some o -> h'.get? b = some o := fun b o q e => kp b o (fun z => q (z ▸ hki)) e
 have sti : ∀ b o, h.get? b = some o -> ∃ o', h'.get? b = some o' := fun b ob e => by
  by_cases z : b = g.μ i
  ·subst z; exact hs
  ·exact ⟨ob, kp b ob z e⟩
 have E : Ext No g g h h' := ⟨fun _ _ _ => rfl, Nat.le_refl _, fun _ _ => rfl, fun b o q e => ⟨q, k2 b o (by rw [q]; decide) e⟩, fun b o e _ q _ _ _ => k2 b o q e, fun b o e _ q => ⟨o.slots, k2 b o (by rw [q]; decide) e⟩, fun b o vs e _ q y => ⟨vs, y ▸ k2 b o (by rw [q]; decide) e⟩, sti⟩
 refine ⟨⟨fun b o e => k2 b o (by rw [I.bfz b o e]; decide) (I.stays b o e), I.bfz, fun b e => I.ot b ?_, by rw [List.length_set, I.num], fun j ob e => ?_, I.km, I.inj, I.fr.mono E, I.tb.mono E.fz I.tb.k fun o q => k2 _ o (by rw [I.tb.k]; decide) q⟩, E⟩
 ·cases z : h.get? b with
  | none => rfl
  | some o => obtain ⟨o', y⟩ := sti b o z; rw [y] at e; cases e
 ·by_cases z : i = j
  ·subst z
   rw [List.getElem?_set_self (I.num ▸ hi)] at e
   cases e; exact ha E.up
  ·rw [List.getElem?_set_ne z] at e
   exact (I.mu j ob e).mono_at E.up fun o q => kp _ o (fun y => z (I.inj _ _ (I.lt e) hi y).symm) q
end
section
variable {S : Sta} {fr : List Env} {g g2 : Gh} {σ : Hp} {h0 h1 h2 : Heap}
theorem Inv.seal {d : Addr} {k : Kd} {o : Obj} (E : Ext No g g2 h0 h1) (I : Inv S fr g2 σ h1) (hn : h0.get? d = none) (k2 : g2.κ d = .ot) (kp : ∀ b o, b ≠ d -> h1.get? b = some o -> h2.get? b = some o) (hd : h2.get? d = some o) :
  Inv S fr (g2.put d k) σ h2 /\ Ext No g (g2.put d k) h0 h2 /\ Up g2 (g2.put d k) h1 h2 := by
 have ne : ∀ b, g2.κ b ≠ .ot -> b ≠ d := fun b q z => q (z ▸ k2)
 have hk : ∀ b, b ≠ d -> (g2.put d k).κ b = g2.κ b := fun b e => if_neg e
 have n0 : ∀ b o, h0.get? b = some o -> b ≠ d := fun b o e z => by rw [z, hn] at e; cases e
 have U : Up g2 (g2.put d k) h1 h2 := ⟨Nat.le_refl _, fun _ _ => rfl, fun b o q e => ⟨(hk b (ne b (by rw [q]; decide))).trans q, kp b o (ne b (by rw [q]; decide)) e⟩⟩
 refine ⟨⟨fun b o e => kp b o (ne b (by rw [I.bfz b o e]; decide)) (I.stays b o e), fun b o e => (hk b (ne b (by rw [I.bfz b o e]; decide))).trans (I.bfz b o e), fun b e => ?_, I.num, fun i o e => ?_, fun i hi => ?_, I.inj, ?_, I.tb.mono U.fz ((hk _ (ne _ (by rw [I.tb.k]; decide))).trans I.tb.k) fun o q => kp _ o (ne _ (by rw [I.tb.k]; decide)) q⟩, ?_, U⟩
 ·by_cases z : b = d
  ·rw [z, hd] at e; cases e
  ·refine (hk b z).trans (I.ot b ?_)
   cases y : h1.get? b with
   | none => rfl
   | some o => rw [kp b o z y] at e; cases e
 ·have q := I.km i (I.lt e)
  exact (I.mu i o e).mono_at U fun ob y => kp _ ob (ne _ (by rw [q]; decide)) y
 ·have q := I.km i hi
  exact (hk _ (ne _ (by rw [q]; decide))).trans q
 ·refine ⟨zax (fun L m o ho => ⟨o.slots, kp L o (ne L (by rw [I.fr.2 L m]; decide)) ho⟩) I.fr.1, fun L m => (hk L (ne L (by rw [I.fr.2 L m]; decide))).trans (I.fr.2 L m)⟩
 ·refine ⟨fun b o e => (hk b (n0 b o e)).trans (E.kind b o e), E.num, E.addr, fun b o q e => ⟨(hk b (n0 b o e)).trans (E.fz b o q e).1, kp b o (n0 b o e) (E.fz b o q e).2⟩, fun b o e z p q r t => kp b o (n0 b o e) (E.keep b o e z p q r t), fun b o e z q => ?_, fun b o vs e z q y => ?_, fun b o e => ?_⟩
  ·obtain ⟨sl, y⟩ := E.frs b o e z q; exact ⟨sl, kp b _ (n0 b o e) y⟩
  ·obtain ⟨ws, y⟩ := E.exs b o vs e z q y; exact ⟨ws, kp b _ (n0 b o e) y⟩
  ·obtain ⟨o', y⟩ := E.still b o e; exact ⟨o', kp b _ (n0 b o e) y⟩
theorem Inv.sealMu {d : Addr} {o : O} (E : Ext No g g2 h0 h1) (I : Inv S fr g2 σ h1) (hn : h0.get? d = none) (k2 : g2.κ d = .ot) (hd1 : ∃ o, h1.get? d = some o) (kp : ∀ b o, b ≠ d -> h1.get? b = some o -> h2.get? b = some o) (ha : Up g2 (g2.mu d) h1 h2 -> MO S h2 (g2.mu d) d o) :
  Inv S fr (g2.mu d) (σ ++ [o]) h2 /\ Ext No g (g2.mu d) h0 h2 := by
 have ne : ∀ b, g2.κ b ≠ .ot -> b ≠ d := fun b q z => q (z ▸ k2)
 have hk : ∀ b, b ≠ d -> (g2.mu d).κ b = g2.κ b := fun b e => if_neg e
 have hμ : ∀ i, i < g2.n -> (g2.mu d).μ i = g2.μ i := fun i hi => if_neg (Nat.ne_of_lt hi)
 have n0 : ∀ b o, h0.get? b = some o -> b ≠ d := fun b o e z => by rw [z, hn] at e; cases e
 have U : Up g2 (g2.mu d) h1 h2 := ⟨Nat.le_succ _, hμ, fun b o q e => ⟨(hk b (ne b (by rw [q]; decide))).trans q, kp b o (ne b (by rw [q]; decide)) e⟩⟩
 have hM := ha U
 obtain ⟨od, hd⟩ := hM.at
 have hself : (g2.mu d).μ g2.n = d := if_pos rfl
 have old : ∀ i, i < g2.n -> g2.μ i ≠ d := fun i hi => ne _ (by rw [I.km i hi]; decide)
 refine ⟨⟨fun b o e => kp b o (ne b (by rw [I.bfz b o e]; decide)) (I.stays b o e), fun b o e => (hk b (ne b (by rw [I.bfz b o e]; decide))).trans (I.bfz b o e), fun b e => ?_, by simp [I.num], fun i o e => ?_, fun i hi => ?_, fun i j hi hj e => ?_, ?_, I.tb.mono U.fz ((hk _ (ne _ (by rw [I.tb.k]; decide))).trans I.tb.k) fun o q => kp _ o (ne _ (by rw [I.tb.k]; decide)) q⟩, ?_⟩
 ·by_cases z : b = d
  ·rw [z, hd] at e; cases e
  ·refine (hk b z).trans (I.ot b ?_)
   cases y : h1.get? b with
   | none => rfl
   | some o => rw [kp b o z y] at e; cases e
 ·by_cases hi : i < σ.length
  ·rw [List.getElem?_append_left hi] at e
   rw [hμ i (I.num ▸ hi)]
   exact (I.mu i o e).mono_at U fun ob q => kp _ ob (old i (I.num ▸ hi)) q
  ·rw [List.getElem?_append_right (Nat.le_of_not_lt hi)] at e
   obtain ⟨q1, q2⟩ := List.getElem?_eq_some_iff.mp e
   have : i = σ.length := Nat.le_antisymm (Nat.sub_eq_zero_iff_le.mp (Nat.lt_one_iff.mp q1)) (Nat.not_lt.mp hi)
   subst this
   simp at q2; subst q2
   rw [I.num, hself]; exact hM
 ·by_cases z : i = g2.n
  ·subst z; rw [hself]; exact if_pos rfl
  ·have hi' : i < g2.n := Nat.lt_of_le_of_ne (Nat.le_of_lt_succ hi) z
   rw [hμ i hi']
   exact (if_neg (old i hi')).trans (I.km i hi')
 ·by_cases z : i = g2.n <;> by_cases y : j = g2.n
  ·rw [z, y]
  ·have hj' : j < g2.n := Nat.lt_of_le_of_ne (Nat.le_of_lt_succ hj) y
   subst z; rw [hself, hμ j hj'] at e; exact absurd e.symm (old j hj')
  ·have hi' : i < g2.n := Nat.lt_of_le_of_ne (Nat.le_of_lt_succ hi) z
   subst y; rw [hself, hμ i hi'] at e; exact absurd e (old i hi')
  ·have hi' : i < g2.n := Nat.lt_of_le_of_ne (Nat.le_of_lt_succ hi) z
   have hj' : j < g2.n := Nat.lt_of_le_of_ne (Nat.le_of_lt_succ hj) y
   rw [hμ i hi', hμ j hj'] at e; exact I.inj i j hi' hj' e
 ·refine ⟨zax (fun L m o ho => ⟨o.slots, kp L o (ne L (by rw [I.fr.2 L m]; decide)) ho⟩) I.fr.1, fun L m => (hk L (ne L (by rw [I.fr.2 L m]; decide))).trans (I.fr.2 L m)⟩
 ·refine ⟨fun b o e => (hk b (n0 b o e)).trans (E.kind b o e), Nat.le_succ_of_le E.num, fun i hi => (hμ i (Nat.lt_of_lt_of_le hi E.num)).trans (E.addr i hi), fun b o q e => ⟨(hk b (n0 b o e)).trans (E.fz b o q e).1, kp b o (n0 b o e) (E.fz b o q e).2⟩, fun b o e z p q r t => kp b o (n0 b o e) (E.keep b o e z p q r t), fun b o e z q => ?_, fun b o vs e z q y => ?_, fun b o e => ?_⟩
  ·obtain ⟨sl, y⟩ := E.frs b o e z q; exact ⟨sl, kp b _ (n0 b o e) y⟩
  ·obtain ⟨ws, y⟩ := E.exs b o vs e z q y; exact ⟨ws, kp b _ (n0 b o e) y⟩
  ·obtain ⟨o', y⟩ := E.still b o e; exact ⟨o', kp b _ (n0 b o e) y⟩
end
section
variable (S : Sta) (fr : List Env) (X : Addr -> Prop)
inductive Ok {α β : Type} (R : Heap -> Gh -> α -> β -> Prop) (g : Gh) (s : Shared) (K : β -> Hp -> Prop) (a : α) (s' : Shared) : Prop
 | mk (b : β) (σ' : Hp) (g' : Gh) (k : K b σ') (e : Ext X g g' s.heap s'.heap) (i : Inv S fr g' σ' s'.heap) (r : R s'.heap g' a b) (z : Rest s s')
end
section
variable {S : Sta} {fr : List Env} {X : Addr -> Prop} {α β : Type} {R : Heap -> Gh -> α -> β -> Prop}
theorem Ok.trans {g g1 : Gh} {s s1 : Shared} {K : β -> Hp -> Prop} (x : Ext X g g1 s.heap s1.heap) (r : Rest s s1) {a : α} {s2 : Shared} : Ok S fr X R g1 s1 K a s2 -> Ok S fr X R g s K a s2 := by
 rintro ⟨b, σ', g', k, e, i, q, z⟩
 exact ⟨b, σ', g', k, x.trans e, i, q, r.trans z⟩
theorem Ok.mono {g : Gh} {s : Shared} {K K' : β -> Hp -> Prop} (k : ∀ b σ, K b σ -> K' b σ) {a : α} {s2 : Shared} : Ok S fr X R g s K a s2 -> Ok S fr X R g s K' a s2 := by
 rintro ⟨b, σ', g', q, e, i, y, z⟩
 exact ⟨b, σ', g', k _ _ q, e, i, y, z⟩
theorem Ok.here {g g' : Gh} {s s' : Shared} {σ' : Hp} {K : β -> Hp -> Prop} {b : β} {a : α} (k : K b σ') (p : Inv S fr g' σ' s'.heap /\ Ext X g g' s.heap s'.heap) (r : R s'.heap g' a b) (z : Rest s s') : Ok S fr X R g s K a s' := ⟨b, σ', g', k, p.2, p.1, r, z⟩
end
noncomputable def Tb (h : Heap) (g : Gh) (ea : Addr) (vs : Array Value) : Prop := ∃ T oT ts, vs[1]? = some (.ref T) /\ T ≠ ea /\ h.get? T = some oT /\ oT.data = .fields ts /\ 3 < ts.size /\ g.κ T = .ex
structure ExcAt (S : Sta) (h : Heap) (g : Gh) (ea : Addr) (e : Exc) (tr : Bool) : Prop where
 kd : g.κ ea = .ex
 obj : ∃ oe vs dx mp, h.get? ea = some oe /\ oe.cls = .ref (S.ec e.lim) /\ oe.dict = some dx /\ oe.data = .fields vs /\ 1 < vs.size /\ g.κ dx = .fz /\ h.Ns dx mp /\
  (∃ v, mp (Str.ofString "what") = some v /\ PV S.w.params h g.κ v (.str e.what)) /\ (e.lim = false -> ∃ v, mp (Str.ofString "spot") = some v /\ PV S.w.params h g.κ v e.spot) /\
  ((tr = false /\ vs[1]? = some .none) \/ (tr = true /\ Tb h g ea vs))
theorem zbd {h h' : Heap} {a : Addr} {mp : Str -> Option Value} (k : ∀ o, h.get? a = some o -> h'.get? a = some o) (x : h.Ns a mp) : h'.Ns a mp := by
 obtain ⟨o, es, ep, e, r⟩ := x
 exact ⟨o, es, ep, k o e, r⟩
theorem ziP {h h' : Heap} {a : Addr} {mp : Str -> Option Value} (k : ∀ o, h.get? a = some o -> ∃ sl, h'.get? a = some { o with slots := sl }) (x : h.Ns a mp) : h'.Ns a mp := by
 obtain ⟨o, es, ep, e, r⟩ := x
 obtain ⟨sl, q⟩ := k o e
 exact ⟨_, es, ep, q, r⟩
section
variable {S : Sta} {fr : List Env} {g : Gh} {σ : Hp} {h h' : Heap} {X : Addr -> Prop}
theorem Inv.gen (I : Inv S fr g σ h) (E : Ext No g g h h') (k : ∀ b o, g.κ b = .mu -> h.get? b = some o -> h'.get? b = some o) (k' : ∀ b o, g.κ b = .tb -> h.get? b = some o -> h'.get? b = some o) (hs : ∀ b o, h'.get? b = some o -> (∃ o', h.get? b = some o') \/ g.κ b = .ot \/ True) : Inv S fr g σ h' /\ Ext No g g h h' :=
 ⟨⟨fun b o e => (E.fz b o (I.bfz b o e) (I.stays b o e)).2, I.bfz, fun b e => I.ot b (by
  cases z : h.get? b with
  | none => rfl
  | some o => obtain ⟨o', y⟩ := E.still b o z; rw [y] at e; cases e), I.num, fun i o e => (I.mu i o e).mono_at E.up fun ob q => k _ _ (I.km i (I.lt e)) q, I.km, I.inj, I.fr.mono E, I.tb.mono E.fz I.tb.k fun o q => k' _ o I.tb.k q⟩, E⟩
theorem Inv.slots (I : Inv S fr g σ h) (x : Heap.SlotsOnly (fr.filterMap (·.frame)) h h') : Inv S fr g σ h' /\ Ext No g g h h' := by
 have kf : ∀ b, g.κ b ≠ .fr -> h'.get? b = h.get? b := fun b q => x.2.1 b fun m => q (I.fr.2 b m)
 refine I.gen ⟨fun _ _ _ => rfl, Nat.le_refl _, fun _ _ => rfl, fun b o q e => ⟨q, (kf b (by rw [q]; decide)).trans e⟩, fun b o e _ _ q _ _ => (kf b q).trans e, fun b o e _ _ => x.2.2 b o e, fun b o vs e _ q y => ⟨vs, y ▸ (kf b (by rw [q]; decide)).trans e⟩, fun b o e => ?_⟩ (fun b o q e => (kf b (by rw [q]; decide)).trans e) (fun b o q e => (kf b (by rw [q]; decide)).trans e) fun _ _ _ => .inr (.inr trivial)
 obtain ⟨sl, q⟩ := x.2.2 b o e
 exact ⟨_, q⟩
theorem Inv.upEx (I : Inv S fr g σ h) {a : Addr} {o : Obj} {dt : Array Value} (hk : g.κ a = .ex) (ho : h.get? a = some o) (kp : ∀ b, b ≠ a -> h'.get? b = h.get? b) (ha : h'.get? a = some { o with data := .fields dt }) : Inv S fr g σ h' /\ Ext No g g h h' := by
 have kf : ∀ b, g.κ b ≠ .ex -> h'.get? b = h.get? b := fun b q => kp b fun m => q (m ▸ hk)
 refine I.gen ⟨fun _ _ _ => rfl, Nat.le_refl _, fun _ _ => rfl, fun b o q e => ⟨q, (kf b (by rw [q]; decide)).trans e⟩, fun b o e _ _ _ q _ => (kf b q).trans e, fun b o e _ q => ⟨o.slots, (kf b (by rw [q]; decide)).trans e⟩, fun b o' vs e _ q y => ?_, fun b o' e => ?_⟩ (fun b o q e => (kf b (by rw [q]; decide)).trans e) (fun b o q e => (kf b (by rw [q]; decide)).trans e) fun _ _ _ => .inr (.inr trivial)
 ·by_cases z : b = a
  ·obtain rfl := z.symm; rw [ho] at e; cases e; exact ⟨_, ha⟩
  ·exact ⟨vs, y ▸ (kp b z).trans e⟩
 ·by_cases z : b = a
  ·obtain rfl := z.symm; exact ⟨_, ha⟩
  ·exact ⟨o', (kp b z).trans e⟩
theorem zcb {o : Obj} {vs : Array Value} (hd : o.data = .fields vs) (f : Array Value -> Array Value) : o.mapFields f = { o with data := .fields (f vs) } := by
 obtain ⟨c, d, dt, sl⟩ := o
 subst hd; rfl
theorem Inv.setField (I : Inv S fr g σ h) {a : Addr} {o : Obj} {vs : Array Value} (hk : g.κ a = .ex) (ho : h.get? a = some o) (hd : o.data = .fields vs) (f : Array Value -> Array Value) :
  (h.update a (Obj.mapFields f)).get? a = some { o with data := .fields (f vs) } /\ (∀ b, b ≠ a -> (h.update a (Obj.mapFields f)).get? b = h.get? b) /\ Inv S fr g σ (h.update a (Obj.mapFields f)) /\ Ext No g g h (h.update a (Obj.mapFields f)) := by
 have e1 : (h.update a (Obj.mapFields f)).get? a = some { o with data := .fields (f vs) } := by
  rw [Heap.get?_update_self _ ho (Obj.isFreed_of_fields (Obj.data_mapFields hd _)), zcb hd]
 have e2 : ∀ b, b ≠ a -> (h.update a (Obj.mapFields f)).get? b = h.get? b := fun b q => Heap.get?_update_other _ _ (Ne.symm q)
 exact ⟨e1, e2, I.upEx hk ho e2 e1⟩
end
section
variable {S : Sta} {M : Model} {A : Around} {E : Value -> Shared -> Prop} {s : Shared} {env ev : Env} {outer : List Env} {L ea : Addr} {g : Gh} {σ : Hp} {e : Exc} {tr : Bool}
theorem zcQ {Q : Value -> Shared -> Prop} (hfr : A.frames = some (env :: outer)) (hf : env.frame = some L) (hv : ev.frame = some L) (I : Inv S (env :: outer) g σ s.heap)
  (h : ∀ h', Heap.SlotsOnly ((env :: outer).filterMap (·.frame)) s.heap h' -> Q (.ref L) { s with heap := h' }) : wpAny M A (PySem.frameOf ev) Q E s := by
 have : PySem.frameOf ev = PySem.frameOf env := by unfold PySem.frameOf; rw [hv, hf]
 rw [this]
 exact wpAny_frameOf_fun hfr I.fr.1 hf h
theorem zb5 {head : Value} {hadNext : Bool} {Q : Unit -> Shared -> Prop} (hfr : A.frames = some (env :: outer)) (hf : env.frame = some L) (hv : ev.frame = some L) (I : Inv S (env :: outer) g σ s.heap) (x : ExcAt S s.heap g ea e tr)
  (h : ∀ g' h', Inv S (env :: outer) g' σ h' -> Ext No g g' s.heap h' -> ExcAt S h' g' ea e true -> Q () { s with heap := h' }) :
  wpAny M A (do let a ← PySem.frameOf ev; let pl ← entryPlaceOf L hadNext; let b ← EntryCells.newEntry head a .none (rawInt L) .none pl; setField (.ref ea) 1 b) Q E s := by
 obtain ⟨kd, oe, vs, dx, mp, h1, h2, h3, h4, h5, h6, h7, ⟨v1, h8, h9⟩, h10, h11⟩ := x
 refine wpAny_bind (zcQ hfr hf hv I fun h₁ hs₁ => ?_)
 obtain ⟨I₁, E₁⟩ := I.slots hs₁
 refine wpAny_bind (wpAny_entryPlaceOf fun pl hpl => ?_)
 unfold EntryCells.newEntry newFields
 refine wpAny_bind (wpAny_newObj_type ?_ (hpl.sizeOk5 _ _ _ _ _))
 have he₁ : h₁.get? ea = some oe := (hs₁.2.1 ea fun m => by have := I.fr.2 ea m; rw [kd] at this; cases this).trans h1
 have hn : h₁.get? h₁.objs.size = none := Heap.get?_none_of_le (Nat.le_refl _)
 obtain ⟨I₂, E₂⟩ := I₁.new (h' := h₁.push { cls := .type "traceback", dict := none, data := .fields ([head, .ref L, .none, rawInt L, .none] ++ (if pl.isEmpty then List.replicate 6 Value.none else pl)).toArray }) (k := .ex) (fun b o q => Heap.get?_push_of_some _ q) hn (Heap.get?_push_size h₁ rfl)
 have he₂ := Heap.get?_push_of_some (h := h₁) { cls := .type "traceback", dict := none, data := .fields ([head, .ref L, .none, rawInt L, .none] ++ (if pl.isEmpty then List.replicate 6 Value.none else pl)).toArray } he₁
 have kd₂ : (g.put h₁.objs.size .ex).κ ea = .ex := (E₂.kind ea oe he₁).trans kd
 obtain ⟨e3, o3, I₃, E₃⟩ := I₂.setField kd₂ he₂ h4 (·.setIfInBounds 1 (Value.ref h₁.objs.size))
 refine wpAny_setField he₂ h4 h5 (h _ _ I₃ ((E₁.trans E₂).trans E₃) ?_)
 have EE := (E₁.trans E₂).trans E₃
 have hTe : h₁.objs.size ≠ ea := Nat.ne_of_gt (Heap.lt_size he₁)
 have dxN : ∀ o, s.heap.get? dx = some o -> _ := fun o q => (EE.fz dx o h6 q).2
 have dxs : ∃ o, s.heap.get? dx = some o := let ⟨o, _, _, q, _⟩ := h7; ⟨o, q⟩
 refine ⟨kd₂, _, _, dx, mp, e3, h2, h3, rfl, by simpa using h5, (EE.fz dx _ h6 dxs.choose_spec).1, zbd dxN h7, ⟨v1, h8, h9.mono EE.fz⟩, fun q => ?_, .inr ⟨rfl, h₁.objs.size, _, _, by simp [h5], hTe, (o3 _ hTe).trans (Heap.get?_push_size h₁ rfl), rfl, by simp only [List.size_toArray, List.length_append, List.length_cons, List.length_nil]; omega, if_pos rfl⟩⟩
 obtain ⟨v, q1, q2⟩ := h10 q
 exact ⟨v, q1, q2.mono EE.fz⟩
theorem zbn {Q : Unit -> Shared -> Prop} (hfr : A.frames = some (env :: outer)) (hf : env.frame = some L) (hv : ev.frame = some L) (I : Inv S (env :: outer) g σ s.heap) (x : ExcAt S s.heap g ea e tr)
  (h : ∀ g' h', Inv S (env :: outer) g' σ h' -> Ext No g g' s.heap h' -> ExcAt S h' g' ea e true -> Q () { s with heap := h' }) : wpAny M A (noteFrame (.ref ea) ev) Q E s := by
 have x₀ := x
 obtain ⟨kd, oe, vs, dx, mp, h1, h2, h3, h4, h5, h6, h7, ⟨v1, h8, h9⟩, h10, h11⟩ := x
 unfold noteFrame
 simp only [hv]
 rcases h11 with ⟨_, q1⟩ | ⟨hx, T, oT, ts, q1, q2, q3, q4, q5, q6⟩
 ·refine wpAny_bind (wpAny_field h1 h4 q1 ?_)
  rw [if_neg (by decide)]
  exact zb5 hfr hf hv I x₀ h
 ·refine wpAny_bind (wpAny_field h1 h4 q1 ?_)
  rw [if_pos (show (Value.ref T != Value.none) = true from by simp)]
  refine wpAny_bind (wpAny_field q3 q4 (Array.getElem?_eq_getElem q5) ?_)
  split
  ·subst hx; exact wpAny_pure (h g s.heap I (Ext.refl _ _ _) x₀)
  ·obtain ⟨e3, o3, I₃, E₃⟩ := I.setField q6 q3 q4 (·.setIfInBounds 3 Value.none)
   refine wpAny_bind (wpAny_setField q3 q4 q5 ?_)
   have hd : ∀ o, s.heap.get? dx = some o -> _ := fun o q => (E₃.fz dx o h6 q).2
   refine zb5 hfr hf hv I₃ (tr := true) ⟨kd, oe, vs, dx, mp, (o3 _ (Ne.symm q2)).trans h1, h2, h3, h4, h5, h6, zbd hd h7, ⟨v1, h8, h9.mono E₃.fz⟩, fun q => ?_, .inr ⟨rfl, T, _, _, q1, q2, e3, rfl, by simpa using q5, q6⟩⟩ fun g' h' a b c => h g' h' a (E₃.trans b) c
   obtain ⟨v, y1, y2⟩ := h10 q
   exact ⟨v, y1, y2.mono E₃.fz⟩
theorem zar {fl : Option Addr} {fr : List Env} {Q : Unit -> Shared -> Prop} (I : Inv S fr g σ s.heap) (x : ExcAt S s.heap g ea e tr)
  (h : ∀ h', Inv S fr g σ h' -> Ext No g g s.heap h' -> ExcAt S h' g ea e tr -> Q () { s with heap := h' }) : wpAny M A (setFlight (.ref ea) fl) Q E s := by
 have x₀ := x
 obtain ⟨kd, oe, vs, dx, mp, h1, h2, h3, h4, h5, h6, h7, ⟨v1, h8, h9⟩, h10, h11⟩ := x
 unfold setFlight
 rcases h11 with ⟨_, q1⟩ | ⟨hx, T, oT, ts, q1, q2, q3, q4, q5, q6⟩
 ·refine wpAny_bind (wpAny_field h1 h4 q1 ?_)
  rw [if_neg (by decide)]
  exact wpAny_pure (h _ I (Ext.refl _ _ _) x₀)
 ·refine wpAny_bind (wpAny_field h1 h4 q1 ?_)
  rw [if_pos (show (Value.ref T != Value.none) = true from by simp)]
  obtain ⟨e3, o3, I₃, E₃⟩ := I.setField q6 q3 q4 (·.setIfInBounds 3 (fl.elim Value.none fun f => rawInt f))
  refine wpAny_setField q3 q4 q5 (h _ I₃ E₃ ?_)
  have hd : ∀ o, s.heap.get? dx = some o -> _ := fun o q => (E₃.fz dx o h6 q).2
  refine ⟨kd, oe, vs, dx, mp, (o3 _ (Ne.symm q2)).trans h1, h2, h3, h4, h5, h6, zbd hd h7, ⟨v1, h8, h9.mono E₃.fz⟩, fun q => ?_, .inr ⟨hx, T, _, _, q1, q2, e3, rfl, by simpa using q5, q6⟩⟩
  obtain ⟨v, y1, y2⟩ := h10 q
  exact ⟨v, y1, y2.mono E₃.fz⟩
theorem zeA {Q : Unit -> Shared -> Prop} (hfr : A.frames = some (env :: outer)) (hf : env.frame = some L) (I : Inv S (env :: outer) g σ s.heap) (x : ExcAt S s.heap g ea e tr)
  (h : ∀ g' h', Inv S (env :: outer) g' σ h' -> Ext No g g' s.heap h' -> ExcAt S h' g' ea e true -> Q () { s with heap := h' }) : wpAny M A (leaving env (.ref ea)) Q E s := by
 unfold leaving
 refine wpAny_bind (zbn hfr hf hf I x fun g' h' I' E' x' => ?_)
 exact zar I' x' fun h'' I'' E'' x'' => h g' h'' I'' (E'.trans E'') x''
theorem zb4 {α : Type} {what : String} {fr : List Env} {Q : α -> Shared -> Prop} (I : Inv S fr g σ s.heap) (x : ExcAt S s.heap g ea e true)
  (h : ∀ h', Inv S fr g σ h' -> Ext No g g s.heap h' -> ExcAt S h' g ea e true -> E (.ref ea) { s with heap := h' }) : wpAny M A (PySem.passOn what (.ref ea) ev : Sem α) Q E s := by
 have x₀ := x
 obtain ⟨kd, oe, vs, dx, mp, h1, h2, h3, h4, h5, h6, h7, ⟨v1, h8, h9⟩, h10, h11⟩ := x
 rcases h11 with ⟨q, _⟩ | ⟨hx, T, oT, ts, q1, q2, q3, q4, q5, q6⟩
 ·cases q
 ·unfold PySem.passOn
  refine wpAny_bind (wpAny_field h1 h4 q1 ?_)
  rw [if_neg (show ¬ ((Value.ref T == Value.none) = true) from by simp)]
  first
   | exact wpAny_bind (zar I x₀ fun h' a b c => wpAny_throw (h h' a b c))
   | exact wpAny_bind (wpAny_pure (wpAny_bind (zar I x₀ fun h' a b c => wpAny_throw (h h' a b c))))
end
set_option backward.match.sparseCases false
theorem zfA {G : zaa} {gc : Nat -> PyData} {m mc : Fm} {K : KV} {d} {u0} {σ : Hp} (hh : evX G gc m mc (.c d) σ K u0) : K (.pd d) σ := hh
theorem zjf {G : zaa} {gc : Nat -> PyData} {m mc : Fm} {K : KV} {i} {u0} {σ : Hp} (hh : evX G gc m mc (.g i) σ K u0) : K (.pd (gc i)) σ := hh
theorem zje {G : zaa} {gc : Nat -> PyData} {m mc : Fm} {K : KV} {i} {u0} {σ : Hp} (hh : evX G gc m mc (.v i) σ K u0) : need (locV m i) fun x => K x σ := hh
theorem zjd {G : zaa} {gc : Nat -> PyData} {m mc : Fm} {K : KV} {i} {u0} {σ : Hp} (hh : evX G gc m mc (.w i) σ K u0) : need (locV mc i) fun x => K x σ := hh
theorem zjc {G : zaa} {gc : Nat -> PyData} {m mc : Fm} {K : KV} {n} {u0} {σ : Hp} (hh : evX G gc m mc (.ty n) σ K u0) : K (.ty n) σ := hh
theorem zjb {G : zaa} {gc : Nat -> PyData} {m mc : Fm} {E : KE} {K : KV} {l} {σ : Hp} (hh : evX G gc m mc (.tup l) σ K E) : evXs G gc m mc l σ (fun vs σ' => need (zbE vs) fun ds => when (ds.length <= sizeLine) (K (.pd (.tuple ds)) σ')) E := hh
theorem zja {G : zaa} {gc : Nat -> PyData} {m mc : Fm} {E : KE} {K : KV} {b} {l} {σ : Hp} (hh : evX G gc m mc (.lst b l) σ K E) : evXs G gc m mc l σ (fun vs σ' => need (zbE vs) fun ds => made b ds σ' K) E := hh
theorem zi9 {G : zaa} {gc : Nat -> PyData} {m mc : Fm} {E : KE} {K : KV} {b} {l} {σ : Hp} (hh : evX G gc m mc (.dct b l) σ K E) : evKs G gc m mc l σ (fun kvs σ' => when (zdU (kvs.map (·.1)) = true) (brn b (K (.ref σ'.length) (σ' ++ [.dict kvs])) (need (kvPd kvs) fun ds => K (.pd (.dict ds)) σ'))) E := hh
theorem zds {G : zaa} {gc : Nat -> PyData} {m mc : Fm} {E : KE} {K : KV} {a} {b} {o} {σ : Hp} (hh : evX G gc m mc (.op o a b) σ K E) : evX G gc m mc a σ (fun x σ1 => evX G gc m mc b σ1 (fun y σ2 => kd (evOp o x y σ2) K σ2) E) E := hh
theorem zi8 {G : zaa} {gc : Nat -> PyData} {m mc : Fm} {E : KE} {K : KV} {a} {σ : Hp} (hh : evX G gc m mc (.neg a) σ K E) : evX G gc m mc a σ (fun x σ1 => need (intV x) fun i => K (.pd (.int (-i))) σ1) E := hh
theorem zeh {G : zaa} {gc : Nat -> PyData} {m mc : Fm} {E : KE} {K : KV} {a} {σ : Hp} (hh : evX G gc m mc (.not a) σ K E) : evX G gc m mc a σ (fun x σ1 => truth x fun b => K (.pd (.bool (!b))) σ1) E := hh
theorem zeg {G : zaa} {gc : Nat -> PyData} {m mc : Fm} {E : KE} {K : KV} {a} {b} {σ : Hp} (hh : evX G gc m mc (.and a b) σ K E) : evX G gc m mc a σ (fun x σ1 => truth x fun t => brn t (evX G gc m mc b σ1 K E) (K x σ1)) E := hh
theorem zef {G : zaa} {gc : Nat -> PyData} {m mc : Fm} {E : KE} {K : KV} {a} {b} {σ : Hp} (hh : evX G gc m mc (.or a b) σ K E) : evX G gc m mc a σ (fun x σ1 => truth x fun t => brn t (K x σ1) (evX G gc m mc b σ1 K E)) E := hh
theorem zee {G : zaa} {gc : Nat -> PyData} {m mc : Fm} {E : KE} {K : KV} {a} {b} {d} {o} {p} {σ : Hp} (hh : evX G gc m mc (.ch o p a b d) σ K E) : evX G gc m mc a σ (fun x σ1 => evX G gc m mc b σ1 (fun y σ2 => need ((evOp o x y σ2).bind zjr) fun t => brn t (evX G gc m mc d σ2 (fun z σ3 => kd (evOp p y z σ3) K σ3) E) (K (.pd (.bool false)) σ2)) E) E := hh
theorem zed {G : zaa} {gc : Nat -> PyData} {m mc : Fm} {E : KE} {K : KV} {a} {b} {t} {σ : Hp} (hh : evX G gc m mc (.ite t a b) σ K E) : evX G gc m mc t σ (fun x σ1 => truth x fun r => brn r (evX G gc m mc a σ1 K E) (evX G gc m mc b σ1 K E)) E := hh
theorem zhL {G : zaa} {gc : Nat -> PyData} {m mc : Fm} {E : KE} {K : KV} {a} {i} {σ : Hp} (hh : evX G gc m mc (.sub a i) σ K E) : evX G gc m mc a σ (fun x σ1 => evX G gc m mc i σ1 (fun y σ2 => need (zaA σ2 x y) fun z => K z σ2) E) E := hh
theorem zhK {G : zaa} {gc : Nat -> PyData} {m mc : Fm} {E : KE} {K : KV} {a} {hi} {lo} {σ : Hp} (hh : evX G gc m mc (.slice a lo hi) σ K E) : evX G gc m mc a σ (fun x σ1 => kd (zdr σ1 x lo hi) K σ1) E := hh
theorem zhJ {G : zaa} {gc : Nat -> PyData} {m mc : Fm} {E : KE} {K : KV} {a} {σ : Hp} (hh : evX G gc m mc (.rev a) σ K E) : evX G gc m mc a σ (fun x σ1 => kd (zht σ1 x) K σ1) E := hh
theorem zhz {G : zaa} {gc : Nat -> PyData} {m mc : Fm} {E : KE} {K : KV} {a} {b} {σ : Hp} (hh : evX G gc m mc (.cutv a b) σ K E) : evX G gc m mc a σ (fun x σ1 => evX G gc m mc b σ1 (fun y σ2 => need (intV y) fun i => kd (zdr σ2 x none (some i)) K σ2) E) E := hh
theorem zhx {G : zaa} {gc : Nat -> PyData} {m mc : Fm} {E : KE} {K : KV} {a} {rows} {σ : Hp} (hh : evX G gc m mc (.pick rows a) σ K E) : evX G gc m mc a σ (fun x σ1 => kd (zmd rows x) K σ1) E := hh
theorem zhI {G : zaa} {gc : Nat -> PyData} {m mc : Fm} {E : KE} {K : KV} {a} {σ : Hp} (hh : evX G gc m mc (.scope a) σ K E) : evX G gc m mc a σ (fun x σ1 => need (evrV x) fun s => K s σ1) E := hh
theorem zhH {G : zaa} {gc : Nat -> PyData} {m mc : Fm} {K : KV} {b} {i} {u0} {σ : Hp} (hh : evX G gc m mc (.fault i b) σ K u0) : need (locA fltL m i) fun e => when ((!b || !e.lim) = true) (K (.pd (if b then e.spot else .str e.what)) σ) := hh
theorem zhG {G : zaa} {gc : Nat -> PyData} {m mc : Fm} {E : KE} {K : KV} {f} {l} {σ : Hp} (hh : evX G gc m mc (.call f l) σ K E) : evXs G gc m mc l σ (fun vs σ' => G f (vs.map .v) σ' K E) E := hh
theorem zhF {G : zaa} {gc : Nat -> PyData} {m mc : Fm} {E : KE} {K : KV} {f} {l} {o} {σ : Hp} (hh : evX G gc m mc (.meth f o l) σ K E) : evX G gc m mc o σ (fun x σ1 => need (evrV x) fun s => evXs G gc m mc l σ1 (fun vs σ' => G f (.v (.evr s) :: vs.map .v) σ' K E) E) E := hh
theorem zhE {G : zaa} {gc : Nat -> PyData} {m mc : Fm} {E : KE} {K : KV} {a} {σ : Hp} (hh : evX G gc m mc (.new a) σ K E) : evX G gc m mc a σ (fun x σ1 => need (newV x) fun d => K (.evr d) σ1) E := hh
theorem zec {G : zaa} {gc : Nat -> PyData} {m mc : Fm} {E : KE} {K : KV} {l} {p} {σ : Hp} (hh : evX G gc m mc (.prim p l) σ K E) : evXs G gc m mc l σ (fun vs σ' => zaX p vs σ' K) E := hh
theorem zhD {G : zaa} {gc : Nat -> PyData} {m mc : Fm} {E : KE} {K : KV} {l} {o} {q} {σ : Hp} (hh : evX G gc m mc (.lm q o l) σ K E) : evX G gc m mc o σ (fun x σ1 => when ((lstR σ1 x).isSome = true) (evXs G gc m mc l σ1 (fun vs σ' => evLM q x vs σ' K) E)) E := hh
theorem zhC {G : zaa} {gc : Nat -> PyData} {m mc : Fm} {E : KE} {K : KV} {l} {σ : Hp} (hh : evX G gc m mc (.fstr l) σ K E) : evFs G gc m mc l Str.empty σ (fun x σ' => K (.pd (.str x)) σ') E := hh
theorem zhB {G : zaa} {gc : Nat -> PyData} {m mc : Fm} {E : KE} {K : KV} {b} {c} {e} {it} {t} {σ : Hp} (hh : evX G gc m mc (.comp b e t it c) σ K E) : evX G gc m mc it σ (fun x σ1 => need (zac σ1 x) fun l =>
   zau (fun d acc σ2 k => need (tgFm mc0 t d) fun mc' => evC G gc m mc' c σ2 (fun r σ3 => brn r (when (acc.length <= sizeLine) (evX G gc m mc' e σ3 (fun v σ4 => need (pdV v) fun d' => k (acc ++ [d']) σ4) E)) (k acc σ3)) E)
    (fun σ' k => still σ1 σ' x k) (fun ds σ' => made b ds σ' K) l [] σ1) E := hh
theorem zhy {G : zaa} {gc : Nat -> PyData} {m mc : Fm} {E : KE} {K : KV} {b} {e} {i} {it} {it2} {t} {σ : Hp} (hh : evX G gc m mc (.comp2 b e t it i it2) σ K E) : evX G gc m mc it σ (fun x σ1 => need (zac σ1 x) fun l =>
   zau (fun d acc σ2 k => need (tgFm mc0 t d) fun mc' => when (zd7 mc' i = true) (evX G gc m mc' it2 σ2 (fun y σ3 => need (zac σ3 y) fun l2 =>
     zau (fun d2 acc2 σ4 k2 => need (tgFm mc' (.n i) d2) fun mc2 => when (acc2.length <= sizeLine) (evX G gc m mc2 e σ4 (fun v σ5 => need (pdV v) fun d' => k2 (acc2 ++ [d']) σ5) fun _ _ => False))
      (fun σ' k' => still σ3 σ' y k') k l2 acc σ3) fun _ _ => False))
    (fun σ' k => still σ1 σ' x k) (fun ds σ' => made b ds σ' K) l [] σ1) E := hh
theorem zhA {G : zaa} {gc : Nat -> PyData} {m mc : Fm} {E : KE} {K : KV} {a} {b} {σ : Hp} (hh : evX G gc m mc (.join a b) σ K E) : evX G gc m mc a σ (fun x σ1 => need (strV x) fun u => evX G gc m mc b σ1 (fun y σ2 => kd (zkS σ2 u y) K σ2) E) E := hh
theorem zmS {G : zaa} {gc : Nat -> PyData} {m mc : Fm} {K} {u0} {σ : Hp} (hh : evXs G gc m mc [] σ K u0) : K [] σ := hh
theorem zmR {G : zaa} {gc : Nat -> PyData} {m mc : Fm} {E : KE} {K} {r} {x} {σ : Hp} (hh : evXs G gc m mc (x :: r) σ K E) : evX G gc m mc x σ (fun v σ1 => evXs G gc m mc r σ1 (fun vs σ2 => K (v :: vs) σ2) E) E := hh
theorem zmW {G : zaa} {gc : Nat -> PyData} {m mc : Fm} {K} {acc} {u0} {σ : Hp} (hh : evFs G gc m mc [] acc σ K u0) : whenL (acc.length <= sizeLine) (K acc σ) := hh
theorem zej {G : zaa} {gc : Nat -> PyData} {m mc : Fm} {E : KE} {K} {acc} {r} {x} {σ : Hp} (hh : evFs G gc m mc (x :: r) acc σ K E) : evX G gc m mc x σ (fun v σ1 => need (txt v) fun y => whenL (y.length <= sizeLine /\ (acc ++ y).length <= sizeLine) (evFs G gc m mc r (acc ++ y) σ1 K E)) E := hh
theorem zmV {G : zaa} {gc : Nat -> PyData} {m mc : Fm} {K} {u0} {σ : Hp} (hh : evKs G gc m mc [] σ K u0) : K [] σ := hh
theorem zhP {G : zaa} {gc : Nat -> PyData} {m mc : Fm} {E : KE} {K} {k} {r} {x} {σ : Hp} (hh : evKs G gc m mc ((k, x) :: r) σ K E) : evX G gc m mc x σ (fun v σ1 => evKs G gc m mc r σ1 (fun vs σ2 => K ((k, v) :: vs) σ2) E) E := hh
theorem zdt {G : zaa} {gc : Nat -> PyData} {E : KE} {K : KS} {e} {i} {m : Fm} {σ : Hp} (hh : evS G gc (.asg i e) m σ K E) : evX G gc m [] e σ (fun v σ' => when (i < m.length) (K .next (zaw m i (some (.v v))) σ')) E := hh
theorem zjl {G : zaa} {gc : Nat -> PyData} {E : KE} {K : KS} {es} {l} {m : Fm} {σ : Hp} (hh : evS G gc (.asgs l es) m σ K E) : evXs G gc m [] es σ (fun vs σ' => need (asgN l vs m) fun m' => K .next m' σ') E := hh
theorem zjk {G : zaa} {gc : Nat -> PyData} {E : KE} {K : KS} {e} {l} {m : Fm} {σ : Hp} (hh : evS G gc (.unp l e) m σ K E) : evX G gc m [] e σ (fun v σ' => need (rd σ' v) fun d => need (zci d) fun ds => need (asgN l (ds.map .pd) m) fun m' => K .next m' σ') E := hh
theorem zjj {G : zaa} {gc : Nat -> PyData} {E : KE} {K : KS} {e} {k} {m : Fm} {o} {σ : Hp} (hh : evS G gc (.seti o k e) m σ K E) : evX G gc m [] e σ (fun v σ1 => evX G gc m [] o σ1 (fun x σ2 => evX G gc m [] k σ2 (fun y σ3 => need (zhr σ3 x y v) fun σ4 => K .next m σ4) E) E) E := hh
theorem zji {G : zaa} {gc : Nat -> PyData} {E : KE} {K : KS} {e} {m : Fm} {σ : Hp} (hh : evS G gc (.ex e) m σ K E) : evX G gc m [] e σ (fun _ σ' => K .next m σ') E := hh
theorem zfB {G : zaa} {gc : Nat -> PyData} {E : KE} {K : KS} {e} {m : Fm} {σ : Hp} (hh : evS G gc (.ret e) m σ K E) : evX G gc m [] e σ (fun v σ' => K (.ret v) m σ') E := hh
theorem zjh {G : zaa} {gc : Nat -> PyData} {E : KE} {K : KS} {a} {b} {m : Fm} {t} {σ : Hp} (hh : evS G gc (.ite t a b) m σ K E) : evX G gc m [] t σ (fun v σ' => truth v fun r => brn r (evSs G gc a m σ' K E) (evSs G gc b m σ' K E)) E := hh
theorem zjg {G : zaa} {gc : Nat -> PyData} {E : KE} {K : KS} {b} {it} {m : Fm} {t} {σ : Hp} (hh : evS G gc (.for t it b) m σ K E) : evX G gc m [] it σ (fun x σ1 => need (zac σ1 x) fun l =>
   forN (fun d m' σ' k => need (tgFm m' t d) fun m'' => evSs G gc b m'' σ' k E) (fun σ' k => still σ1 σ' x k) K l m σ1) E := hh
theorem zmU {G : zaa} {gc : Nat -> PyData} {u0} {u1} {u2} {u3} (hh : evS G gc (.bad) u0 u1 u2 u3) : False := hh
theorem zhO {G : zaa} {gc : Nat -> PyData} {E : KE} {l} {lim} {m : Fm} {u0} {σ : Hp} (hh : evS G gc (.raise lim l) m σ u0 E) : evXs G gc m [] l σ (fun vs σ' => need (zf6 lim vs) fun e => E e σ') E := hh
theorem zhN {G : zaa} {gc : Nat -> PyData} {E : KE} {K : KS} {b} {h} {m : Fm} {σ : Hp} (hh : evS G gc (.try b h) m σ K E) : evSs G gc b m σ K (fun e σ' => evH G gc h e m σ' K E) := hh
theorem zhM {G : zaa} {gc : Nat -> PyData} {E : KE} {K : KS} {b} {l} {m : Fm} {t} {σ : Hp} (hh : evS G gc (.forz t l b) m σ K E) : evXs G gc m [] l σ (fun vs σ1 => two vs fun x y => when (zcg x = true /\ zcg y = true) (need (zac σ1 x) fun l1 => need (zac σ1 y) fun l2 =>
    forN (fun d m' σ' k => need (tgFm m' t d) fun m'' => evSs G gc b m'' σ' k E) (fun σ' k => still σ1 σ' x (still σ1 σ' y k)) K (zipT l1 l2) m σ1)) E := hh
theorem zmT {G : zaa} {gc : Nat -> PyData} {K : KS} {m : Fm} {u0} {σ : Hp} (hh : evSs G gc [] m σ K u0) : K .next m σ := hh
theorem zei {G : zaa} {gc : Nat -> PyData} {E : KE} {K : KS} {m : Fm} {r} {s} {σ : Hp} (hh : evSs G gc (s :: r) m σ K E) : evS G gc s m σ (fun f m' σ' => match f with
   | .next => evSs G gc r m' σ' K E
   | f => K f m' σ') E := hh
theorem zny {G : zaa} {gc : Nat -> PyData} {E : KE} {e : Exc} {u0} {u1} {σ : Hp} (hh : evH G gc [] e u0 σ u1 E) : E e σ := hh
theorem zfC {G : zaa} {gc : Nat -> PyData} {E : KE} {K : KS} {b} {e : Exc} {lim} {m : Fm} {r} {x} {σ : Hp} (hh : evH G gc ((lim, x, b) :: r) e m σ K E) : if lim = e.lim then
   hN x (fun i => when (i < m.length) (evSs G gc b (zaw m i (some (.fault e))) σ (fun f m' σ' => K f (zaw m' i none) σ') (fun _ _ => False))) (evSs G gc b m σ K (fun _ _ => False))
  else evH G gc r e m σ K E := hh
set_option backward.match.sparseCases true
noncomputable abbrev Sta.at (S : Sta) (fn : Names) (cs : Option Names) (lam : Bool := false) : Cx := { S.cx with fn := fn, cs := cs, lam := lam }
structure StaOk2 (S : Sta) : Prop extends StaOk S where
 cons : ∀ x i, zaW S.cx.cons x = some i -> ∃ v, S.mg x = some v /\ PV S.w.params S.B (fun _ => .fz) v (S.gc i)
 funs : ∀ x f, zaW S.cx.funs x = some f -> S.mg x = some (.ref (S.fa f))
inductive Er (S : Sta) (fr : List Env) (X : Addr -> Prop) (t : Bool) (g : Gh) (s : Shared) (E : Exc -> Hp -> Prop) (v : Value) (s' : Shared) : Prop
 | mk (exc : Exc) (σ' : Hp) (g' : Gh) (ea : Addr) (tr : Bool) (e : v = .ref ea) (f : t = true -> tr = true) (k : E exc σ') (y : Ext X g g' s.heap s'.heap) (i : Inv S fr g' σ' s'.heap) (q : ExcAt S s'.heap g' ea exc tr) (z : Rest s s')
theorem Er.trans {S : Sta} {fr : List Env} {X : Addr -> Prop} {t : Bool} {g g1 : Gh} {s s1 : Shared} {E : Exc -> Hp -> Prop} (x : Ext X g g1 s.heap s1.heap) (r : Rest s s1) {a : Value} {s2 : Shared} : Er S fr X t g1 s1 E a s2 -> Er S fr X t g s E a s2 := by
 rintro ⟨exc, σ', g', ea, tr, e, f, k, y, i, q, z⟩
 exact ⟨exc, σ', g', ea, tr, e, f, k, x.trans y, i, q, r.trans z⟩
noncomputable def NmAt (h : Heap) (g : Gh) (ev : Env) (x : Str) (v : Value) : Prop :=
 (ev.kindOf x = some .local /\ (g.κ ev.locals = .fr \/ g.κ ev.locals = .ot) /\ ∃ mp, h.Ns ev.locals mp /\ mp x = some v) \/
 (∃ c, (ev.kindOf x = some .cell \/ ev.kindOf x = some .free) /\ ev.cells.lookup x = some c /\ g.κ c = .cl /\ h.IsCell c (some v))
theorem NmAt.mono {h h' : Heap} {g g' : Gh} {ev : Env} {x : Str} {v : Value} (E : Ext No g g' h h') (n : NmAt h g ev x v) : NmAt h' g' ev x v := by
 rcases n with ⟨k, kk, mp, ns, e⟩ | ⟨c, k, l, kc, o, ho, hd⟩
 ·obtain ⟨ob, es, ep, hb, r⟩ := ns
  have kd := E.kind _ ob hb
  refine .inl ⟨k, by rw [kd]; exact kk, mp, ?_, e⟩
  rcases kk with kk | kk
  ·obtain ⟨sl, q⟩ := E.frs _ ob hb id kk
   exact ⟨_, es, ep, q, r⟩
  ·exact ⟨ob, es, ep, E.keep _ ob hb id (by rw [kk]; decide) (by rw [kk]; decide) (by rw [kk]; decide) (by rw [kk]; decide), r⟩
 ·exact .inr ⟨c, k, l, (E.kind _ o ho).trans kc, o, E.keep _ o ho id (by rw [kc]; decide) (by rw [kc]; decide) (by rw [kc]; decide) (by rw [kc]; decide), hd⟩
noncomputable def FaultAt (S : Sta) (X : Addr -> Prop) (h : Heap) (g : Gh) (ea : Addr) (e : Exc) : Prop :=
 g.κ ea = .ex /\ ¬ X ea /\ ∃ oe vs dx mp, h.get? ea = some oe /\ oe.cls = .ref (S.ec e.lim) /\ oe.dict = some dx /\ oe.data = .fields vs /\ g.κ dx = .fz /\ h.Ns dx mp /\
  (∃ v, mp (Str.ofString "what") = some v /\ PV S.w.params h g.κ v (.str e.what)) /\ (e.lim = false -> ∃ v, mp (Str.ofString "spot") = some v /\ PV S.w.params h g.κ v e.spot)
theorem FaultAt.mono {S : Sta} {X : Addr -> Prop} {h h' : Heap} {g g' : Gh} {ea : Addr} {e : Exc} (E : Ext X g g' h h') (x : FaultAt S X h g ea e) : FaultAt S X h' g' ea e := by
 obtain ⟨k, nx, oe, vs, dx, mp, h1, h2, h3, h4, h6, h7, ⟨v1, h8, h9⟩, h10⟩ := x
 obtain ⟨ws, q⟩ := E.exs ea oe vs h1 nx k h4
 obtain ⟨od, es, ep, hb, r⟩ := h7
 refine ⟨(E.kind _ _ h1).trans k, nx, _, ws, dx, mp, q, h2, h3, rfl, (E.fz dx od h6 hb).1, ⟨od, es, ep, (E.fz dx od h6 hb).2, r⟩, ⟨v1, h8, h9.mono E.fz⟩, fun y => ?_⟩
 obtain ⟨v, y1, y2⟩ := h10 y
 exact ⟨v, y1, y2.mono E.fz⟩
inductive LR (S : Sta) (Y : Addr -> Prop) (h : Heap) (g : Gh) : Value -> Loc -> Prop
 | v {v : Value} {x : V} : VR S h g v x -> LR S Y h g v (.v x)
 | fault {ea : Addr} {e : Exc} : FaultAt S Y h g ea e -> LR S Y h g (.ref ea) (.fault e)
theorem LR.mono {S : Sta} {Y : Addr -> Prop} {h h' : Heap} {g g' : Gh} {v : Value} {l : Loc} (E : Ext Y g g' h h') : LR S Y h g v l -> LR S Y h' g' v l
 | .v r => .v (r.mono E.up)
 | .fault r => .fault (r.mono E)
structure Rd (S : Sta) (cx : Cx) (ev : Env) (Y : Addr -> Prop) (h : Heap) (g : Gh) (m mc : Fm) : Prop where
 v : ∀ x i, nmOf cx x = some (.v i) -> ∀ l, m[i]? = some (some l) -> ∃ v, NmAt h g ev x v /\ LR S Y h g v l
 w : ∀ x i, nmOf cx x = some (.w i) -> ∀ l, mc[i]? = some (some l) -> ∃ v, NmAt h g ev x v /\ LR S Y h g v l
 c : cx.cs = none -> ∀ x i, zao cx.fn x 0 = some (i, .cell) -> ev.kindOf x = some .cell /\ ∃ c o, ev.cells.lookup x = some c /\ g.κ c = .cl /\ h.get? c = some o
theorem Rd.mono {S : Sta} {cx : Cx} {ev : Env} {Y : Addr -> Prop} {h h' : Heap} {g g' : Gh} {m mc : Fm} (E : Ext No g g' h h') (r : Rd S cx ev Y h g m mc) : Rd S cx ev Y h' g' m mc :=
 ⟨fun x i n l e => let ⟨v, a, b⟩ := r.v x i n l e; ⟨v, a.mono E, b.mono E.no⟩, fun x i n l e => let ⟨v, a, b⟩ := r.w x i n l e; ⟨v, a.mono E, b.mono E.no⟩,
  fun hl x i e => let ⟨k, c, o, h1, h2, h3⟩ := r.c hl x i e; ⟨k, c, o, h1, (E.kind _ o h3).trans h2, E.keep _ o h3 id (by rw [h2]; decide) (by rw [h2]; decide) (by rw [h2]; decide) (by rw [h2]; decide)⟩⟩
structure Act (S : Sta) (cx : Cx) (A : Around) (env ev : Env) (outer : List Env) (L : Addr) (nd : Nat) (hd : Bool) : Prop where
 hn : hd = false -> A.handled = none
 frames : A.frames = some (env :: outer)
 fL : env.frame = some L
 vL : ev.frame = some L
 guards : A.guards = some []
 depth : A.depth + nd + 10 < recursionLimit
 units : A.units + 16 * nd + 300 < cLine
 kf : ev.scope.kind = .function
 gl : ev.globals = mainGlobals
 bl : ev.builtins = builtinsNs
 gn : ∀ x, nmOf cx x = some .g -> ev.kindOf x = some .globalImplicit
 lam : cx.lam = true -> ev.code = .ref S.lc /\ ev.qual ++ "<lambda>" = S.lq
noncomputable abbrev RV (S : Sta) : Heap -> Gh -> Value -> V -> Prop := fun h g v d => VR S h g v d
noncomputable abbrev RVs (S : Sta) : Heap -> Gh -> List Value -> List V -> Prop := fun h g v d => VRs S h g v d
noncomputable abbrev RB : Heap -> Gh -> Bool -> Bool -> Prop := fun _ _ a b => a = b
noncomputable def SndX (S : Sta) (G : zaa) (nd : Nat) (hd : Bool) (cx : Cx) (e : PySem.Expr) (x : X) : Prop :=
 ∀ A env ev outer L Y m mc σ g s K E, Act S cx A env ev outer L nd hd -> Inv S (env :: outer) g σ s.heap -> Rd S cx ev Y s.heap g m mc -> evX G S.gc m mc x σ K E ->
  wpAny S.M A (eval e ev) (Ok S (env :: outer) No (RV S) g s K) (Er S (env :: outer) No false g s E) s
noncomputable def SndT (S : Sta) (G : zaa) (nd : Nat) (hd : Bool) (cx : Cx) (e : PySem.Expr) (x : X) : Prop :=
 ∀ A env ev outer L Y m mc σ g s K E, Act S cx A env ev outer L nd hd -> Inv S (env :: outer) g σ s.heap -> Rd S cx ev Y s.heap g m mc -> evX G S.gc m mc x σ (fun v σ' => truth v fun b => K b σ') E ->
  wpAny S.M A (isTrue e ev (eval e ev)) (Ok S (env :: outer) No RB g s K) (Er S (env :: outer) No false g s E) s
noncomputable def zbF (S : Sta) (G : zaa) (nd : Nat) (hd : Bool) (cx : Cx) (es : List PySem.Expr) (xs : List X) : Prop :=
 ∀ A env ev outer L Y m mc σ g s K E pos, Act S cx A env ev outer L nd hd -> Inv S (env :: outer) g σ s.heap -> Rd S cx ev Y s.heap g m mc -> evXs G S.gc m mc xs σ K E ->
  wpAny S.M A (spliced (backTo pos (starEach es ev))) (Ok S (env :: outer) No (RVs S) g s K) (Er S (env :: outer) No false g s E) s
section
variable {S : Sta} {fr : List Env} {α β γ δ : Type} {R : Heap -> Gh -> α -> β -> Prop} {R' : Heap -> Gh -> γ -> δ -> Prop} {A : Around} {g : Gh} {s : Shared} {K : β -> Hp -> Prop} {K' : δ -> Hp -> Prop} {E : Exc -> Hp -> Prop} {t : Sem α} {t' : Sem γ}
theorem step {P : α -> Shared -> Prop} {Ev : Value -> Shared -> Prop} (h : wpAny S.M A t (Ok S fr No R g s K) Ev s)
  (k : ∀ a b σ1 g1 s1, K b σ1 -> Ext No g g1 s.heap s1.heap -> Inv S fr g1 σ1 s1.heap -> R s1.heap g1 a b -> Rest s s1 -> P a s1) : wpAny S.M A t P Ev s :=
 wpAny_mono h (fun a s1 ⟨b, σ1, g1, k1, e, i, r, z⟩ => k a b σ1 g1 s1 k1 e i r z) fun _ _ x => x
theorem zdq {g1 : Gh} {s1 : Shared} {tr : Bool} (e : Ext No g g1 s.heap s1.heap) (z : Rest s s1) (h : wpAny S.M A t (Ok S fr No R g1 s1 K) (Er S fr No tr g1 s1 E) s1) :
  wpAny S.M A t (Ok S fr No R g s K) (Er S fr No tr g s E) s1 := wpAny_mono h (fun _ _ x => x.trans e z) fun _ _ x => x.trans e z
theorem zaS {g1 : Gh} {s1 : Shared} {tr : Bool} {P : α -> Shared -> Prop} (e : Ext No g g1 s.heap s1.heap) (z : Rest s s1) (h : wpAny S.M A t P (Er S fr No tr g1 s1 E) s1) :
  wpAny S.M A t P (Er S fr No tr g s E) s1 := wpAny_mono h (fun _ _ x => x) fun _ _ x => x.trans e z
end
section
variable {S : Sta} {A : Around} {ev : Env} {x : Str} {v : Value} {s : Shared} {g : Gh} {Q : Value -> Shared -> Prop} {Ev : Value -> Shared -> Prop} {M : Model}
theorem NmAt.load (n : NmAt s.heap g ev x v) (kf : ev.scope.kind = .function) (hb : badN x = false) (h : Q v s) : wpAny M A (loadName ev x) Q Ev s := by
 rcases n with ⟨k, _, mp, ns, e⟩ | ⟨c, k | k, l, kc, o⟩
 ·exact wpAny_loadName_local kf k ns e h
 ·exact wpAny_loadName_cell kf k l o h
 ·unfold badN at hb
  exact wpAny_loadName_free kf k l o h (by simpa using (Bool.or_eq_false_iff.mp hb).2)
theorem NmAt.eval_ {pos : Pos} (n : NmAt s.heap g ev x v) (kf : ev.scope.kind = .function) (hb : badN x = false) (h : Q v s) : wpAny M A (eval (.Name x pos) ev) Q Ev s :=
 wpAny_Name (n.load kf hb h) (by unfold badN at hb; exact (Bool.or_eq_false_iff.mp hb).1)
theorem zbe {cx : Cx} {n : Nm} (e : nmOf cx x = some n) : badN x = false := zcj e
theorem zaF {pos : Pos} {cx : Cx} {env : Env} {outer : List Env} {L : Addr} {nd : Nat} {hd : Bool} (a : Act S cx A env ev outer L nd hd) (ok : StaOk S) (st : S.B.StaysIn s.heap) (n : nmOf cx x = some .g) (hv : S.mg x = some v) (h : Q v s) : wpAny M A (eval (.Name x pos) ev) Q Ev s := by
 refine Name_function_global a.kf (a.gn x n) (loadGlobal_global (a.gl ▸ zbd (fun o e => st _ _ e) ok.g) hv h) ?_
 have := zbe n
 unfold badN at this; exact (Bool.or_eq_false_iff.mp this).1
theorem zaT {pos : Pos} {cx : Cx} {env : Env} {outer : List Env} {L : Addr} {nd : Nat} {hd : Bool} (a : Act S cx A env ev outer L nd hd) (ok : StaOk S) (st : S.B.StaysIn s.heap) (n : nmOf cx x = some .g) (hg : S.mg x = none) (hv : S.mb x = some v) (h : Q v s) : wpAny M A (eval (.Name x pos) ev) Q Ev s := by
 refine Name_function_global a.kf (a.gn x n) (loadGlobal_builtin (a.gl ▸ zbd (fun o e => st _ _ e) ok.g) hg (a.bl ▸ zbd (fun o e => st _ _ e) ok.b) hv h) ?_
 have := zbe n
 unfold badN at this; exact (Bool.or_eq_false_iff.mp this).1
end
section
variable {S : Sta} {G : zaa} {nd : Nat} {hd : Bool} {cx : Cx}
theorem zdO {c : Const} {k : Nat} {pos : Pos} {x : X} (hc : zhS c = some x) : SndX S G nd hd cx (.Constant c k pos) x := by
 intro A env ev outer L Y m mc σ g s K E a I rd h
 rw [eval_Constant]
 cases c <;> cases hc <;> replace h := zfA h
 ·exact wpAny_pure (.here h ⟨I, .refl _ _ _⟩ (.pd .none) (.refl _))
 ·exact wpAny_pure (.here h ⟨I, .refl _ _ _⟩ (.pd (.bool _)) (.refl _))
 ·exact fun _ _ _ => Ok.here (S := S) (X := No) h ⟨I, .refl _ _ _⟩ (.pd (.int _ _)) ⟨rfl, rfl, rfl⟩
 ·exact fun _ _ _ => Ok.here (S := S) (X := No) h ⟨I, .refl _ _ _⟩ (.pd (.str _ _)) ⟨rfl, rfl, rfl⟩
theorem PV.base {fr : List Env} {g : Gh} {σ : Hp} {h : Heap} (I : Inv S fr g σ h) {v : Value} {d : PyData} (p : PV S.w.params S.B (fun _ => .fz) v d) : PV S.w.params h g.κ v d := p.mono fun a o _ e => ⟨I.bfz a o e, I.stays a o e⟩
theorem zdX {m : Fm} {i : Nat} {x : V} (h : locV m i = some x) : m[i]? = some (some (.v x)) := zjK h fun l a b => zly b ▸ a
theorem zae {α : Type} {o : Option α} {k : α -> Prop} (h : need o k) : ∃ a, o = some a /\ k a := by
 cases o with
 | none => exact h.elim
 | some a => exact ⟨a, rfl, h⟩
theorem zff (ok : StaOk2 S) {fn : Names} {cs : Option Names} {y : Str} {pos : Pos} {lam : Bool} {x : X} (hc : ziR (S.at fn cs lam) y = some x) : SndX S G nd hd (S.at fn cs lam) (.Name y pos) x := by
 intro A env ev outer L Y m mc σ g s K E a I rd h
 unfold ziR at hc
 split at hc
 ·rename_i i hn
  cases hc
  replace h := zje h
  obtain ⟨u, hl, h⟩ := zae h
  obtain ⟨v, n, r⟩ := rd.v y i hn _ (zdX hl)
  cases r with
  | v r => exact n.eval_ a.kf (zbe hn) (Ok.here (K := K) h ⟨I, .refl _ _ _⟩ r (.refl _))
 ·rename_i i hn
  cases hc
  replace h := zjd h
  obtain ⟨u, hl, h⟩ := zae h
  obtain ⟨v, n, r⟩ := rd.w y i hn _ (zdX hl)
  cases r with
  | v r => exact n.eval_ a.kf (zbe hn) (Ok.here (K := K) h ⟨I, .refl _ _ _⟩ r (.refl _))
 ·rename_i hn
  obtain ⟨i, hi, rfl⟩ := Option.map_eq_some_iff.mp hc
  obtain ⟨v, hv, p⟩ := ok.cons y i hi
  replace h := zjf h
  exact zaF a ok.toStaOk I.stays hn hv (Ok.here (K := K) h ⟨I, .refl _ _ _⟩ (.pd (PV.base I p)) (.refl _))
 ·cases hc
end
noncomputable def Is (S : Sta) (fr : List Env) (g : Gh) (σ : Hp) (s : Shared) (d : V) : Value -> Shared -> Prop := Ok S fr No (RV S) g s (fun v σ' => v = d /\ σ' = σ)
structure Room (A : Around) : Prop where
 guards : A.guards = some []
 units : A.units + 200 < cLine
 depth : A.depth + 10 < recursionLimit
theorem Act.room {S : Sta} {cx : Cx} {A : Around} {env ev : Env} {outer : List Env} {L : Addr} {nd : Nat} {hd : Bool} (a : Act S cx A env ev outer L nd hd) : Room A :=
 ⟨a.guards, Nat.lt_of_le_of_lt (Nat.add_le_add (Nat.le_add_right _ _) (by decide)) a.units, Nat.lt_of_le_of_lt (Nat.add_le_add_right (Nat.le_add_right _ _) 10) a.depth⟩
structure OpsOk (S : Sta) : Prop where
 bin : ∀ {A fr g σ s a b x y d o bo Ev}, Room A -> Inv S fr g σ s.heap -> VR S s.heap g a x -> VR S s.heap g b y -> opOf bo = some o -> evOp o x y σ = some d -> wpAny S.M A (binaryOp bo a b) (Is S fr g σ s (.pd d)) Ev s
 cmp : ∀ {A fr g σ s a b x y d co Ev}, Room A -> Inv S fr g σ s.heap -> VR S s.heap g a x -> VR S s.heap g b y -> evOp (zcM co) x y σ = some d -> wpAny S.M A (compareOp co a b) (Is S fr g σ s (.pd d)) Ev s
section
variable {S : Sta} {fr : List Env} {A : Around} {g : Gh} {σ : Hp} {s : Shared} {K : KV} {Ev : Value -> Shared -> Prop} {t : Sem Value} {d : V}
theorem Is.ok {a : Value} {s1 : Shared} (k : K d σ) (x : Is S fr g σ s d a s1) : Ok S fr No (RV S) g s K a s1 := x.mono fun v σ' q => by rw [q.1, q.2]; exact k
theorem zaN {v : V} {k : Bool -> Prop} (h : truth v k) : ∃ b, v = .pd (.bool b) /\ k b := zaj h fun b e q => ⟨b, zle e, q⟩
theorem zaV {h : Heap} {v : Value} {b : Bool} (r : VR S h g v (.pd (.bool b))) : v = .bool b := by
 cases r with
 | pd r => cases r; rfl
theorem zbw {h : Heap} {v : Value} {i : Int} (r : VR S h g v (.pd (.int i))) : ∃ t, v = .int i t := by
 cases r with
 | pd r => cases r; exact ⟨_, rfl⟩
theorem ze7 {h : Heap} {v : Value} {x : Str} (r : VR S h g v (.pd (.str x))) : ∃ t, v = .str x t := by
 cases r with
 | pd r => cases r; exact ⟨_, rfl⟩
theorem zbu {h : Heap} {v : Value} {d : PyData} (r : VR S h g v (.pd d)) : PV S.w.params h g.κ v d := by
 cases r with
 | pd r => exact r
theorem zbh {o : Option PyData} {K : KV} {σ : Hp} (h : kd o K σ) : ∃ d, o = some d /\ K (.pd d) σ := zae h
end
section
variable {S : Sta} {G : zaa} {nd : Nat} {hd : Bool} {cx : Cx}
theorem zcq : zbF S G nd hd cx [] [] := by
 intro A env ev outer L Y m mc σ g s K E pos a I rd h
 exact spliced_none (.here (K := K) h ⟨I, .refl _ _ _⟩ .nil (.refl _))
theorem zbp {e : PySem.Expr} {es : List PySem.Expr} {x : X} {xs : List X} (hx : SndX S G nd hd cx e x) (hr : zbF S G nd hd cx es xs) (hs : zap e = false) : zbF S G nd hd cx (e :: es) (x :: xs) := by
 intro A env ev outer L Y m mc σ g s K E pos a I rd h
 refine spliced_more (step (hx A env ev outer L Y m mc σ g s _ E a I rd h) fun v d σ1 g1 s1 h1 e1 i1 r1 z1 => ?_) (by cases e <;> first | rfl | cases hs)
 refine zaS e1 z1 (step (hr A env ev outer L Y m mc σ1 g1 s1 _ E pos a i1 (rd.mono e1) h1) fun vs ds σ2 g2 s2 h2 e2 i2 r2 z2 => ?_)
 exact ⟨d :: ds, σ2, g2, h2, e1.trans e2, i2, .cons (r1.mono e2.up) r2, z1.trans z2⟩
theorem zeE {es : List PySem.Expr} {xs : List X} {c : Nat} {pos : Pos} (hx : zbF S G nd hd cx es xs) : SndX S G nd hd cx (.Tuple es c pos) (.tup xs) := by
 intro A env ev outer L Y m mc σ g s K E a I rd h
 replace h := zjb h
 rw [arm_eval_Tuple]
 refine wpAny_bind (wpAny_standAt (wpAny_bind (step (hx A env ev outer L Y m mc σ g s _ E pos a I rd h) fun vs ds σ1 g1 s1 h1 e1 i1 r1 z1 => ?_)))
 obtain ⟨pd, hp, h1⟩ := zae h1
 obtain ⟨hl, h1⟩ := zat h1
 have ps := r1.pds hp
 have hn : s1.heap.get? s1.heap.objs.size = none := Heap.get?_none_of_le (Nat.le_refl _)
 refine wpAny_newTuple ?_ (by rw [ps.length]; exact hl)
 obtain ⟨I2, E2⟩ := i1.new (k := .fz) (fun b o q => Heap.get?_push_of_some _ q) hn (Heap.get?_push_size s1.heap (o := { cls := .type "tuple", data := .seq vs.toArray }) rfl)
 exact ⟨_, σ1, _, h1, e1.trans E2, I2, .pd (.tuple (if_pos rfl) (Heap.get?_push_size _ rfl) rfl rfl (by simpa using ps.mono E2.up.fz)), z1⟩
theorem zkH {fr : List Env} {g : Gh} {σ : Hp} {h : Heap} {m : Bool} {ds : List PyData} {K : KV} {vs : List Value} {P : V -> Hp -> Gh -> Prop} (sm : ∃ o, S.B.get? sysModules = some o) (I : Inv S fr g σ h) (ps : PVs S.w.params h g.κ vs ds) (hm : made m ds σ K) :
  ∃ d σ' g', K d σ' /\ Ext No g g' h (h.push { cls := .type "list", data := .seq vs.toArray }) /\ Inv S fr g' σ' (h.push { cls := .type "list", data := .seq vs.toArray }) /\ VR S (h.push { cls := .type "list", data := .seq vs.toArray }) g' (.ref h.objs.size) d := by
 have hn : h.get? h.objs.size = none := Heap.get?_none_of_le (Nat.le_refl _)
 have kp : ∀ b o, h.get? b = some o -> (h.push { cls := .type "list", data := .seq vs.toArray }).get? b = some o := fun b o q => Heap.get?_push_of_some _ q
 have hat : (h.push { cls := .type "list", data := .seq vs.toArray }).get? h.objs.size = some { cls := .type "list", data := .seq vs.toArray } := Heap.get?_push_size _ rfl
 have ns : h.objs.size ≠ sysModules := fun q => by
  obtain ⟨o, e⟩ := sm
  rw [← q] at e; rw [I.stays _ _ e] at hn; cases hn
 replace hm := zat hm
 cases m with
 | true =>
  obtain ⟨I2, E2⟩ := I.newMu (o := .list ds) kp hn (fun u => .list hat (ps.mono u.fz))
  refine ⟨_, _, _, hm.2, E2, I2, ?_⟩
  have : (g.mu h.objs.size).μ σ.length = h.objs.size := by rw [I.num]; exact if_pos rfl
  conv => lhs; rw [← this]
  exact .ref (by show σ.length < g.n + 1; rw [I.num]; exact Nat.lt_succ_self _)
 | false =>
  obtain ⟨I2, E2⟩ := I.new (k := .fz) kp hn hat
  exact ⟨_, _, _, hm.2, E2, I2, .pd (.list (if_pos rfl) hat rfl rfl ns (by simpa using ps.mono E2.up.fz))⟩
theorem zkj (sm : ∃ o, S.B.get? sysModules = some o) {es : List PySem.Expr} {xs : List X} {b : Bool} {pos : Pos} (hx : zbF S G nd hd cx es xs) : SndX S G nd hd cx (.List es pos) (.lst b xs) := by
 intro A env ev outer L Y m mc σ g s K E a I rd h
 replace h := zja h
 rw [arm_eval_List]
 refine wpAny_bind (wpAny_standAt (wpAny_bind (step (hx A env ev outer L Y m mc σ g s _ E pos a I rd h) fun vs ds σ1 g1 s1 h1 e1 i1 r1 z1 => ?_)))
 obtain ⟨pd, hp, h1⟩ := zae h1
 have ps := r1.pds hp
 refine wpAny_newList ?_ (by rw [ps.length]; exact (zat h1).1)
 obtain ⟨d, σ', g', k, E2, I2, r⟩ := zkH (P := fun _ _ _ => True) sm i1 ps h1
 exact ⟨d, σ', g', k, e1.trans E2, I2, r, z1⟩
theorem zkn (ops : OpsOk S) {l r : PySem.Expr} {bo : Operator} {o : Op} {pos : Pos} {a b : X} (ho : opOf bo = some o) (ha : SndX S G nd hd cx l a) (hb : SndX S G nd hd cx r b) : SndX S G nd hd cx (.BinOp l bo r pos) (.op o a b) := by
 intro A env ev outer L Y m mc σ g s K E ac I rd h
 replace h := zds h
 refine wpAny_BinOp (step (ha A env ev outer L Y m mc σ g s _ E ac I rd h) fun v d σ1 g1 s1 h1 e1 i1 r1 z1 => ?_)
 refine zaS e1 z1 (step (hb A env ev outer L Y m mc σ1 g1 s1 _ E ac i1 (rd.mono e1) h1) fun w f σ2 g2 s2 h2 e2 i2 r2 z2 => ?_)
 obtain ⟨x, hx, h2⟩ := zbh h2
 exact wpAny_mono (ops.bin ac.room i2 (r1.mono e2.up) r2 ho hx) (fun _ _ q => (q.ok h2).trans (e1.trans e2) (z1.trans z2)) fun _ _ q => q
theorem zbL {e : PySem.Expr} (h : zaK e ≠ 3) (co : CmpOp) : behindInMarks co e = false := by
 cases e <;> first | rfl | exact absurd rfl h
theorem zkm (ops : OpsOk S) {l r : PySem.Expr} {co : CmpOp} {pos : Pos} {a b : X} (hm : behindInMarks co r = false) (ha : SndX S G nd hd cx l a) (hb : SndX S G nd hd cx r b) : SndX S G nd hd cx (.Compare l [co] [r] pos) (.op (zcM co) a b) := by
 intro A env ev outer L Y m mc σ g s K E ac I rd h
 replace h := zds h
 refine wpAny_Compare1 (step (ha A env ev outer L Y m mc σ g s _ E ac I rd h) fun v d σ1 g1 s1 h1 e1 i1 r1 z1 => ?_) hm
 refine zaS e1 z1 (step (hb A env ev outer L Y m mc σ1 g1 s1 _ E ac i1 (rd.mono e1) h1) fun w f σ2 g2 s2 h2 e2 i2 r2 z2 => ?_)
 obtain ⟨x, hx, h2⟩ := zbh h2
 exact wpAny_mono (ops.cmp ac.room i2 (r1.mono e2.up) r2 hx) (fun _ _ q => (q.ok h2).trans (e1.trans e2) (z1.trans z2)) fun _ _ q => q
theorem zij (ops : OpsOk S) {l r : PySem.Expr} {co : CmpOp} {pos : Pos} {a b : X} (hm : behindInMarks co r = false) (ha : SndX S G nd hd cx l a) (hb : SndX S G nd hd cx r b) : SndT S G nd hd cx (.Compare l [co] [r] pos) (.op (zcM co) a b) := by
 intro A env ev outer L Y m mc σ g s K E ac I rd h
 replace h := zds h
 refine wpAny_isTrue_Compare1 (step (ha A env ev outer L Y m mc σ g s _ E ac I rd h) fun v d σ1 g1 s1 h1 e1 i1 r1 z1 => ?_) hm
 refine zaS e1 z1 (step (hb A env ev outer L Y m mc σ1 g1 s1 _ E ac i1 (rd.mono e1) h1) fun w f σ2 g2 s2 h2 e2 i2 r2 z2 => ?_)
 obtain ⟨x, hx, h2⟩ := zbh h2
 obtain ⟨bb, q, h2⟩ := zaN h2
 cases q
 refine step (ops.cmp ac.room i2 (r1.mono e2.up) r2 hx) fun u f' σ3 g3 s3 h3 e3 i3 r3 z3 => ?_
 obtain ⟨rfl, rfl⟩ := h3
 obtain rfl := zaV r3
 exact wpAny_truthy_bool ⟨bb, σ3, g3, h2, (e1.trans e2).trans e3, i3, rfl, (z1.trans z2).trans z3⟩
theorem zki {e : PySem.Expr} {pos : Pos} {a : X} (ha : SndX S G nd hd cx e a) : SndX S G nd hd cx (.UnaryOp .USub e pos) (.neg a) := by
 intro A env ev outer L Y m mc σ g s K E ac I rd h
 replace h := zi8 h
 rw [arm_eval_UnaryOp]
 refine wpAny_bind (step (ha A env ev outer L Y m mc σ g s _ E ac I rd h) fun v d σ1 g1 s1 h1 e1 i1 r1 z1 => ?_)
 obtain ⟨i, hi, h1⟩ := zae h1
 obtain ⟨t, rfl⟩ := zbw (zbz hi ▸ r1)
 exact wpAny_bind (wpAny_standAt (wpAny_holding (P.neg_int ⟨_, σ1, g1, h1, e1, i1, .pd (.int _ _), z1⟩)))
theorem zkg {e : PySem.Expr} {pos : Pos} {a : X} (ha : SndX S G nd hd cx e a) : SndX S G nd hd cx (.UnaryOp .Not e pos) (.not a) := by
 intro A env ev outer L Y m mc σ g s K E ac I rd h
 replace h := zeh h
 rw [arm_eval_UnaryOp]
 refine wpAny_bind (step (ha A env ev outer L Y m mc σ g s _ E ac I rd h) fun v d σ1 g1 s1 h1 e1 i1 r1 z1 => ?_)
 obtain ⟨b, rfl, h1⟩ := zaN h1
 obtain rfl := zaV r1
 refine wpAny_bind (wpAny_standAt (wpAny_holding ?_))
 unfold unaryOp
 refine wpAny_holding ?_
 show wpAny S.M A (truthy (.bool b) >>= fun c => pure (Value.bool (!c))) _ _ _
 exact wpAny_bind (wpAny_truthy_bool (wpAny_pure ⟨_, σ1, g1, h1, e1, i1, .pd (.bool _), z1⟩))
theorem zii {e : PySem.Expr} {pos : Pos} {a : X} (ha : SndT S G nd hd cx e a) : SndT S G nd hd cx (.UnaryOp .Not e pos) (.not a) := by
 intro A env ev outer L Y m mc σ g s K E ac I rd h
 replace h := zeh h
 rw [arm_isTrue_UnaryOp]
 refine wpAny_bind (step (ha A env ev outer L Y m mc σ g s (fun b σ' => K (!b) σ') E ac I rd h) fun v d σ1 g1 s1 h1 e1 i1 r1 z1 => ?_)
 subst r1
 exact wpAny_pure ⟨_, σ1, g1, h1, e1, i1, rfl, z1⟩
end
inductive HasSub (σ : Hp) (x : V) : Prop
 | l (l : List PyData) (e : rd σ x = some (.list l))
 | t (l : List PyData) (e : rd σ x = some (.tuple l))
 | r (i : Nat) (l : List (Str × V)) (e : x = .ref i) (q : σ[i]? = some (.dict l))
 | d (l : List (PyData × PyData)) (e : x = .pd (.dict l))
theorem zhq {σ : Hp} {x y z : V} (h : zaA σ x y = some z) : HasSub σ x :=
 zaJ h (fun h => bd_e h fun k _ h => zaJ h (fun h => bd_e h fun p h1 _ => .r _ _ (zem h1).1 (zem h1).2) fun h => bd_e h fun l h1 _ => bd_e h1 fun d h2 h3 => .d l (by rw [zbv h2, zdx h3]))
  fun h => bd_e h fun i _ h => bd_e h fun d h1 h => zaJ h (fun h => bd_e h fun l h2 _ => .l l (by rw [h1, zbf h2])) fun h => bd_e h fun l h2 _ => .t l (by rw [h1, zcn h2])
theorem zhs {σ : Hp} {x : V} {d : PyData} (h : zht σ x = some d) : HasSub σ x := bd_e h fun d h1 h => bd_e h fun l h2 _ => .l l (by rw [h1, zbf h2])
theorem zea {σ : Hp} {x : V} {lo hi : Option Int} {d : PyData} (h : zdr σ x lo hi = some d) : HasSub σ x :=
 bd_e h fun d h1 h => zaJ h (fun h => bd_e h fun l h2 _ => .l l (by rw [h1, zbf h2])) fun h => bd_e h fun l h2 _ => .t l (by rw [h1, zcn h2])
structure SubOk (S : Sta) : Prop where
 gip : ∀ {A fr g σ s a x Ev}, Room A -> Inv S fr g σ s.heap -> VR S s.heap g a x -> HasSub σ x -> wpAny S.M A (getitemInPython a) (fun b s' => b = false /\ s' = s) Ev s
 get : ∀ {A fr g σ s a b x y z Ev}, Room A -> Inv S fr g σ s.heap -> VR S s.heap g a x -> VR S s.heap g b y -> zaA σ x y = some z -> wpAny S.M A (getItem a b) (Is S fr g σ s z) Ev s
 cut : ∀ {A fr g σ s a x d lo hi sl vl vu Ev}, Room A -> Inv S fr g σ s.heap -> VR S s.heap g a x -> s.heap.IsSliceOf sl vl vu .none -> IsPart vl lo -> IsPart vu hi -> zdr σ x lo hi = some d -> wpAny S.M A (getItem a (.ref sl)) (Is S fr g σ s (.pd d)) Ev s
 rev : ∀ {A fr g σ s a x d sl t Ev}, Room A -> Inv S fr g σ s.heap -> VR S s.heap g a x -> s.heap.IsSliceOf sl .none .none (.int (-1) t) -> zht σ x = some d -> wpAny S.M A (getItem a (.ref sl)) (Is S fr g σ s (.pd d)) Ev s
 scope : ∀ {A fr g σ s a sc Ev}, Room A -> Inv S fr g σ s.heap -> VR S s.heap g a (.evr sc) -> wpAny S.M A (getAttr a (Str.ofString "scope") true) (Is S fr g σ s sc) Ev s
 fault : ∀ {A fr g σ s ea e b y Y Ev}, Room A -> Inv S fr g σ s.heap -> FaultAt S Y s.heap g ea e -> zcF y = some b -> (b = true -> e.lim = false) -> wpAny S.M A (getAttr (.ref ea) y true) (Is S fr g σ s (.pd (if b then e.spot else .str e.what))) Ev s
section
variable {M : Model} {A : Around} {Ev : Value -> Shared -> Prop} {s : Shared}
theorem zas {vs : List Value} {m : Sem Value} {Q : Value -> Shared -> Prop} (h : wpAny M A m Q Ev s) : wpAny M A (operate vs m) Q Ev s := fun Γ p hΓ => by rw [Sem.wp_operate]; exact h Γ p hΓ
theorem zgk {x : V} {P : Prop} {F : Bool -> Prop} : (truth x fun t => brn t P (truth x F)) = (truth x fun t => brn t P (F false)) := by
 unfold truth
 cases zjq x with
 | none => rfl
 | some b => cases b <;> rfl
theorem zib {x : V} {P : Prop} {F : Bool -> Prop} : (truth x fun t => brn t (truth x F) P) = (truth x fun t => brn t (F true) P) := by
 unfold truth
 cases zjq x with
 | none => rfl
 | some b => cases b <;> rfl
end
section
variable {S : Sta} {G : zaa} {nd : Nat} {hd : Bool} {cx : Cx}
inductive Sn2 (S : Sta) (G : zaa) (nd : Nat) (hd : Bool) (cx : Cx) : List PySem.Expr -> List X -> Prop
 | nil : Sn2 S G nd hd cx [] []
 | cons {e : PySem.Expr} {x : X} {es : List PySem.Expr} {xs : List X} : SndX S G nd hd cx e x -> SndT S G nd hd cx e x -> zap e = false -> Sn2 S G nd hd cx es xs -> Sn2 S G nd hd cx (e :: es) (x :: xs)
theorem Sn2.xs {es : List PySem.Expr} {xs : List X} (h : Sn2 S G nd hd cx es xs) : zbF S G nd hd cx es xs := by
 induction h with
 | nil => exact zcq
 | cons hx _ hs _ ih => exact zbp hx ih hs
theorem zfU {o : PySem.BoolOp} {pos : Pos} {es : List PySem.Expr} {xs : List X} {x : X} (h2 : Sn2 S G nd hd cx es xs) (hj : zf3 o xs = some x) : SndX S G nd hd cx (.BoolOp o es pos) x := by
 suffices ∀ A env ev outer L Y m mc σ g s K E, Act S cx A env ev outer L nd hd -> Inv S (env :: outer) g σ s.heap -> Rd S cx ev Y s.heap g m mc -> evX G S.gc m mc x σ K E ->
   wpAny S.M A (boolOp pos o (evalEach es ev)) (Ok S (env :: outer) No (RV S) g s K) (Er S (env :: outer) No false g s E) s by
  intro A env ev outer L Y m mc σ g s K E a I rd h
  rw [arm_eval_BoolOp]
  exact this A env ev outer L Y m mc σ g s K E a I rd h
 induction h2 generalizing x with
 | nil => cases hj
 | @cons e y es ys hx ht hs hr ih =>
  intro A env ev outer L Y m mc σ g s K E a I rd h
  cases hr with
  | nil =>
   cases hj
   exact hx A env ev outer L Y m mc σ g s K E a I rd h
  | @cons e' y' es' ys' hx' ht' hs' hr' =>
   have hj : Option.map _ (zf3 o (y' :: ys')) = some _ := hj
   obtain ⟨q, hq, rfl⟩ := Option.map_eq_some_iff.mp hj
   have ih := ih hq
   rw [arm_evalEach_cons, arm_evalEach_cons]
   unfold boolOp
   cases o with
   | And =>
    simp only at h
    replace h := zeg h
    refine wpAny_bind (step (hx A env ev outer L Y m mc σ g s _ E a I rd h) fun v d σ1 g1 s1 h1 e1 i1 r1 z1 => ?_)
    obtain ⟨b, rfl, h1⟩ := zaN h1
    obtain rfl := zaV r1
    refine wpAny_bind (wpAny_standAt (wpAny_bind (wpAny_holding (wpAny_truthy_bool ?_))))
    cases b with
    | false => exact wpAny_pure ⟨_, σ1, g1, h1, e1, i1, r1, z1⟩
    | true => exact zdq e1 z1 (ih A env ev outer L Y m mc σ1 g1 s1 K E a i1 (rd.mono e1) h1)
   | Or =>
    simp only at h
    replace h := zef h
    refine wpAny_bind (step (hx A env ev outer L Y m mc σ g s _ E a I rd h) fun v d σ1 g1 s1 h1 e1 i1 r1 z1 => ?_)
    obtain ⟨b, rfl, h1⟩ := zaN h1
    obtain rfl := zaV r1
    refine wpAny_bind (wpAny_standAt (wpAny_bind (wpAny_holding (wpAny_truthy_bool ?_))))
    cases b with
    | true => exact wpAny_pure ⟨_, σ1, g1, h1, e1, i1, r1, z1⟩
    | false => exact zdq e1 z1 (ih A env ev outer L Y m mc σ1 g1 s1 K E a i1 (rd.mono e1) h1)
theorem zeD {o : PySem.BoolOp} {pos : Pos} {es : List PySem.Expr} {xs : List X} {x : X} (h2 : Sn2 S G nd hd cx es xs) (hj : zf3 o xs = some x) : SndT S G nd hd cx (.BoolOp o es pos) x := by
 suffices ∀ A env ev outer L Y m mc σ g s K E, Act S cx A env ev outer L nd hd -> Inv S (env :: outer) g σ s.heap -> Rd S cx ev Y s.heap g m mc -> evX G S.gc m mc x σ (fun v σ' => truth v fun b => K b σ') E ->
   wpAny S.M A (allTrue o es ev) (Ok S (env :: outer) No RB g s K) (Er S (env :: outer) No false g s E) s by
  intro A env ev outer L Y m mc σ g s K E a I rd h
  rw [arm_isTrue_BoolOp]
  exact this A env ev outer L Y m mc σ g s K E a I rd h
 induction h2 generalizing x with
 | nil => cases hj
 | @cons e y es ys hx ht hs hr ih =>
  intro A env ev outer L Y m mc σ g s K E a I rd h
  cases hr with
  | nil =>
   cases hj
   rw [arm_allTrue_cons]
   refine wpAny_bind (step (ht A env ev outer L Y m mc σ g s K E a I rd h) fun b b' σ1 g1 s1 h1 e1 i1 r1 z1 => ?_)
   subst r1
   cases o <;> cases b <;> first | exact wpAny_pure ⟨_, σ1, g1, h1, e1, i1, rfl, z1⟩ | (show wpAny _ _ (allTrue _ [] _) _ _ _; rw [arm_allTrue_nil]; exact wpAny_pure ⟨_, σ1, g1, h1, e1, i1, rfl, z1⟩)
  | @cons e' y' es' ys' hx' ht' hs' hr' =>
   have hj : Option.map _ (zf3 o (y' :: ys')) = some _ := hj
   obtain ⟨q, hq, rfl⟩ := Option.map_eq_some_iff.mp hj
   have ih := ih hq
   rw [arm_allTrue_cons]
   cases o with
   | And =>
    simp only at h
    replace h := zeg h
    refine wpAny_bind (step (ht A env ev outer L Y m mc σ g s (fun b σ' => brn b (evX G S.gc m mc q σ' (fun v σ' => truth v fun b => K b σ') E) (K false σ')) E a I rd ?_) fun b b' σ1 g1 s1 h1 e1 i1 r1 z1 => ?_)
    ·exact (funext fun x => funext fun σ1 => zgk : (fun x σ1 => truth x fun t => brn t (evX G S.gc m mc q σ1 (fun v σ' => truth v fun b => K b σ') E) (truth x fun b => K b σ1)) = _) ▸ h
    ·subst r1
     cases b with
     | false => exact wpAny_pure ⟨_, σ1, g1, h1, e1, i1, rfl, z1⟩
     | true => exact zdq e1 z1 (ih A env ev outer L Y m mc σ1 g1 s1 K E a i1 (rd.mono e1) h1)
   | Or =>
    simp only at h
    replace h := zef h
    refine wpAny_bind (step (ht A env ev outer L Y m mc σ g s (fun b σ' => brn b (K true σ') (evX G S.gc m mc q σ' (fun v σ' => truth v fun b => K b σ') E)) E a I rd ?_) fun b b' σ1 g1 s1 h1 e1 i1 r1 z1 => ?_)
    ·exact (funext fun x => funext fun σ1 => zib : (fun x σ1 => truth x fun t => brn t (truth x fun b => K b σ1) (evX G S.gc m mc q σ1 (fun v σ' => truth v fun b => K b σ') E)) = _) ▸ h
    ·subst r1
     cases b with
     | true => exact wpAny_pure ⟨_, σ1, g1, h1, e1, i1, rfl, z1⟩
     | false => exact zdq e1 z1 (ih A env ev outer L Y m mc σ1 g1 s1 K E a i1 (rd.mono e1) h1)
theorem zgz {t a b : PySem.Expr} {pos : Pos} {xt xa xb : X} (ht : SndT S G nd hd cx t xt) (ha : SndX S G nd hd cx a xa) (hb : SndX S G nd hd cx b xb) : SndX S G nd hd cx (.IfExp t a b pos) (.ite xt xa xb) := by
 intro A env ev outer L Y m mc σ g s K E ac I rd h
 replace h := zed h
 rw [arm_eval_IfExp]
 refine wpAny_bind (step (ht A env ev outer L Y m mc σ g s (fun r σ1 => brn r (evX G S.gc m mc xa σ1 K E) (evX G S.gc m mc xb σ1 K E)) E ac I rd h) fun b b' σ1 g1 s1 h1 e1 i1 r1 z1 => ?_)
 subst r1
 cases b with
 | true => exact zdq e1 z1 (ha A env ev outer L Y m mc σ1 g1 s1 K E ac i1 (rd.mono e1) h1)
 | false => exact zdq e1 z1 (hb A env ev outer L Y m mc σ1 g1 s1 K E ac i1 (rd.mono e1) h1)
theorem zfS {t a b : PySem.Expr} {pos : Pos} {xt xa xb : X} (ht : SndT S G nd hd cx t xt) (ha : SndT S G nd hd cx a xa) (hb : SndT S G nd hd cx b xb) : SndT S G nd hd cx (.IfExp t a b pos) (.ite xt xa xb) := by
 intro A env ev outer L Y m mc σ g s K E ac I rd h
 replace h := zed h
 rw [arm_isTrue_IfExp]
 refine wpAny_bind (step (ht A env ev outer L Y m mc σ g s (fun r σ1 => brn r (evX G S.gc m mc xa σ1 _ E) (evX G S.gc m mc xb σ1 _ E)) E ac I rd h) fun b b' σ1 g1 s1 h1 e1 i1 r1 z1 => ?_)
 subst r1
 cases b with
 | true => exact zdq e1 z1 (ha A env ev outer L Y m mc σ1 g1 s1 K E ac i1 (rd.mono e1) h1)
 | false => exact zdq e1 z1 (hb A env ev outer L Y m mc σ1 g1 s1 K E ac i1 (rd.mono e1) h1)
theorem zgA (ops : OpsOk S) {l r t : PySem.Expr} {co cp : CmpOp} {pos : Pos} {a b d : X} (hm : behindInMarks cp t = false) (ha : SndX S G nd hd cx l a) (hb : SndX S G nd hd cx r b) (hdd : SndX S G nd hd cx t d) :
  SndX S G nd hd cx (.Compare l [co, cp] [r, t] pos) (.ch (zcM co) (zcM cp) a b d) := by
 intro A env ev outer L Y m mc σ g s K E ac I rd h
 replace h := zee h
 rw [arm_eval_Compare]
 refine wpAny_bind (step (ha A env ev outer L Y m mc σ g s _ E ac I rd h) fun v dv σ1 g1 s1 h1 e1 i1 r1 z1 => ?_)
 rw [arm_evalEach_cons, arm_evalEach_cons, arm_evalEach_nil]
 show wpAny S.M A (compareChain pos v [co, cp] [eval r ev, markedBehindIn cp t (eval t ev)]) _ _ _
 rw [markedBehindIn_of_false hm]
 show wpAny _ _ (holding [v] (eval r ev) >>= _) _ _ _
 refine zaS e1 z1 (wpAny_bind (wpAny_holding (step (hb A env ev outer L Y m mc σ1 g1 s1 _ E ac i1 (rd.mono e1) h1) fun w f σ2 g2 s2 h2 e2 i2 r2 z2 => ?_)))
 refine wpAny_bind (wpAny_standAt (wpAny_bind (wpAny_holding ?_)))
 obtain ⟨q, hq, h2⟩ := zae h2
 obtain ⟨dq, hop, eq⟩ := Option.bind_eq_some_iff.mp hq
 obtain rfl := ze2 eq
 cases q with
 | true =>
  refine step (ops.cmp ac.room i2 (r1.mono e2.up) r2 hop) fun c f' σ3 g3 s3 h3 e3 i3 r3 z3 => ?_
  obtain ⟨rfl, rfl⟩ := h3
  obtain rfl := zaV r3
  refine wpAny_bind (wpAny_release ?_)
  refine wpAny_bind (wpAny_holding (wpAny_truthy_bool ?_))
  simp only [if_true]
  show wpAny _ _ (holding [_] (eval t ev) >>= _) _ _ _
  refine zaS (e2.trans e3) (z2.trans z3) (wpAny_bind (wpAny_holding (step (hdd A env ev outer L Y m mc σ3 g3 s3 _ E ac i3 (((rd.mono e1).mono e2).mono e3) h2) fun u f σ4 g4 s4 h4 e4 i4 r4 z4 => ?_)))
  obtain ⟨x, hx, h4⟩ := zbh h4
  refine wpAny_bind (wpAny_standAt (zas (wpAny_mono (ops.cmp ac.room i4 ((r2.mono e3.up).mono e4.up) r4 hx) (fun _ _ q => (q.ok h4).trans (((e1.trans e2).trans e3).trans e4) (((z1.trans z2).trans z3).trans z4)) (fun _ _ q => q))))
 | false =>
  refine step (ops.cmp ac.room i2 (r1.mono e2.up) r2 hop) fun c f' σ3 g3 s3 h3 e3 i3 r3 z3 => ?_
  obtain ⟨rfl, rfl⟩ := h3
  obtain rfl := zaV r3
  refine wpAny_bind (wpAny_release ?_)
  refine wpAny_bind (wpAny_holding (wpAny_truthy_bool ?_))
  simp only [Bool.false_eq_true, if_false]
  exact wpAny_pure ⟨_, σ3, g3, h2, (e1.trans e2).trans e3, i3, r3, (z1.trans z2).trans z3⟩
theorem zkd (hx : SndX S G nd hd cx e x) (he : ∀ ev whole, isTrue e ev whole = (do let v ← whole; standAt e.pos; holding [v] (truthy v))) : SndT S G nd hd cx e x := by
 intro A env ev outer L Y m mc σ g s K E ac I rd h
 rw [he]
 refine wpAny_bind (step (hx A env ev outer L Y m mc σ g s _ E ac I rd h) fun v d σ1 g1 s1 h1 e1 i1 r1 z1 => ?_)
 obtain ⟨b, rfl, h1⟩ := zaN h1
 obtain rfl := zaV r1
 exact wpAny_bind (wpAny_standAt (wpAny_holding (wpAny_truthy_bool ⟨_, σ1, g1, h1, e1, i1, rfl, z1⟩)))
theorem zfT (ops : OpsOk S) {l r t : PySem.Expr} {co cp : CmpOp} {pos : Pos} {a b d : X} (hm : behindInMarks cp t = false) (ha : SndX S G nd hd cx l a) (hb : SndX S G nd hd cx r b) (hdd : SndX S G nd hd cx t d) :
  SndT S G nd hd cx (.Compare l [co, cp] [r, t] pos) (.ch (zcM co) (zcM cp) a b d) := by
 intro A env ev outer L Y m mc σ g s K E ac I rd h
 replace h := zee h
 rw [arm_isTrue_Compare]
 refine wpAny_bind (step (ha A env ev outer L Y m mc σ g s _ E ac I rd h) fun v dv σ1 g1 s1 h1 e1 i1 r1 z1 => ?_)
 rw [arm_evalEach_cons, arm_evalEach_cons, arm_evalEach_nil]
 show wpAny S.M A (testChain pos v [co, cp] [eval r ev, markedBehindIn cp t (eval t ev)]) _ _ _
 rw [markedBehindIn_of_false hm]
 show wpAny _ _ (holding [v] (eval r ev) >>= _) _ _ _
 refine zaS e1 z1 (wpAny_bind (wpAny_holding (step (hb A env ev outer L Y m mc σ1 g1 s1 _ E ac i1 (rd.mono e1) h1) fun w f σ2 g2 s2 h2 e2 i2 r2 z2 => ?_)))
 refine wpAny_bind (wpAny_standAt (wpAny_bind (wpAny_holding ?_)))
 obtain ⟨q, hq, h2⟩ := zae h2
 obtain ⟨dq, hop, eq⟩ := Option.bind_eq_some_iff.mp hq
 obtain rfl := ze2 eq
 cases q with
 | true =>
  refine step (ops.cmp ac.room i2 (r1.mono e2.up) r2 hop) fun c f' σ3 g3 s3 h3 e3 i3 r3 z3 => ?_
  obtain ⟨rfl, rfl⟩ := h3
  obtain rfl := zaV r3
  refine wpAny_bind (wpAny_release ?_)
  refine wpAny_bind (wpAny_holding (wpAny_truthy_bool ?_))
  simp only [if_true]
  show wpAny _ _ (holding [_] (eval t ev) >>= _) _ _ _
  refine zaS (e2.trans e3) (z2.trans z3) (wpAny_bind (wpAny_holding (step (hdd A env ev outer L Y m mc σ3 g3 s3 _ E ac i3 (((rd.mono e1).mono e2).mono e3) h2) fun u f σ4 g4 s4 h4 e4 i4 r4 z4 => ?_)))
  obtain ⟨x, hx, h4⟩ := zbh h4
  obtain ⟨bb, q, h4⟩ := zaN h4
  cases q
  refine wpAny_bind (wpAny_standAt (wpAny_bind (zas (step (ops.cmp ac.room i4 ((r2.mono e3.up).mono e4.up) r4 hx) fun c5 f5 σ5 g5 s5 h5 e5 i5 r5 z5 => ?_))))
  obtain ⟨rfl, rfl⟩ := h5
  obtain rfl := zaV r5
  exact wpAny_holding (wpAny_truthy_bool ⟨bb, σ5, g5, h4, (((e1.trans e2).trans e3).trans e4).trans e5, i5, rfl, (((z1.trans z2).trans z3).trans z4).trans z5⟩)
 | false =>
  refine step (ops.cmp ac.room i2 (r1.mono e2.up) r2 hop) fun c f' σ3 g3 s3 h3 e3 i3 r3 z3 => ?_
  obtain ⟨rfl, rfl⟩ := h3
  obtain rfl := zaV r3
  refine wpAny_bind (wpAny_release ?_)
  refine wpAny_bind (wpAny_holding (wpAny_truthy_bool ?_))
  simp only [Bool.false_eq_true, if_false]
  exact wpAny_pure ⟨_, σ3, g3, h2, (e1.trans e2).trans e3, i3, rfl, (z1.trans z2).trans z3⟩
theorem zke (so : SubOk S) {v i : PySem.Expr} {pos : Pos} {a b : X} (hi : ∀ o j, subscripted i false o j = operate [o, j] (getItem o j)) (ha : SndX S G nd hd cx v a) (hb : SndX S G nd hd cx i b) : SndX S G nd hd cx (.Subscript v i pos) (.sub a b) := by
 intro A env ev outer L Y m mc σ g s K E ac I rd h
 replace h := zhL h
 rw [arm_eval_Subscript]
 refine wpAny_bind (step (ha A env ev outer L Y m mc σ g s _ E ac I rd h) fun o dv σ1 g1 s1 h1 e1 i1 r1 z1 => ?_)
 refine zaS e1 z1 (wpAny_bind (wpAny_holding (step (hb A env ev outer L Y m mc σ1 g1 s1 _ E ac i1 (rd.mono e1) h1) fun w f σ2 g2 s2 h2 e2 i2 r2 z2 => ?_)))
 obtain ⟨z, hz, h2⟩ := zae h2
 refine wpAny_bind (wpAny_standAt (wpAny_bind (wpAny_mono (so.gip ac.room i2 (r1.mono e2.up) (zhq hz)) (fun p s' hp => ?_) fun _ _ q => q)))
 obtain ⟨rfl, rfl⟩ := hp
 rw [hi]
 refine wpAny_bind (zas (step (so.get ac.room i2 (r1.mono e2.up) r2 hz) fun c f' σ3 g3 s3 h3 e3 i3 r3 z3 => ?_))
 obtain ⟨rfl, rfl⟩ := h3
 exact wpAny_bind (wpAny_letTemporaryGo (wpAny_pure ⟨_, _, g3, h2, (e1.trans e2).trans e3, i3, r3, (z1.trans z2).trans z3⟩))
theorem zd4 {S : Sta} {A : Around} {ev : Env} {e : Option PySem.Expr} {i : Option Int} {s : Shared} {Ev : Value -> Shared -> Prop} {Q : Value -> Shared -> Prop} (h : intC e = some i) (hQ : ∀ v tk, IsPart v i -> Q v { s with toks := tk }) : wpAny S.M A (valueOrNone (evalOpt e ev)) Q Ev s := by
 cases e with
 | none => cases h; exact wpAny_pure (hQ _ _ .none)
 | some e =>
  obtain ⟨j, h2, rfl⟩ := Option.map_eq_some_iff.mp h
  obtain ⟨c, h1, h⟩ := Option.bind_eq_some_iff.mp h2
  obtain ⟨_, _, rfl⟩ := zjT h1
  cases c <;> first | (cases h; done) | (cases h; exact fun Γ p hΓ => hQ _ _ (.int _ _))
theorem zgx (so : SubOk S) {v : PySem.Expr} {lo hi : Option PySem.Expr} {xlo xhi : Option Int} {p pos : Pos} {a : X} (hlo : intC lo = some xlo) (hhi : intC hi = some xhi) (ha : SndX S G nd hd cx v a) : SndX S G nd hd cx (.Subscript v (.Slice lo hi none p) pos) (.slice a xlo xhi) := by
 intro A env ev outer L Y m mc σ g s K E ac I rd h
 replace h := zhK h
 rw [arm_eval_Subscript]
 refine wpAny_bind (step (ha A env ev outer L Y m mc σ g s _ E ac I rd h) fun o dv σ1 g1 s1 h1 e1 i1 r1 z1 => ?_)
 obtain ⟨d, hd, h1⟩ := zbh h1
 rw [arm_eval_Slice]
 refine wpAny_bind (wpAny_holding (wpAny_bind (zd4 hlo fun vl tk pl => wpAny_bind (wpAny_holding (zd4 hhi fun vu tk' pu => wpAny_bind (wpAny_holding (wpAny_pure ?_)))))))
 unfold newFields
 refine wpAny_newObj_type ?_ (by show 3 <= _; rw [sizeLine_eq]; omega)
 obtain ⟨I2, E2⟩ := i1.keeps (h' := s1.heap.push { cls := .type "slice", dict := none, data := .fields [vl, vu, Value.none].toArray }) (fun b o q => Heap.get?_push_of_some _ q)
 refine wpAny_bind (wpAny_standAt (wpAny_bind (wpAny_mono (so.gip (σ := σ1) (g := g1) ac.room I2 (r1.mono E2.up) (zea hd)) (fun p s' hp => ?_) fun _ _ q => q)))
 ·obtain ⟨rfl, rfl⟩ := hp
  show wpAny _ _ (operate _ (getItem _ _) >>= _) _ _ _
  refine wpAny_bind (zas (step (so.cut ac.room I2 (r1.mono E2.up) (Heap.IsSliceOf.new _ _ _ _) pl pu hd) fun c f' σ3 g3 s3 h3 e3 i3 r3 z3 => ?_))
  obtain ⟨rfl, rfl⟩ := h3
  exact wpAny_bind (wpAny_letTemporaryGo (wpAny_pure ⟨_, _, g3, h1, (e1.trans E2).trans e3, i3, r3, z1.trans z3⟩))
theorem zkf (so : SubOk S) {v : PySem.Expr} {k : Nat} {p0 p1 p pos : Pos} {a : X} (ha : SndX S G nd hd cx v a) : SndX S G nd hd cx (.Subscript v (.Slice none none (some (.UnaryOp .USub (.Constant (.int 1) k p0) p1)) p) pos) (.rev a) := by
 intro A env ev outer L Y m mc σ g s K E ac I rd h
 replace h := zhJ h
 rw [arm_eval_Subscript]
 refine wpAny_bind (step (ha A env ev outer L Y m mc σ g s _ E ac I rd h) fun o dv σ1 g1 s1 h1 e1 i1 r1 z1 => ?_)
 obtain ⟨d, hd, h1⟩ := zbh h1
 rw [arm_eval_Slice]
 refine wpAny_bind (wpAny_holding (wpAny_bind ?_))
 refine wpAny_pure (wpAny_bind (wpAny_holding (wpAny_pure (wpAny_bind (wpAny_holding ?_)))))
 show wpAny S.M A (eval (.UnaryOp .USub (.Constant (.int 1) k p0) p1) ev) _ _ _
 rw [arm_eval_UnaryOp]
 refine wpAny_bind ?_
 rw [eval_Constant]
 refine wpAny_mkInt (wpAny_bind (wpAny_standAt (wpAny_holding (P.neg_int ?_))))
 unfold newFields
 refine wpAny_newObj_type ?_ (by show 3 <= _; rw [sizeLine_eq]; omega)
 obtain ⟨I2, E2⟩ := i1.keeps (h' := s1.heap.push { cls := .type "slice", dict := none, data := .fields [Value.none, Value.none, Value.int (-1) (s1.toks + 1)].toArray }) (fun b o q => Heap.get?_push_of_some _ q)
 refine wpAny_bind (wpAny_standAt (wpAny_bind (wpAny_mono (so.gip (σ := σ1) (g := g1) ac.room I2 (r1.mono E2.up) (zhs hd)) (fun p s' hp => ?_) fun _ _ q => q)))
 obtain ⟨rfl, rfl⟩ := hp
 show wpAny _ _ (operate _ (getItem _ _) >>= _) _ _ _
 refine wpAny_bind (zas (step (so.rev ac.room I2 (r1.mono E2.up) (Heap.IsSliceOf.new _ _ _ _) hd) fun c f' σ3 g3 s3 h3 e3 i3 r3 z3 => ?_))
 obtain ⟨rfl, rfl⟩ := h3
 exact wpAny_bind (wpAny_letTemporaryGo (wpAny_pure ⟨_, _, g3, h1, (e1.trans E2).trans e3, i3, r3, z1.trans ⟨z3.1, z3.2.1, z3.2.2⟩⟩))
theorem ziq (so : SubOk S) {v e : PySem.Expr} {p pos : Pos} {a b : X} (ha : SndX S G nd hd cx v a) (hb : SndX S G nd hd cx e b) : SndX S G nd hd cx (.Subscript v (.Slice none (some e) none p) pos) (.cutv a b) := by
 intro A env ev outer L Y m mc σ g s K E ac I rd h
 replace h := zhz h
 rw [arm_eval_Subscript]
 refine wpAny_bind (step (ha A env ev outer L Y m mc σ g s _ E ac I rd h) fun o dv σ1 g1 s1 h1 e1 i1 r1 z1 => ?_)
 rw [arm_eval_Slice]
 refine wpAny_bind (wpAny_holding (wpAny_bind ?_))
 refine wpAny_pure (wpAny_bind (wpAny_holding ?_))
 show wpAny S.M A (eval e ev) _ _ _
 refine zaS e1 z1 (step (hb A env ev outer L Y m mc σ1 g1 s1 _ E ac i1 (rd.mono e1) h1) fun u du σ2 g2 s2 h2 e2 i2 r2 z2 => ?_)
 obtain ⟨i, hi, h2⟩ := zae h2
 obtain ⟨d, hd, h2⟩ := zbh h2
 obtain ⟨t, rfl⟩ := zbw (zbz hi ▸ r2)
 refine wpAny_bind (wpAny_holding (wpAny_pure ?_))
 unfold newFields
 refine wpAny_newObj_type ?_ (by show 3 <= _; rw [sizeLine_eq]; omega)
 obtain ⟨I2, E2⟩ := i2.keeps (h' := s2.heap.push { cls := .type "slice", dict := none, data := .fields [Value.none, Value.int i t, Value.none].toArray }) (fun b o q => Heap.get?_push_of_some _ q)
 refine wpAny_bind (wpAny_standAt (wpAny_bind (wpAny_mono (so.gip (σ := σ2) (g := g2) ac.room I2 ((r1.mono e2.up).mono E2.up) (zea hd)) (fun p s' hp => ?_) fun _ _ q => q)))
 obtain ⟨rfl, rfl⟩ := hp
 show wpAny _ _ (operate _ (getItem _ _) >>= _) _ _ _
 refine wpAny_bind (zas (step (so.cut ac.room I2 ((r1.mono e2.up).mono E2.up) (Heap.IsSliceOf.new _ _ _ _) .none (.int _ _) hd) fun c f' σ3 g3 s3 h3 e3 i3 r3 z3 => ?_))
 obtain ⟨rfl, rfl⟩ := h3
 exact wpAny_bind (wpAny_letTemporaryGo (wpAny_pure ⟨_, _, g3, h2, ((e1.trans e2).trans E2).trans e3, i3, r3, (z1.trans z2).trans z3⟩))
theorem zgy (so : SubOk S) {x : Str} {q pos : Pos} {a : X} (ha : SndX S G nd hd cx (.Name x q) a) : SndX S G nd hd cx (.Attribute (.Name x q) (Str.ofString "scope") pos) (.scope a) := by
 intro A env ev outer L Y m mc σ g s K E ac I rd h
 replace h := zhI h
 rw [arm_eval_Attribute]
 refine wpAny_bind (m := eval (.Name x q) ev) (step (ha A env ev outer L Y m mc σ g s _ E ac I rd h) fun o dv σ1 g1 s1 h1 e1 i1 r1 z1 => ?_)
 obtain ⟨sc, hsc, h1⟩ := zae h1
 obtain rfl := zjN hsc
 refine wpAny_bind (wpAny_standAt (wpAny_bind (wpAny_holding (step (so.scope ac.room i1 r1) fun c f' σ3 g3 s3 h3 e3 i3 r3 z3 => ?_))))
 obtain ⟨rfl, rfl⟩ := h3
 exact wpAny_bind (wpAny_letTemporaryGo (wpAny_pure ⟨_, _, g3, h1, e1.trans e3, i3, r3, z1.trans z3⟩))
end
theorem zbi : ∀ {names : Names} {x : Str} {k i : Nat} {kd : NameKind}, zao names x k = some (i, kd) -> k <= i /\ names[i - k]? = some (x, kd)
 | [], x, k, i, kd, h => by cases h
 | (a, c) :: r, x, k, i, kd, h => by
  unfold zao at h
  split at h
  ·rename_i e; cases h; subst e; exact ⟨Nat.le_refl _, by simp⟩
  ·obtain ⟨h1, h2⟩ := zbi h
   exact ⟨Nat.le_of_succ_le h1, by rw [← Nat.sub_add_cancel (Nat.sub_pos_of_lt h1)]; exact h2⟩
theorem zad : ∀ {names : Names} {x : Str} {k i : Nat} {kd : NameKind}, zao names x k = some (i, kd) -> names.lookup x = some kd
 | [], x, k, i, kd, h => by cases h
 | (a, c) :: r, x, k, i, kd, h => by
  unfold zao at h
  split at h
  ·rename_i e; cases h; subst e; simp [List.lookup]
  ·rename_i e
   have : (x == a) = false := by simp; exact fun q => e q.symm
   simp only [List.lookup, this]
   exact zad h
theorem zaI {names : Names} {x y : Str} {i : Nat} {k l : NameKind} (h : zao names x 0 = some (i, k)) (q : zao names y 0 = some (i, l)) : x = y := by
 have a := (zbi h).2; have b := (zbi q).2
 rw [a] at b; cases b; rfl
theorem zaE {α : Type} : ∀ {l : List α} {i : Nat} {x : α}, i < l.length -> (zaw l i x)[i]? = some x
 | [], i, x, h => by cases h
 | _ :: r, 0, x, _ => rfl
 | _ :: r, i + 1, x, h => by show (zaw r i x)[i]? = _; exact zaE (Nat.lt_of_succ_lt_succ h)
theorem zaG {α : Type} : ∀ {l : List α} {i j : Nat} {x : α}, i ≠ j -> (zaw l i x)[j]? = l[j]?
 | [], i, j, x, h => rfl
 | _ :: r, 0, j, x, h => by cases j with
  | zero => exact absurd rfl h
  | succ j => rfl
 | _ :: r, i + 1, j, x, h => by cases j with
  | zero => rfl
  | succ j => show (zaw r i x)[j]? = r[j]?; exact zaG fun q => h (by rw [q])
theorem zaP {α : Type} : ∀ {l : List α} {i : Nat} {x : α}, (zaw l i x).length = l.length
 | [], i, x => rfl
 | _ :: r, 0, x => rfl
 | _ :: r, i + 1, x => congrArg (· + 1) (zaP (l := r))
theorem zcW {α : Type} : ∀ {l : List α} {i j : Nat} {x y : α}, i ≠ j -> zaw (zaw l i x) j y = zaw (zaw l j y) i x
 | [], i, j, x, y, h => by cases i <;> cases j <;> rfl
 | _ :: r, 0, j, x, y, h => by cases j with
  | zero => exact absurd rfl h
  | succ j => rfl
 | _ :: r, i + 1, j, x, y, h => by cases j with
  | zero => rfl
  | succ j => exact congrArg (_ :: ·) (zcW (l := r) fun q => h (by rw [q]))
structure VarsOk (S : Sta) (Y : Addr -> Prop) (h : Heap) (g : Gh) (env : Env) (names : Names) (m : Fm) : Prop where
 len : m.length = names.length
 nm : env.scope.names = names
 kL : g.κ env.locals = .fr
 yL : Y env.locals
 yH : ∀ a, Y a -> ∃ o, h.get? a = some o /\ (g.κ a = .fr \/ g.κ a = .cl)
 loc : ∃ mp, h.Ns env.locals mp /\ ∀ x i l, zao names x 0 = some (i, .local) -> m[i]? = some (some l) -> ∃ v, mp x = some v /\ LR S Y h g v l
 cel : ∀ x i, zao names x 0 = some (i, .cell) -> ∃ c, env.cells.lookup x = some c /\ Y c /\ c ≠ env.locals /\ g.κ c = .cl /\ ∃ ov, h.IsCell c ov /\ ∀ l, m[i]? = some (some l) -> ∃ v, ov = some v /\ LR S Y h g v l
 inj : ∀ x y c, env.cells.lookup x = some c -> env.cells.lookup y = some c -> x = y
theorem VarsOk.mono {S : Sta} {Y : Addr -> Prop} {h h' : Heap} {g g' : Gh} {env : Env} {names : Names} {m : Fm} (E : Ext No g g' h h') (v : VarsOk S Y h g env names m) : VarsOk S Y h' g' env names m := by
 obtain ⟨mp, ns, r⟩ := v.loc
 have ns' := ns
 obtain ⟨o, es, ep, ho, q⟩ := ns'
 refine ⟨v.len, v.nm, (E.kind _ o ho).trans v.kL, v.yL, fun a ya => let ⟨o, e, k⟩ := v.yH a ya; let ⟨o', e'⟩ := E.still a o e; ⟨o', e', by rw [E.kind _ _ e]; exact k⟩, ⟨mp, ziP (fun o e => E.frs _ o e id v.kL) ns, fun x i l e1 e2 => let ⟨u, a, b⟩ := r x i l e1 e2; ⟨u, a, b.mono E.no⟩⟩, fun x i e => ?_, v.inj⟩
 obtain ⟨c, c1, c2, c3, c4, ov, ⟨oc, c5, c6⟩, c7⟩ := v.cel x i e
 refine ⟨c, c1, c2, c3, (E.kind _ oc c5).trans c4, ov, ⟨oc, E.keep _ oc c5 id (by rw [c4]; decide) (by rw [c4]; decide) (by rw [c4]; decide) (by rw [c4]; decide), c6⟩, fun l hl => ?_⟩
 obtain ⟨u, a, b⟩ := c7 l hl
 exact ⟨u, a, b.mono E.no⟩
theorem zbK {h h' base : Heap} : ∀ {l : List Env}, (∀ L ∈ l.filterMap (·.frame), ∀ o, h.get? L = some o -> (∀ vs, o.data ≠ .fields vs) -> ∃ o', h'.get? L = some o' /\ ∀ vs, o'.data ≠ .fields vs) -> h.FunFrames base l -> h'.FunFrames base l
 | [], _, _ => trivial
 | env :: r, k, ⟨a, ⟨L, o, e1, e2, e3, e4⟩, z⟩ => by
  obtain ⟨o', e, e'⟩ := k L (by simp [e1]) o e3 e4
  refine ⟨a, ⟨L, _, e1, e2, e, e'⟩, zbK (fun L' m => k L' ?_) z⟩
  rw [List.filterMap_cons, e1]; exact List.mem_cons_of_mem _ m
theorem Inv.own {S : Sta} {fr : List Env} {g : Gh} {σ : Hp} {h h' : Heap} {Y : Addr -> Prop} (I : Inv S fr g σ h) {a : Addr} (ya : Y a) (ka : g.κ a = .fr \/ g.κ a = .cl) (hs : Heap.SameBut a h h') (ha : ∃ o, h'.get? a = some o /\ ∀ vs, o.data ≠ .fields vs) :
  Inv S fr g σ h' /\ Ext Y g g h h' := by
 have kp : ∀ b o, g.κ b ≠ .fr -> g.κ b ≠ .cl -> h.get? b = some o -> h'.get? b = some o := fun b o k1 k2 e => (hs.2 b fun q => by subst q; exact ka.elim k1 k2).trans e
 have ky : ∀ b o, ¬ Y b -> h.get? b = some o -> h'.get? b = some o := fun b o k e => (hs.2 b fun q => k (q ▸ ya)).trans e
 have E : Ext Y g g h h' := ⟨fun _ _ _ => rfl, Nat.le_refl _, fun _ _ => rfl, fun b o q e => ⟨q, kp b o (by rw [q]; decide) (by rw [q]; decide) e⟩, fun b o e z _ _ _ _ => ky b o z e, fun b o e z _ => ⟨o.slots, ky b o z e⟩, fun b o vs e z _ q => ⟨vs, q ▸ ky b o z e⟩, fun b o e => by
  by_cases z : b = a
  ·obtain rfl := z.symm; obtain ⟨o', q, _⟩ := ha; exact ⟨o', q⟩
  ·exact ⟨o, (hs.2 b z).trans e⟩⟩
 refine ⟨⟨fun b o e => (E.fz b o (I.bfz b o e) (I.stays b o e)).2, I.bfz, fun b e => I.ot b (by
  cases z : h.get? b with
  | none => rfl
  | some o => obtain ⟨o', y⟩ := E.still b o z; rw [y] at e; cases e), I.num, fun i o e => (I.mu i o e).mono_at E.up fun ob q => kp _ _ (by rw [I.km i (I.lt e)]; decide) (by rw [I.km i (I.lt e)]; decide) q, I.km, I.inj, ⟨zbK (fun L m o e nf => ?_) I.fr.1, I.fr.2⟩, I.tb.mono E.fz I.tb.k fun o q => kp _ o (by rw [I.tb.k]; decide) (by rw [I.tb.k]; decide) q⟩, E⟩
 by_cases z : L = a
 ·subst z; exact ha
 ·exact ⟨o, (hs.2 L z).trans e, nf⟩
theorem ziQ {h : Heap} {a : Addr} {m : Str -> Option Value} (n : h.Ns a m) : ∃ o, h.get? a = some o /\ ∀ vs, o.data ≠ .fields vs := by
 obtain ⟨o, es, ep, ho, hd, _⟩ := n
 exact ⟨o, ho, fun vs q => by rw [hd] at q; cases q⟩
theorem zla {h : Heap} {a : Addr} {v : Option Value} (n : h.IsCell a v) : ∃ o, h.get? a = some o /\ ∀ vs, o.data ≠ .fields vs := by
 obtain ⟨o, ho, hd⟩ := n
 exact ⟨o, ho, fun vs q => by rw [hd] at q; cases q⟩
theorem store {S : Sta} {M : Model} {A : Around} {Ev : Value -> Shared -> Prop} {Y : Addr -> Prop} {env : Env} {outer : List Env} {names : Names} {m : Fm} {g : Gh} {σ : Hp} {s : Shared} {x : Str} {i : Nat} {k : NameKind} {v : Value} {l : Loc} {Q : Unit -> Shared -> Prop}
  (kf : env.scope.kind = .function) (V : VarsOk S Y s.heap g env names m) (I : Inv S (env :: outer) g σ s.heap) (hi : zao names x 0 = some (i, k)) (hk : k = .local \/ k = .cell) (r : LR S Y s.heap g v l)
  (hQ : ∀ h' tk, Inv S (env :: outer) g σ h' -> Ext Y g g s.heap h' -> VarsOk S Y h' g env names (zaw m i (some l)) -> (∀ C, g.κ C = .ot -> h'.get? C = s.heap.get? C) -> Q () { s with heap := h', toks := tk }) : wpAny M A (storeName env x v) Q Ev s := by
 have hkind : env.kindOf x = some k := by unfold Env.kindOf; rw [V.nm]; exact zad hi
 have ilt : i < m.length := by
  rw [V.len]; exact (List.getElem?_eq_some_iff.mp (by simpa using (zbi hi).2)).1
 obtain ⟨mp, ns, lr⟩ := V.loc
 rcases hk with rfl | rfl
 ·refine wpAny_storeName_local hkind ns (fun h' ns' sb => ?_) (by rw [kf]; rfl)
  obtain ⟨I', E'⟩ := I.own V.yL (.inl V.kL) sb (ziQ ns')
  refine hQ h' _ I' E' ⟨by rw [zaP]; exact V.len, V.nm, V.kL, V.yL, fun a ya => let ⟨o, e, k⟩ := V.yH a ya; let ⟨o', e'⟩ := E'.still a o e; ⟨o', e', k⟩, ⟨_, ns', fun y j l' e1 e2 => ?_⟩, fun y j e => ?_, V.inj⟩ fun C kC => sb.2 C fun q => by rw [q, V.kL] at kC; cases kC
  ·by_cases z : y = x
   ·obtain rfl := z.symm
    rw [hi] at e1; cases e1
    rw [zaE ilt] at e2; cases e2
    exact ⟨v, if_pos rfl, r.mono E'⟩
   ·have ne : i ≠ j := fun q => z (zaI e1 (q ▸ hi))
    rw [zaG ne] at e2
    obtain ⟨u, a, b⟩ := lr y j l' e1 e2
    exact ⟨u, (if_neg z).trans a, b.mono E'⟩
  ·obtain ⟨c, c1, c2, c3, c4, ov, c5, c7⟩ := V.cel y j e
   refine ⟨c, c1, c2, c3, c4, ov, ?_, fun l' hl => ?_⟩
   ·obtain ⟨oc, a, b⟩ := c5; exact ⟨oc, (sb.2 c c3).trans a, b⟩
   ·have ne : i ≠ j := fun q => by subst q; have := zaI e hi; subst this; rw [hi] at e; cases e
    rw [zaG ne] at hl
    obtain ⟨u, a, b⟩ := c7 l' hl
    exact ⟨u, a, b.mono E'⟩
 ·obtain ⟨c, c1, c2, c3, c4, ov, c5, c7⟩ := V.cel x i hi
  refine wpAny_storeName_cell kf hkind c1 c5 fun h' ic sb => ?_
  obtain ⟨I', E'⟩ := I.own c2 (.inr c4) sb (zla ic)
  refine hQ h' s.toks I' E' ⟨by rw [zaP]; exact V.len, V.nm, V.kL, V.yL, fun a ya => let ⟨o, e, k⟩ := V.yH a ya; let ⟨o', e'⟩ := E'.still a o e; ⟨o', e', k⟩, ⟨mp, ?_, fun y j l' e1 e2 => ?_⟩, fun y j e => ?_, V.inj⟩ fun C kC => sb.2 C fun q => by rw [q, c4] at kC; cases kC
  ·obtain ⟨o, es, ep, a, b⟩ := ns; exact ⟨o, es, ep, (sb.2 _ (Ne.symm c3)).trans a, b⟩
  ·have ne : i ≠ j := fun q => by subst q; have := zaI e1 hi; subst this; rw [hi] at e1; cases e1
   rw [zaG ne] at e2
   obtain ⟨u, a, b⟩ := lr y j l' e1 e2
   exact ⟨u, a, b.mono E'⟩
  ·by_cases z : y = x
   ·obtain rfl := z.symm
    rw [hi] at e; cases e
    refine ⟨c, c1, c2, c3, c4, _, ic, fun l' hl => ?_⟩
    rw [zaE ilt] at hl; cases hl
    exact ⟨v, rfl, r.mono E'⟩
   ·obtain ⟨d, d1, d2, d3, d4, ow, d5, d7⟩ := V.cel y j e
    have ne : i ≠ j := fun q => z (zaI e (q ▸ hi))
    have cd : d ≠ c := fun q => z (V.inj y x c (q ▸ d1) c1)
    refine ⟨d, d1, d2, d3, d4, ow, ?_, fun l' hl => ?_⟩
    ·obtain ⟨oc, a, b⟩ := d5; exact ⟨oc, (sb.2 d cd).trans a, b⟩
    ·rw [zaG ne] at hl
     obtain ⟨u, a, b⟩ := d7 l' hl
     exact ⟨u, a, b.mono E'⟩
theorem VarsOk.rd {S : Sta} {Y : Addr -> Prop} {h : Heap} {g : Gh} {env : Env} {names : Names} {m mc : Fm} (V : VarsOk S Y h g env names m) {lam : Bool} (nofree : ∀ x i, zao names x 0 ≠ some (i, .free)) : Rd S (S.at names none lam) env Y h g m mc := by
 have kind : ∀ {x i k}, zao names x 0 = some (i, k) -> env.kindOf x = some k := fun e => by unfold Env.kindOf; rw [V.nm]; exact zad e
 refine ⟨fun x i hn l hl => ?_, fun x i hn => ?_, fun _ x i e => ?_⟩
 ·obtain ⟨j, k, e, q⟩ := zg4 rfl hn
  cases k with
  | «local» =>
   cases q
   obtain ⟨mp, ns, lr⟩ := V.loc
   obtain ⟨v, a, b⟩ := lr x i l e hl
   exact ⟨v, .inl ⟨kind e, .inl V.kL, mp, ns, a⟩, b⟩
  | cell =>
   cases q
   obtain ⟨c, c1, c2, c3, c4, ov, c5, c7⟩ := V.cel x i e
   obtain ⟨v, rfl, b⟩ := c7 l hl
   exact ⟨v, .inr ⟨c, .inl (kind e), c1, c4, c5⟩, b⟩
  | free => exact absurd e (nofree x j)
  | _ => cases q
 ·obtain ⟨j, k, e, q⟩ := zg4 rfl hn
  cases k <;> cases q
 ·obtain ⟨c, c1, c2, c3, c4, ov, ⟨o, c5, _⟩, c7⟩ := V.cel x i e
  exact ⟨kind e, c, o, c1, c4, c5⟩
end Mine.Lake
namespace Mine.Lake
open PySem PySem.W PyProof.Rows PySem.Calls PySem.SeqAt
section
variable {prog : Program} {w : World} {A : Around} {E : Value -> Shared -> Prop} {s : Shared} {Q : Value -> Shared -> Prop}
theorem zn9 {a : Bool} {b : Int} {u : Tok} (h : Q (.bool (decide ((if a = true then (1 : Int) else 0) < b))) s) : wpAny (model prog w) A (compareOp .Lt (.bool a) (.int b u)) Q E s :=
 rc_left_or (op := .Lt) rfl (typeIs_int s b u) (by decide) PySem.F.sub_int_bool PySem.F.slot_bool_lt
  (call_gives PySem.F.slot_bool_lt rfl PySem.F.entry_int_lt (PySem.F.args_int_lt_2 _ _) (.of_eq rfl : Gives (Builtin.«int.__lt__» ⟨[.bool a, .int b u], []⟩) (.val (.bool (decide ((if a = true then (1 : Int) else 0) < b))))) ⟨nofun, h⟩) (.inl rfl)
theorem zn8 {a : Int} {t : Tok} {b : Bool} (h : Q (.bool (decide (a < if b = true then (1 : Int) else 0))) s) : wpAny (model prog w) A (compareOp .Lt (.int a t) (.bool b)) Q E s :=
 rc_sub_first_or (op := .Lt) (typeIs_int s a t) rfl (by decide) PySem.F.sub_bool_int PySem.F.slot_bool_gt
  (call_gives PySem.F.slot_bool_gt rfl PySem.F.entry_int_gt (PySem.F.args_int_gt_2 _ _) (.of_eq rfl : Gives (Builtin.«int.__gt__» ⟨[.bool b, .int a t], []⟩) (.val (.bool (decide ((if b = true then (1 : Int) else 0) > a))))) ⟨nofun, h⟩) (.inl rfl)
end
section
variable {S : Sta} {fr : List Env} {g : Gh} {σ : Hp} {h : Heap}
theorem VEs.pes {es : List DictEntry} {kvs : List (Str × V)} (r : VEs S h g es kvs) : ∀ {ds : List (PyData × PyData)}, kvPd kvs = some ds -> PEs S.w.params h g.κ es ds := by
 induction r with
 | nil => intro ds e; cases e; exact .nil
 | cons a b c d r ih => exact fun e => bd_e e fun p h1 e => zbH e fun q h2 e => e ▸ .cons a b (zbu (zbv h1 ▸ c)) d (ih h2)
theorem zcY {i : Nat} {d : PyData} {P : Prop} (e : rd σ (.ref i) = some d) (kl : ∀ l, σ[i]? = some (.list l) -> d = .list l -> P) (kd : ∀ l ds, σ[i]? = some (.dict l) -> kvPd l = some ds -> d = .dict ds -> P) : P :=
 bd_e e fun o h1 e => by
  cases o with
  | list l => cases e; exact kl l h1 rfl
  | dict l => exact zbH e fun ds h2 e => kd l ds h1 h2 e.symm
theorem VR.rdK {v : Value} {x : V} {d : PyData} {P : Prop} (r : VR S h g v x) (e : rd σ x = some d) (kp : VR S h g v (.pd d) -> P) (kr : ∀ i, VR S h g v (.ref i) -> rd σ (.ref i) = some d -> P) : P := by
 cases x with
 | pd d' => cases e; exact kp r
 | ref i => exact kr i r e
 | _ => cases e
theorem MO.asList {a : Addr} {l : List PyData} (r : MO S h g a (.list l)) : ∃ (vs : List Value) (n : Nat), h.get? a = some ⟨.type "list", none, .seq vs.toArray n, #[]⟩ /\ PVs S.w.params h g.κ vs l := by
 cases r with
 | list e r => exact ⟨_, _, e, r⟩
theorem MO.asDict {a : Addr} {l : List (Str × V)} (r : MO S h g a (.dict l)) : ∃ (es : List DictEntry) (n : Nat), h.get? a = some ⟨.type "dict", none, .dict es.toArray n, #[]⟩ /\ VEs S h g es l := by
 cases r with
 | dict e r => exact ⟨_, _, e, r⟩
theorem zdG {v : Value} {i : Nat} (r : VR S h g v (.ref i)) : v = .ref (g.μ i) /\ i < g.n := by
 cases r with
 | ref hi => exact ⟨rfl, hi⟩
theorem VR.readsN (sm : ∃ o, S.B.get? sysModules = some o) (I : Inv S fr g σ h) {v : Value} {x : V} {d : PyData} (r : VR S h g v x) (e : rd σ x = some d) : ∃ as, Reads h v d as /\ sysModules ∉ as := by
 refine r.rdK e (fun r => PV.reads (zbu r)) fun i r e => ?_
 obtain ⟨rfl, hi⟩ := zdG r
 have ne : g.μ i ≠ sysModules := fun q => by
  obtain ⟨o, y⟩ := sm
  have k1 := I.bfz _ o y
  have k2 := I.km i hi
  rw [q, k1] at k2; cases k2
 refine zcY e (fun l z q => ?_) fun l ds z hk q => ?_
 ·subst q
  obtain ⟨vs, n, e1, r1⟩ := (I.mu i _ z).asList
  obtain ⟨as, q, n⟩ := PVs.reads r1
  exact ⟨_, .list e1 rfl rfl q, fun hm => (List.mem_cons.mp hm).elim (fun w => ne w.symm) n⟩
 ·subst q
  obtain ⟨es, n, e1, r1⟩ := (I.mu i _ z).asDict
  obtain ⟨as, bs, q1, q2, n1, n2⟩ := PEs.reads (VEs.pes r1 hk)
  exact ⟨_, .dict e1 rfl rfl q1 q2, fun hm => (List.mem_append.mp hm).elim (fun hm => (List.mem_cons.mp hm).elim (fun w => ne w.symm) n1) n2⟩
theorem VR.reads (ok : StaOk S) (I : Inv S fr g σ h) {v : Value} {x : V} {d : PyData} (r : VR S h g v x) (e : rd σ x = some d) : ∃ as, Reads h v d as := (r.readsN ok.sm I e).imp fun _ q => q.1
@[elab_as_elim] theorem VR.flat {P : Value -> Prop} {v : Value} {x : V} {d : PyData} (r : VR S h g v x) (e : rd σ x = some d) (hl : za7 d = none) (hd : zhR d = none) (k : ∀ v, VR S h g v (.pd d) -> PV S.w.params h g.κ v d -> P v) : P v := by
 exact r.rdK e (fun r => k v r (zbu r)) fun i r e => zcY e (fun l _ q => by rw [q] at hl; cases hl) fun l ds _ _ q => by rw [q] at hd; cases hd
@[elab_as_elim] theorem VR.strK {P : Value -> Prop} {v : Value} {x : V} {d : PyData} {u : Str} (r : VR S h g v x) (e : rd σ x = some d) (q : strP d = some u) (k : ∀ t, P (.str u t)) : P v := by
 obtain rfl := zdJ q
 refine r.flat e rfl rfl fun v _ p => ?_
 cases p; exact k _
@[elab_as_elim] theorem VR.intK {P : Value -> Prop} {v : Value} {x : V} {d : PyData} {i : Int} (r : VR S h g v x) (e : rd σ x = some d) (q : intP d = some i) (k : ∀ t, P (.int i t)) : P v := by
 obtain rfl := zc4 q
 refine r.flat e rfl rfl fun v _ p => ?_
 cases p; exact k _
@[elab_as_elim] theorem VR.numK {P : Value -> Int -> Prop} {v : Value} {x : V} {d : PyData} {i : Int} (r : VR S h g v x) (e : rd σ x = some d) (q : zga d = some i) (k : ∀ i t, P (.int i t) i) (kb : ∀ b, P (.bool b) (if b = true then 1 else 0)) : P v i := by
 cases d with
 | int j =>
  cases q
  refine r.flat (P := fun v => P v i) e rfl rfl fun v _ p => ?_
  cases p; exact k _ _
 | bool b =>
  cases q
  refine r.flat (P := fun v => P v _) e rfl rfl fun v _ p => ?_
  cases p; exact kb _
 | _ => cases q
@[elab_as_elim] theorem VR.listK {P : Value -> Prop} (I : Inv S fr g σ h) {v : Value} {x : V} {d : PyData} {l : List PyData} (r : VR S h g v x) (e : rd σ x = some d) (q : za7 d = some l) (k : ∀ a vs, h.IsList a vs -> PVs S.w.params h g.κ vs.toList l -> vs.size = l.length -> P (.ref a)) : P v := by
 obtain rfl := zbf q
 refine r.rdK e (fun r => ?_) fun i r e => zcY e (fun l' z w => ?_) fun l ds _ _ w => by cases w
 ·cases zbu r with
  | list k1 e1 c d z q => exact k _ _ ⟨_, e1, c, _, d⟩ q (by simpa using q.length)
 ·cases w
  obtain ⟨rfl, hi⟩ := zdG r
  obtain ⟨vs, n, e1, r1⟩ := (I.mu i _ z).asList
  exact k _ _ ⟨_, e1, rfl, _, rfl⟩ r1 r1.length
@[elab_as_elim] theorem VR.tupK {P : Value -> Prop} {v : Value} {x : V} {d : PyData} {l : List PyData} (r : VR S h g v x) (e : rd σ x = some d) (q : tupP d = some l) (k : ∀ a vs, IsTup h a vs -> VR S h g (.ref a) (.pd (.tuple l)) -> PVs S.w.params h g.κ vs.toList l -> vs.size = l.length -> P (.ref a)) : P v := by
 obtain rfl := zcn q
 refine r.flat e rfl rfl fun v r p => ?_
 cases p with
 | tuple k1 e1 c d q => exact k _ _ ⟨_, e1, c, _, d⟩ r q (by simpa using q.length)
theorem VR.isList (I : Inv S fr g σ h) {v : Value} {x : V} {l : List PyData} (r : VR S h g v x) (e : rd σ x = some (.list l)) : ∃ a vs, v = .ref a /\ h.IsList a vs /\ PVs S.w.params h g.κ vs.toList l := r.listK (P := fun v => ∃ a vs, v = .ref a /\ h.IsList a vs /\ PVs S.w.params h g.κ vs.toList l) I e rfl fun a vs h1 h2 _ => ⟨a, vs, rfl, h1, h2⟩
theorem VR.isTup {v : Value} {x : V} {l : List PyData} (r : VR S h g v x) (e : rd σ x = some (.tuple l)) : ∃ a vs, v = .ref a /\ IsTup h a vs /\ PVs S.w.params h g.κ vs.toList l := r.tupK (P := fun v => ∃ a vs, v = .ref a /\ IsTup h a vs /\ PVs S.w.params h g.κ vs.toList l) e rfl fun a vs h1 _ h2 _ => ⟨a, vs, rfl, h1, h2⟩
noncomputable def getE (es : List DictEntry) (k : Str) : Option Value := (es.find? fun e => Value.isStrOf k e.key).map (·.val)
theorem zgg {es : List DictEntry} {kvs : List (Str × V)} (r : VEs S h g es kvs) (k : Str) : (∃ v x, getE es k = some v /\ zbY k kvs = some x /\ VR S h g v x) \/ (getE es k = none /\ zbY k kvs = none) := by
 induction r with
 | nil => exact .inr ⟨rfl, rfl⟩
 | @cons e es k' t x kvs a b c d r ih =>
  have hk : Value.isStrOf k e.key = sb k' k := by
   rw [a]; show (k' == k) = _; exact (str_beq k' k).symm
  unfold getE at ih ⊢
  rw [List.find?_cons, hk]
  simp only [zbY]
  cases q : sb k' k with
  | true => exact .inl ⟨e.val, x, rfl, rfl, c⟩
  | false => exact ih
theorem zky {es : List DictEntry} {kvs : List (PyData × PyData)} (r : PEs S.w.params h g.κ es kvs) : ∃ kv, VEs S h g es kv /\ (∀ k, zbY k kv = (zdk k kvs).map .pd) /\ kv.length = kvs.length /\ kvPd kv = some kvs := by
 induction kvs generalizing es with
 | nil => cases r; exact ⟨[], .nil, fun _ => rfl, rfl, rfl⟩
 | cons p r' ih =>
  cases r with
  | @cons e es k t d kvs a b c f r =>
   obtain ⟨kv, h1, h2, h3, h4⟩ := ih r
   refine ⟨(k, .pd d) :: kv, .cons a b (.pd c) f h1, fun y => ?_, congrArg (· + 1) h3, congrArg (Option.map ((PyData.str k, d) :: ·)) h4⟩
   show (match sb k y with | true => some (V.pd d) | false => zbY y kv) = Option.map V.pd (match sb k y with | true => some d | false => zdk y r')
   cases sb k y with
   | true => rfl
   | false => exact h2 y
theorem ze8 {es : List DictEntry} {kvs : List (Str × V)} (r : VEs S h g es kvs) : ∀ e ∈ es, ∃ k, Value.isStrOf k e.key = true /\ e.hash = hashStr S.w k := by
 induction r with
 | nil => exact fun _ he => (List.not_mem_nil he).elim
 | cons a b c d r ih => exact List.forall_mem_cons.mpr ⟨⟨_, by rw [a]; exact beq_self_eq_true _, b⟩, ih⟩
noncomputable abbrev zcf (S : Sta) : PySem.KeyKind S.prog S.w Str := PySem.strKind S.prog S.w
theorem zda {a : Addr} {es : List DictEntry} {n : Nat} {kvs : List (Str × V)} (e : h.get? a = some ⟨.type "dict", none, .dict es.toArray n, #[]⟩) (r : VEs S h g es kvs) : h.MapOf (zcf S) a (getE es) := by
 refine ⟨_, _, _, e, ⟨rfl, rfl, rfl⟩, rfl, fun e he => ?_, fun k => ?_⟩
 ·exact ze8 r e (by simpa using he)
 ·unfold findBy getE
  rw [List.find?_toArray]; rfl
theorem VR.refDict (ok : StaOk S) (I : Inv S fr g σ h) {v : Value} {i : Nat} {l : List (Str × V)} (r : VR S h g v (.ref i)) (e : σ[i]? = some (.dict l)) :
  ∃ a es n, v = .ref a /\ a = g.μ i /\ i < g.n /\ h.get? a = some ⟨.type "dict", none, .dict es.toArray n, #[]⟩ /\ VEs S h g es l /\ (a == sysModules) = false := by
 obtain ⟨rfl, hi⟩ := zdG r
 have hm := I.km i hi
 obtain ⟨es, n, e1, r1⟩ := (I.mu i _ e).asDict
 refine ⟨_, _, _, rfl, rfl, hi, e1, r1, ?_⟩
 obtain ⟨o, y⟩ := ok.sm
 have := I.bfz _ o y
 by_cases q : g.μ i = sysModules
 ·rw [q, this] at hm; cases hm
 ·simpa using q
theorem zkQ {k : Str} {l : List (Str × V)} : ∀ {ds : List (PyData × PyData)}, kvPd l = some ds -> (zbY k l).isSome = (zdk k ds).isSome := by
 induction l with
 | nil => intro ds e; cases e; rfl
 | cons p r ih =>
  exact fun e => bd_e e fun d h1 e => zbH e fun q h2 e => by
   subst e
   show (match sb p.1 k with | true => some p.2 | false => zbY k r).isSome = (match sb p.1 k with | true => some d | false => zdk k q).isSome
   cases sb p.1 k with
   | true => rfl
   | false => exact ih h2
theorem VR.pdDict {v : Value} {d : List (PyData × PyData)} (r : VR S h g v (.pd (.dict d))) :
  ∃ a es n kv, v = .ref a /\ g.κ a = .fz /\ h.get? a = some ⟨.type "dict", none, .dict es.toArray n, #[]⟩ /\ VEs S h g es kv /\ (a == sysModules) = false /\ (∀ k, zbY k kv = (zdk k d).map .pd) /\ kv.length = d.length /\ kvPd kv = some d := by
 cases zbu r with
 | dict k e n r =>
  obtain ⟨kv, h1, h2, h3, h4⟩ := zky r
  exact ⟨_, _, _, kv, rfl, k, by simpa using e, h1, by simpa using n, h2, h3, h4⟩
end
section
variable {S : Sta} {fr : List Env} {A : Around} {g : Gh} {σ : Hp} {s : Shared} {d : V} {Ev : Value -> Shared -> Prop}
theorem zb1 (I : Inv S fr g σ s.heap) {v : Value} {k : Nat} (r : VR S s.heap g v d) : Is S fr g σ s d v { s with toks := k } :=
 ⟨d, σ, g, ⟨rfl, rfl⟩, .refl _ _ _, I, r, ⟨rfl, rfl, rfl⟩⟩
theorem zbC (I : Inv S fr g σ s.heap) {v : Value} (r : VR S s.heap g v d) : Is S fr g σ s d v s := ⟨d, σ, g, ⟨rfl, rfl⟩, .refl _ _ _, I, r, ⟨rfl, rfl, rfl⟩⟩
theorem zcB (I : Inv S fr g σ s.heap) {i : Int} {t : Tok} {k : Nat} : Is S fr g σ s (.pd (.int i)) (.int i t) { s with toks := k } := zb1 I (.pd (.int _ _))
theorem zcA (I : Inv S fr g σ s.heap) {x : Str} {t : Tok} {k : Nat} : Is S fr g σ s (.pd (.str x)) (.str x t) { s with toks := k } := zb1 I (.pd (.str _ _))
theorem zaq (I : Inv S fr g σ s.heap) {b : Bool} : Is S fr g σ s (.pd (.bool b)) (.bool b) s := zbC I (.pd (.bool _))
theorem zdm (I : Inv S fr g σ s.heap) {b : Bool} {k : Nat} : Is S fr g σ s (.pd (.bool b)) (.bool b) { s with toks := k } := zb1 I (.pd (.bool _))
theorem zhe (I : Inv S fr g σ s.heap) {vs : Array Value} {l : List PyData} {k : Nat} (r : PVs S.w.params s.heap g.κ vs.toList l) :
  Is S fr g σ s (.pd (.tuple l)) (.ref s.heap.objs.size) { s with heap := s.heap.push { cls := .type "tuple", data := .seq vs }, toks := k } := by
 have hn : s.heap.get? s.heap.objs.size = none := Heap.get?_none_of_le (Nat.le_refl _)
 obtain ⟨I2, E2⟩ := I.new (k := .fz) (fun b o q => Heap.get?_push_of_some _ q) hn (Heap.get?_push_size s.heap (o := { cls := .type "tuple", data := .seq vs }) rfl)
 exact ⟨_, σ, _, ⟨rfl, rfl⟩, E2, I2, .pd (.tuple (if_pos rfl) (Heap.get?_push_size _ rfl) rfl rfl (r.mono E2.up.fz)), ⟨rfl, rfl, rfl⟩⟩
theorem zeM (ok : StaOk S) (I : Inv S fr g σ s.heap) : s.heap.objs.size ≠ sysModules := fun q => by
 obtain ⟨o, e⟩ := ok.sm
 have := Heap.lt_size (I.stays _ _ e)
 rw [← q] at this; exact Nat.lt_irrefl _ this
theorem zhf (ok : StaOk S) (I : Inv S fr g σ s.heap) {vs : Array Value} {l : List PyData} {k : Nat} (r : PVs S.w.params s.heap g.κ vs.toList l) :
  Is S fr g σ s (.pd (.list l)) (.ref s.heap.objs.size) { s with heap := s.heap.push { cls := .type "list", data := .seq vs }, toks := k } := by
 have hn : s.heap.get? s.heap.objs.size = none := Heap.get?_none_of_le (Nat.le_refl _)
 obtain ⟨I2, E2⟩ := I.new (k := .fz) (fun b o q => Heap.get?_push_of_some _ q) hn (Heap.get?_push_size s.heap (o := { cls := .type "list", data := .seq vs }) rfl)
 exact ⟨_, σ, _, ⟨rfl, rfl⟩, E2, I2, .pd (.list (if_pos rfl) (Heap.get?_push_size _ rfl) rfl rfl (zeM ok I) (r.mono E2.up.fz)), ⟨rfl, rfl, rfl⟩⟩
theorem zbk {P : Prop} {o : Op} {x y : V} {d : PyData} (h1 : o ≠ .isin) (h2 : o ≠ .notin) (h : evOp o x y σ = some d) (k : ∀ a b, rd σ x = some a -> rd σ y = some b -> opP o a b = some d -> P) : P := by
 have h : ((rd σ x).bind fun a => (rd σ y).bind fun b => opP o a b) = some d := by
  cases o <;> first | exact h | exact absurd rfl h1 | exact absurd rfl h2
 exact bd_e h fun a e1 h => bd_e h fun b e2 h => k a b e1 e2 h
theorem zgc {M : Model} {l b : Addr} {vs ws : Array Value} {Q : Value -> Shared -> Prop} (hl : s.heap.IsList l vs) (hb : s.heap.IsList b ws)
  (h : Q (.ref s.heap.objs.size) { s with heap := s.heap.push { cls := .type "list", data := .seq (vs ++ ws) } }) (hsz : vs.size + ws.size <= sizeLine) : wpAny (model S.prog S.w) A (binaryOp .Add (.ref l) (.ref b)) Q Ev s := by
 obtain ⟨⟨cls, dd, data, sl⟩, ho, hc, n, hd⟩ := id hl
 obtain ⟨⟨cls2, dd2, data2, sl2⟩, ho2, hc2, n2, hd2⟩ := id hb
 simp only at hc hd hc2 hd2
 subst hc hd hc2 hd2
 exact concat_meets ⟨_, ho, rfl⟩ ⟨_, ho2, rfl⟩ noFill_list_add seq_list_add PySem.F.slot_list_add PySem.F.entry_list_add (PySem.F.args_list_add_2 _ _) (list_addW l b vs ws n n2 dd dd2 sl sl2 hsz) ⟨ho, ho2, h⟩
theorem zns (ok : StaOk S) {a b : Value} {x y : V} {p q d : PyData} (I : Inv S fr g σ s.heap) (ra : VR S s.heap g a x) (rb : VR S s.heap g b y) (e1 : rd σ x = some p) (e2 : rd σ y = some q) (h : addP p q = some d) :
  wpAny S.M A (binaryOp .Add a b) (Is S fr g σ s (.pd d)) Ev s := by
 refine zaJ h (fun h => b2_e h fun u w h1 h2 h => ?_) fun h => zaJ h (fun h => b2_e h fun u w h1 h2 h => ?_) fun h => b2_e h fun i j h1 h2 h => ?_
 ·refine gd_m h fun hz => ?_
  refine ra.strK e1 h1 fun t => ?_
  exact rb.strK e2 h2 fun t' => PyProof.Rows.add_str (hsz := hz) fun _ _ => zcA I
 ·refine gd_m h fun hz => ?_
  refine ra.listK I e1 h1 fun l vs hl pl z1 => ?_
  refine rb.listK I e2 h2 fun l' ws hl' pl' z2 => ?_
  exact zgc (M := S.M) hl hl' (zhf (k := s.toks) ok I (by rw [Array.toList_append]; exact pl.append pl')) (by rw [z1, z2]; exact hz)
 ·refine some_m h ?_
  refine ra.intK e1 h1 fun t => ?_
  exact rb.intK e2 h2 fun t' => PyProof.Rows.add_int (zcB I)
theorem zn1 {P : Prop} {o : Op} {bo : Operator} {x y : V} {d : PyData} (ho : opOf bo = some o) (h : evOp o x y σ = some d) (k : ∀ a b, rd σ x = some a -> rd σ y = some b -> opP o a b = some d -> P) : P := by
 have h : ((rd σ x).bind fun a => (rd σ y).bind fun b => opP o a b) = some d := by
  cases bo <;> cases ho <;> exact h
 exact bd_e h fun a e1 h => bd_e h fun b e2 h => k a b e1 e2 h
theorem zkB (ok : StaOk S) {a b : Value} {x y : V} {d : PyData} {o : Op} {bo : Operator} (I : Inv S fr g σ s.heap) (ra : VR S s.heap g a x) (rb : VR S s.heap g b y) (ho : opOf bo = some o) (he : evOp o x y σ = some d) :
  wpAny S.M A (binaryOp bo a b) (Is S fr g σ s (.pd d)) Ev s := by
 refine zn1 ho he fun p q e1 e2 h => ?_
 clear he
 cases bo <;> cases ho
 ·exact zns ok I ra rb e1 e2 h
 ·refine b2_e h fun i j h1 h2 h => some_m h ?_
  refine ra.intK e1 h1 fun t => ?_
  exact rb.intK e2 h2 fun t' => PySem.P.sub_int (zcB I)
 ·refine b2_e h fun i j h1 h2 h => gd_m h fun hz => ?_
  refine ra.intK e1 h1 fun t => ?_
  exact rb.intK e2 h2 fun t' => PySem.P.mul_int (zcB I) (IntMulOk.of_left (intBits_le_64 hz.1 hz.2))
 ·refine b2_e h fun i j h1 h2 h => gd_m h fun hz => ?_
  refine ra.intK e1 h1 fun t => ?_
  refine rb.intK e2 h2 fun t' => mod_int' (Int.ne_of_gt hz) ?_
  rw [Int.fmod_eq_emod_of_nonneg _ (Int.le_of_lt hz)]; exact zcB I
theorem zbT (room : Room A) : A.units + 64 < cLine := Nat.lt_of_le_of_lt (Nat.add_le_add_left (by decide) _) room.units
noncomputable abbrev zlq (S : Sta) (A : Around) (fr : List Env) (g : Gh) (σ : Hp) (s : Shared) (Ev : Value -> Shared -> Prop) (p n : CmpOp) (a b : Value) (r : Bool) : Prop := wpAny S.M A (compareOp p a b) (Is S fr g σ s (.pd (.bool r))) Ev s /\ wpAny S.M A (compareOp n a b) (Is S fr g σ s (.pd (.bool (!r)))) Ev s
theorem zjE (ok : StaOk S) {a b : Value} {x y : V} {p q : PyData} {r : Bool} (room : Room A) (I : Inv S fr g σ s.heap) (ra : VR S s.heap g a x) (rb : VR S s.heap g b y) (e1 : rd σ x = some p) (e2 : rd σ y = some q) (he : eqP p q = some r) : zlq S A fr g σ s Ev .Eq .NotEq a b r := by
 refine zaJ he (fun h => b2_e h fun u w h1 h2 h => some_m h ?_) fun h => zaJ h (fun h => b2_e h fun i j h1 h2 h => some_m h ?_) fun h => gd_m h fun hz => ?_
 ·refine ra.strK e1 h1 fun t => ?_
  exact rb.strK e2 h2 fun t' => ⟨PySem.P.eq_str (zaq I), PySem.P.ne_str (zaq I)⟩
 ·refine ra.intK e1 h1 fun t => ?_
  exact rb.intK e2 h2 fun t' => ⟨PySem.P.eq_int (zaq I), PySem.P.ne_int (zaq I)⟩
 ·obtain ⟨as, r1⟩ := ra.reads ok I e1
  obtain ⟨bs, r2⟩ := rb.reads ok I e2
  have hu : A.units + min p.depth q.depth < cLine := Nat.lt_of_le_of_lt (Nat.add_le_add_left (Nat.le_trans (Nat.min_le_left _ _) hz.2.2) _) (zbT room)
  exact ⟨compareEq_reads r1 r2 hz.1 hz.2.1 hu (zaq I), compareNe_reads r1 r2 hz.1 hz.2.1 hu (zaq I)⟩
theorem znl (x y : Str) : (x == y) = sb x y := by
 rw [Bool.eq_iff_iff, beq_iff_eq]
 unfold sb
 rw [beq_iff_eq]
 exact ⟨fun h => h ▸ rfl, fun h => by cases x; cases y; rw [Str.mk.injEq]; exact Array.toList_inj.mp h⟩
theorem zjF {x : Str} (h : okS x = true) : (PyData.str x).canLay0 = true := by
 show PyData.strOk x = true
 unfold PyData.strOk
 rw [← Array.all_toList]; exact h
theorem zmK {x : Str} : ∀ {l : List PyData} {r : Bool}, inS x l = some r -> PyData.canLayAll0 l = true /\ (l.any fun y => PyData.eqv y (.str x)) = r
 | [], _, h => ⟨rfl, Option.some.inj h⟩
 | d :: l, _, h0 => bd_e h0 fun y h1 h => bd_e h fun b h2 h => zbH h fun q h3 h4 => gd_e h2 fun ho hb => by
  obtain rfl := zdJ h1
  obtain ⟨e1, e2⟩ := zmK h3
  refine ⟨Bool.and_eq_true_iff.mpr ⟨zjF ho, e1⟩, ?_⟩
  rw [List.any_cons, e2, ← h4, ← hb]; exact congrArg (· || q) (znl y x)
theorem zmL {i : Int} : ∀ {l : List PyData} {r : Bool}, inI i l = some r -> PyData.canLayAll0 l = true /\ (l.any fun y => PyData.eqv y (.int i)) = r
 | [], _, h => ⟨rfl, Option.some.inj h⟩
 | d :: l, _, h0 => bd_e h0 fun y h1 h => zbH h fun q h3 h4 => by
  obtain rfl := zc4 h1
  obtain ⟨e1, e2⟩ := zmL h3
  refine ⟨e1, ?_⟩
  rw [List.any_cons, e2, ← h4]; rfl
@[elab_as_elim] theorem inL_m {P : Bool -> Prop} {d : PyData} {l : List PyData} {r : Bool} (h : inL d l = some r) (k : d.canLay0 = true /\ PyData.canLayAll0 l = true /\ d.depth <= 64 -> P (l.any fun y => PyData.eqv y d)) : P r :=
 zaJ h (fun h => bd_e h fun x h1 h => bd_e h fun y h2 h => gd_e h2 fun ho e => by
  obtain rfl := zdJ h1; subst e
  obtain ⟨e1, e2⟩ := zmK h
  exact e2 ▸ k ⟨zjF ho, e1, Nat.le_of_ble_eq_true rfl⟩) fun h => zaJ h (fun h => bd_e h fun i h1 h => by
  obtain rfl := zc4 h1
  obtain ⟨e1, e2⟩ := zmL h
  exact e2 ▸ k ⟨rfl, e1, Nat.le_of_ble_eq_true rfl⟩) fun h => gd_m h k
theorem zcl (room : Room A) {m n : Nat} (h : n <= 64) : A.units + 1 + min m n < cLine := Nat.lt_of_le_of_lt (Nat.add_le_add_left (Nat.le_trans (Nat.min_le_right _ _) h) _) (Nat.lt_of_le_of_lt (by rw [Nat.add_assoc]; exact Nat.add_le_add_left (by decide) _) room.units)
theorem zeR {a : Value} {k : Str} {da : Addr} {es : List DictEntry} {n : Nat} {kv : List (Str × V)} {r : Bool} (I : Inv S fr g σ s.heap) (ra : VR S s.heap g a (.pd (.str k))) (e1 : s.heap.get? da = some ⟨.type "dict", none, .dict es.toArray n, #[]⟩) (e2 : VEs S s.heap g es kv) (e3 : (da == sysModules) = false) (e4 : (zbY k kv).isSome = r) : zlq S A fr g σ s Ev .In .NotIn a (.ref da) r := by
 obtain ⟨t, rfl⟩ := ze7 ra
 have hr : (getE es k).isSome = r := by
  rcases zgg e2 k with ⟨v, x, h1, h2, _⟩ | ⟨h1, h2⟩ <;> rw [h1, ← e4, h2] <;> rfl
 have mp := zda e1 e2
 exact ⟨wpAny_in_of (knd := zcf S) (k := k) (beq_self_eq_true k) e3 mp (hr.symm ▸ zdm I), wpAny_notIn_of (knd := zcf S) (k := k) (beq_self_eq_true k) e3 mp (hr.symm ▸ zdm I)⟩
theorem zjD (ok : StaOk S) {a b : Value} {x y : V} {r : Bool} (room : Room A) (I : Inv S fr g σ s.heap) (ra : VR S s.heap g a x) (rb : VR S s.heap g b y) (he : inV x σ y = some r) : zlq S A fr g σ s Ev .In .NotIn a b r := by
 have rc : ∀ {c}, pdV x = some c -> ∃ as, Reads s.heap a c as := fun h2 => ra.reads ok I (by rw [zbv h2]; rfl)
 refine zaJ he (fun h => bd_e h fun p h1 h => bd_e h fun k h2 h => ?r) fun h => bd_e h fun d e2 h => zaJ h (fun h => bd_e h fun l h1 h => bd_e h fun c h2 h => inL_m h fun hz => ?l) fun h => zaJ h (fun h => bd_e h fun l h1 h => bd_e h fun c h2 h => inL_m h fun hz => ?t) fun h => bd_e h fun l h1 h => bd_e h fun k h2 h => ?d
 case r =>
  obtain ⟨q, z⟩ := zem h1
  obtain ⟨da, es, n, rfl, _, _, e1, e2, e3⟩ := (q ▸ rb).refDict ok I z
  exact zeR I (zb6 h2 ▸ ra) e1 e2 e3 (Option.some.inj h)
 case l =>
  obtain ⟨as, r1⟩ := rc h2
  obtain ⟨bs, r2⟩ := rb.reads ok I (zbf h1 ▸ e2)
  exact ⟨in_list_reads r2 r1 hz.2.1 hz.1 (zcl room hz.2.2) (zaq I), notIn_list_reads r2 r1 hz.2.1 hz.1 (zcl room hz.2.2) (zaq I)⟩
 case t =>
  obtain ⟨as, r1⟩ := rc h2
  obtain ⟨bs, r2⟩ := rb.reads ok I (zcn h1 ▸ e2)
  exact ⟨in_tuple_reads r2 r1 hz.2.1 hz.1 (zcl room hz.2.2) (zaq I), notIn_tuple_reads r2 r1 hz.2.1 hz.1 (zcl room hz.2.2) (zaq I)⟩
 case d =>
  have e2 := zdx h1 ▸ e2
  refine rb.rdK e2 (fun rb => ?_) fun i rb e2 => zcY e2 (fun l _ q => by cases q) fun l' ds z hk q => ?_
  ·obtain ⟨da, es, n, kv, rfl, _, e1, e2, e3, e4, _⟩ := rb.pdDict
   exact zeR I (zb6 h2 ▸ ra) e1 e2 e3 (by rw [e4, ← Option.some.inj h]; cases zdk k l <;> rfl)
  ·cases q
   obtain ⟨da, es, n, rfl, _, _, e1, e2, e3⟩ := rb.refDict ok I z
   exact zeR I (zb6 h2 ▸ ra) e1 e2 e3 ((zkQ hk).trans (Option.some.inj h))
theorem zgY {f : Int -> Int -> Bool} {co : CmpOp} {a b : Value} {x y : V} {p q : PyData} {r : Bool} (ra : VR S s.heap g a x) (rb : VR S s.heap g b y) (e1 : rd σ x = some p) (e2 : rd σ y = some q) (h : ordP f p q = some r) (k : ∀ i t j u, wpAny S.M A (compareOp co (.int i t) (.int j u)) (Is S fr g σ s (.pd (.bool (f i j)))) Ev s) : wpAny S.M A (compareOp co a b) (Is S fr g σ s (.pd (.bool r))) Ev s := by
 refine b2_e h fun i j h1 h2 h => some_m h ?_
 refine ra.intK e1 h1 fun t => ?_
 exact rb.intK e2 h2 fun t' => k i t j t'
theorem zbt {P : Params} {h : Heap} {κ : Addr -> Kd} : ∀ {vs : List Value} {l : List PyData} {ns : List Int}, PVs P h κ vs l -> zbO l = some ns -> IntsAre vs ns
 | [], l, ns, p, e => by cases p; cases e; exact .nil
 | v :: vs, l, ns, p, e => by
  cases p with
  | cons a r =>
   refine bd_e e fun i hi e => zbH e fun q hq e => ?_
   subst e
   obtain rfl := zc4 hi
   cases a with
   | int i t => exact .cons _ _ (zbt r hq)
theorem zc3 {a : Value} {x : V} {p : PyData} (ra : VR S s.heap g a x) (e : rd σ x = some p) : (a == Value.none) = isN p := by
 refine ra.rdK e (fun ra => ?_) fun i ra e => ?_
 ·have r := zbu ra
  cases r <;> rfl
 ·obtain ⟨rfl, _⟩ := zdG ra
  exact zcY e (fun l _ q => q ▸ rfl) fun l ds _ _ q => q ▸ rfl
theorem zmG {co : CmpOp} {f : Bool -> Bool} {a b : Value} {x y : V} {p q : PyData} {r : Bool} (I : Inv S fr g σ s.heap) (ra : VR S s.heap g a x) (rb : VR S s.heap g b y) (e1 : rd σ x = some p) (e2 : rd σ y = some q) (h : isP p q = some r)
  (k : ∀ Q : Value -> Shared -> Prop, Q (.bool (f (a == Value.none))) s -> wpAny S.M A (compareOp co a .none) Q Ev s) : wpAny S.M A (compareOp co a b) (Is S fr g σ s (.pd (.bool (f r)))) Ev s := by
 refine gd_m h fun hn => ?_
 have hb : b = Value.none := beq_iff_eq.mp ((zc3 rb e2).trans hn)
 rw [hb]
 refine k _ ?_
 rw [zc3 ra e1]; exact zaq I
theorem zn7 {a b : Value} {x y : V} {p q : PyData} {r : Bool} (room : Room A) (I : Inv S fr g σ s.heap) (ra : VR S s.heap g a x) (rb : VR S s.heap g b y) (e1 : rd σ x = some p) (e2 : rd σ y = some q) (h : ltP p q = some r) : wpAny S.M A (compareOp .Lt a b) (Is S fr g σ s (.pd (.bool r))) Ev s := by
 refine zaJ h (fun h => b2_e h fun u w h1 h2 h => some_m h ?_) fun h => b2_e h fun i j h1 h2 h => some_m h ?_
 ·refine ra.strK e1 h1 fun t => ?_
  exact rb.strK e2 h2 fun t' => PySem.P.lt_str (zaq I)
 ·refine ra.numK (P := fun a i => wpAny S.M A (compareOp .Lt a b) (Is S fr g σ s (.pd (.bool (decide (i < j))))) Ev s) e1 h1 (fun i t => ?_) fun c => ?_
  ·exact rb.numK (P := fun b j => wpAny S.M A (compareOp .Lt (.int i t) b) (Is S fr g σ s (.pd (.bool (decide (i < j))))) Ev s) e2 h2 (fun j u => PySem.P.lt_int (zaq I)) fun b => zn8 (zaq I)
  ·exact rb.numK (P := fun b j => wpAny S.M A (compareOp .Lt (.bool c) b) (Is S fr g σ s (.pd (.bool (decide ((if c = true then 1 else 0) < j))))) Ev s) e2 h2 (fun j u => zn9 (zaq I)) fun b => lt_bool (zaq I)
theorem zkA (ok : StaOk S) {a b : Value} {x y : V} {d : PyData} {co : CmpOp} (room : Room A) (I : Inv S fr g σ s.heap) (ra : VR S s.heap g a x) (rb : VR S s.heap g b y) (he : evOp (zcM co) x y σ = some d) :
  wpAny S.M A (compareOp co a b) (Is S fr g σ s (.pd d)) Ev s := by
 cases co with
 | Eq => exact zbk (o := .eq) nofun nofun he fun p q e1 e2 h => map_m h fun r h => (zjE ok room I ra rb e1 e2 h).1
 | NotEq => exact zbk (o := .ne) nofun nofun he fun p q e1 e2 h => map_m h fun r h => (zjE ok room I ra rb e1 e2 h).2
 | Lt => exact zbk (o := .lt) nofun nofun he fun p q e1 e2 h => map_m h fun r h => zn7 room I ra rb e1 e2 h
 | LtE => exact zbk (o := .le) nofun nofun he fun p q e1 e2 h => map_m h fun r h => zgY ra rb e1 e2 h fun i t j u => PySem.P.le_int (zaq I)
 | Gt => exact zbk (o := .gt) nofun nofun he fun p q e1 e2 h => map_m h fun r h => zgY ra rb e1 e2 h fun i t j u => PySem.P.gt_int (zaq I)
 | GtE => exact zbk (o := .ge) nofun nofun he fun p q e1 e2 h => map_m h fun r h => zgY ra rb e1 e2 h fun i t j u => PySem.P.ge_int (zaq I)
 | Is => exact zbk (o := .is) nofun nofun he fun p q e1 e2 h => map_m h fun r h => zmG (f := id) I ra rb e1 e2 h fun Q hq => is_none_gen hq
 | IsNot => exact zbk (o := .isnot) nofun nofun he fun p q e1 e2 h => map_m h fun r h => zmG (f := not) I ra rb e1 e2 h fun Q hq => isnot_none_gen hq
 | In => exact map_m he fun r h => (zjD ok room I ra rb h).1
 | NotIn => exact map_m he fun r h => (zjD ok room I ra rb h).2
theorem zgZ (ok : StaOk S) : OpsOk S := ⟨fun r I a b o e => zkB ok I a b o e, fun r I a b e => zkA ok r I a b e⟩
end
section
variable {S : Sta} {fr : List Env} {A : Around} {g : Gh} {σ : Hp} {s : Shared} {d : V} {Ev : Value -> Shared -> Prop}
theorem zbj {o : Value} {T id : String} {Q : Bool -> Shared -> Prop} {M : Model} (hT : s.TypeIs o T) (hl : typeLookup (.type T) "__getitem__" = pure (some (.builtin id))) (h : Q false s) : wpAny M A (getitemInPython o) Q Ev s := by
 rw [getitemInPython_of_ne hT.not_modules]
 exact wpAny_bind (wpAny_specialOf hT hl (wpAny_pure h))
theorem PVs.reverse {P : Params} {h : Heap} {κ : Addr -> Kd} {vs : List Value} {ds : List PyData} (p : PVs P h κ vs ds) : PVs P h κ vs.reverse ds.reverse :=
 PVs.ind (m := fun vs ds => PVs P h κ vs.reverse ds.reverse) .nil (fun a _ i => by rw [List.reverse_cons, List.reverse_cons]; exact i.append (.cons a .nil)) p
structure IdxAt (l : List PyData) (i : Int) (w : PyData) (j : Nat) : Prop where
 h1 : seqIndex? i l.length = some j
 h2 : l[j]? = some w
 h3 : -(2 ^ 63) <= i
 h4 : i < 2 ^ 63
 h5 : 0 <= i -> j = i.toNat
 h6 : i < 0 -> j = (i + l.length).toNat /\ -(l.length : Int) <= i
theorem zft {l : List PyData} {i : Int} {w : PyData} (h : idx l i = some w) : ∃ j, IdxAt l i w j := by
 have hb : -(l.length : Int) <= i /\ i < l.length /\ l.length <= sizeLine := Classical.byContradiction fun q => by cases (if_neg q).symm.trans h
 have h := (if_pos hb).symm.trans h
 obtain ⟨h1, h2, h3⟩ := hb
 rw [sizeLine_eq] at h3
 refine ⟨_, ?_, h, Int.le_trans (Int.le_trans (by decide) (Int.neg_le_neg (Int.ofNat_le.mpr h3))) h1, Int.lt_of_lt_of_le h2 (Int.le_trans (Int.ofNat_le.mpr h3) (by decide)), fun h0 => ?_, fun h0 => ?_⟩
 ·unfold seqIndex?
  by_cases hn : i < 0
  ·simp only [hn, if_true]; rw [if_pos]; simp; exact ⟨by have := Int.add_le_add_right h1 l.length; rwa [Int.add_left_neg] at this, by have := Int.add_lt_add_right hn l.length; rwa [Int.zero_add] at this⟩
  ·simp only [hn, if_false]; rw [if_pos]; simp; exact ⟨Int.not_lt.mp hn, h2⟩
 ·rw [if_neg (Int.not_lt.mpr h0)]
 ·exact ⟨by rw [if_pos h0], h1⟩
theorem PVs.getA {P : Params} {h : Heap} {κ : Addr -> Kd} {vs : Array Value} {l : List PyData} (p : PVs P h κ vs.toList l) {j : Nat} {w : PyData} (e : l[j]? = some w) : ∃ v, vs[j]? = some v /\ PV P h κ v w := by
 obtain ⟨v, h1, h2⟩ := p.get e
 exact ⟨v, by simpa using h1, h2⟩
theorem zid {v : Value} {x : V} {d : PyData} {l : List PyData} {i : Int} {u : Tok} {w : PyData} (I : Inv S fr g σ s.heap) (r : VR S s.heap g v x) (e : rd σ x = some d) (q : za7 d = some l) (hi : idx l i = some w) :
  wpAny S.M A (getItem v (.int i u)) (Is S fr g σ s (.pd w)) Ev s := by
 refine r.listK I e q fun a vs hl p hlen => ?_
 obtain ⟨j, J⟩ := zft hi
 obtain ⟨y, h8, h9⟩ := p.getA J.h2
 by_cases hn : i < 0
 ·refine wpAny_getItem_list_neg hl hn (by rw [hlen]; exact (J.h6 hn).2) J.h3 ?_ (zbC I (.pd h9))
  rw [hlen, ← (J.h6 hn).1]; exact h8
 ·refine wpAny_getItem_list hl (Int.not_lt.mp hn) J.h4 ?_ (zbC I (.pd h9))
  rw [← J.h5 (Int.not_lt.mp hn)]; exact h8
theorem zj3 {v : Value} {x : V} {d : PyData} {l : List PyData} {i : Int} {u : Tok} {w : PyData} (I : Inv S fr g σ s.heap) (r : VR S s.heap g v x) (e : rd σ x = some d) (q : tupP d = some l) (hi : idx l i = some w) :
  wpAny S.M A (getItem v (.int i u)) (Is S fr g σ s (.pd w)) Ev s := by
 refine r.tupK e q fun a vs hl _ p hlen => ?_
 obtain ⟨j, J⟩ := zft hi
 obtain ⟨y, h8, h9⟩ := p.getA J.h2
 exact PyProof.Rows.getItem_tuple hl J.h3 J.h4 (by rw [hlen]; exact J.h1) h8 (zbC I (.pd h9))
theorem zfc {da : Addr} {es : List DictEntry} {n : Nat} {kv : List (Str × V)} {k : Str} {t : Tok} {z : V} (I : Inv S fr g σ s.heap) (e1 : s.heap.get? da = some ⟨.type "dict", none, .dict es.toArray n, #[]⟩) (e2 : VEs S s.heap g es kv) (e3 : zbY k kv = some z) : wpAny S.M A (getItem (.ref da) (.str k t)) (Is S fr g σ s z) Ev s := by
 rcases zgg e2 k with ⟨v, x, h1, h2, h3⟩ | ⟨h1, h2⟩
 ·rw [h2] at e3; cases e3
  exact wpAny_getItem_of (knd := zcf S) (k := k) (beq_self_eq_true k) (zda e1 e2) h1 (zb1 I h3)
 ·rw [h2] at e3; cases e3
theorem zj5 (ok : StaOk S) {a b : Value} {x y z : V} (I : Inv S fr g σ s.heap) (ra : VR S s.heap g a x) (rb : VR S s.heap g b y) (he : zaA σ x y = some z) : wpAny S.M A (getItem a b) (Is S fr g σ s z) Ev s := by
 refine zaJ he (fun h => bd_e h fun k hk h => ?_) fun h => bd_e h fun i hi h => bd_e h fun d e h => ?_
 ·obtain ⟨t, rfl⟩ := ze7 (zb6 hk ▸ rb)
  refine zaJ h (fun h => bd_e h fun p hp h => ?_) fun h => bd_e h fun l hl h => bd_e hl fun d hp hd => ?_
  ·obtain ⟨q, z'⟩ := zem hp
   obtain ⟨da, es, n, rfl, _, _, e1, e2, e3⟩ := (q ▸ ra).refDict ok I z'
   exact zfc I e1 e2 h
  ·have ra : VR S s.heap g a (.pd (.dict l)) := by rw [← zdx hd, ← zbv hp]; exact ra
   obtain ⟨da, es, n, kv, rfl, _, e1, e2, e3, e4, _⟩ := ra.pdDict
   exact zfc I e1 e2 (by rw [e4]; exact h)
 ·obtain ⟨t, rfl⟩ := zbw (zbz hi ▸ rb)
  refine zaJ h (fun h => bd_e h fun l hl h => ?_) fun h => bd_e h fun l hl h => ?_
  ·refine map_m h fun w hw => ?_
   exact zid I ra e hl hw
  ·refine map_m h fun w hw => ?_
   exact zj3 I ra e hl hw
theorem zk8 {P : Params} {h : Heap} {κ : Addr -> Kd} {vs : Array Value} {l : List PyData} (p : PVs P h κ vs.toList l) (lo hi : Option Int) : PVs P h κ (slicePick vs lo hi none).toList (cut l lo hi) := by
 rw [slicePick_plain]
 have e : vs.size = l.length := by have := p.length; simpa using this
 simp only [cut, e]
 exact (p.drop _).take _
theorem zct {sl : Addr} {vl vu vs : Value} {lo hi st : Option Int} {n : Nat} {Q : Int × Int × Nat -> Shared -> Prop} (hs : s.heap.IsSliceOf sl vl vu vs) (pl : IsPart vl lo) (pu : IsPart vu hi) (ps : IsPart vs st) (h0 : (st.getD 1 == 0) = false)
  (h : Q ((Builtin.Slice.sliceAdjust lo hi (st.getD 1) n).1, st.getD 1, Builtin.Slice.slicePlaces (Builtin.Slice.sliceAdjust lo hi (st.getD 1) n).1 (Builtin.Slice.sliceAdjust lo hi (st.getD 1) n).2 (st.getD 1)) s) :
  wpAny (model S.prog S.w) A (Builtin.Slice.sliceApplied (.ref sl) (pure (n : Int))) Q Ev s := by
 have part : ∀ {v k} {R : Option Int -> Shared -> Prop}, IsPart v k -> R k s -> wpAny (model S.prog S.w) A (Builtin.Slice.slicePartIndex v) R Ev s := by
  intro v k R p r
  cases p with
  | none => exact slicePart_none r
  | int i t => exact slicePart_int r
 obtain ⟨os, hos, hcs, hds⟩ := id hs
 unfold Builtin.Slice.sliceApplied Builtin.Slice.sliceFields
 refine wpAny_bind (wpAny_bind (wpAny_field hos hds (x := vl) rfl (wpAny_bind (wpAny_field hos hds (x := vu) rfl (wpAny_bind (wpAny_field hos hds (x := vs) rfl (wpAny_pure ?_)))))))
 refine wpAny_bind (part ps ?_)
 show wpAny _ _ (if (st.getD 1 == 0) = true then _ else _) _ _ s
 rw [if_neg (by rw [h0]; decide)]
 refine wpAny_bind (part pl (wpAny_bind (part pu (wpAny_bind (wpAny_pure ?_)))))
 exact wpAny_pure h
theorem zb2 {t sl : Addr} {items : Array Value} {vl vu vs : Value} {lo hi st : Option Int} {Q : Value -> Shared -> Prop} {a b c : Int} {k : Nat} (ht : IsTup s.heap t items) (hs : s.heap.IsSliceOf sl vl vu vs) (pl : IsPart vl lo) (pu : IsPart vu hi) (ps : IsPart vs st) (h0 : (st.getD 1 == 0) = false)
  (ea : Builtin.Slice.sliceAdjust lo hi (st.getD 1) items.size = (a, b)) (ec : st.getD 1 = c) (ek : Builtin.Slice.slicePlaces a b c = k)
  (hw : (a == 0 && c == 1 && k == items.size) = true -> Q (.ref t) s)
  (h : Q (.ref s.heap.objs.size) { s with heap := s.heap.push { cls := .type "tuple", data := .seq ((List.range k).filterMap fun (j : Nat) => items[(a + (j : Int) * c).toNat]?).toArray } })
  (hz : k <= sizeLine) : wpAny (model S.prog S.w) A (getItem (.ref t) (.ref sl)) Q Ev s := by
 subst ec
 have hsz : sizeOk (.seq ((List.range k).filterMap fun (j : Nat) => items[(a + (j : Int) * (st.getD 1)).toNat]?).toArray) := by
  show ((List.range k).filterMap fun (j : Nat) => items[(a + (j : Int) * (st.getD 1)).toNat]?).toArray.size <= sizeLine
  rw [List.size_toArray]
  exact Nat.le_trans (List.length_filterMap_le _ _) (by rw [List.length_range]; exact hz)
 obtain ⟨os, hos, hcs, hds⟩ := id hs
 have hTs : s.TypeIs (.ref sl) "slice" := ⟨os, hos, hcs⟩
 unfold getItem
 try with_reducible refine wpAny_holding ?_
 first | refine wpAny_bind (wpAny_pure ?_) | skip
 refine wpAny_bind (wpAny_sequenceKey ht.typeIs (by decide) ?_)
 refine wpAny_bind (wpAny_callSpecial?_slot (name := Str.ofString "__getitem__") ht.typeIs slot_tuple_getitem
  (wpAny_call_entry slot_tuple_getitem ht.typeIs entry_tuple_getitem ?_ (args_tuple_getitem _ _)))
 show wpAny _ _ (Builtin.Tuple.tupleItemsOf (.ref t) >>= _) _ _ s
 refine wpAny_bind (tupleItemsOf_ ht ?_)
 refine wpAny_bind (wpAny_typeOf hTs ?_)
 rw [if_pos (by decide)]
 refine wpAny_bind (zct hs pl pu ps h0 ?_)
 rw [ea, ek]
 show wpAny _ _ (if (a == 0 && st.getD 1 == 1 && k == items.size) = true then _ else _) _ _ s
 have tail : wpAny (model S.prog S.w) A.in1 (Builtin.Tuple.tupleExact ((List.range k).filterMap fun (j : Nat) => items[(a + (j : Int) * (st.getD 1)).toNat]?).toArray) (fun v s' => Q v s') Ev s := wpAny_newObj_type h hsz
 split
 ·rename_i q
  unfold Builtin.Tuple.tupleIsExact
  refine wpAny_bind (wpAny_bind (wpAny_typeOf ht.typeIs (wpAny_pure ?_)))
  rw [if_pos (by decide)]
  first
   | exact wpAny_bind (wpAny_rule (wpAny_bind (wpAny_pure (wpAny_pure ⟨_, rfl, wpAny_pure (hw q)⟩))))
   | exact wpAny_bind (wpAny_rule (wpAny_bind (wpAny_pure ⟨_, rfl, wpAny_pure (hw q)⟩)))
   | exact wpAny_bind (wpAny_rule (wpAny_pure ⟨_, rfl, wpAny_pure (hw q)⟩))
 ·first
   | exact wpAny_bind (wpAny_mono tail (fun v s' q => wpAny_pure ⟨_, rfl, wpAny_pure q⟩) fun _ _ q => q)
   | exact wpAny_bind (wpAny_mono tail (fun v s' q => wpAny_bind (wpAny_pure (wpAny_pure ⟨_, rfl, wpAny_pure q⟩))) fun _ _ q => q)
theorem zjQ {i : Int} (n : Nat) (h : 0 <= i) : (if i < 0 then max (i + n) (if (1 : Int) < 0 then -1 else 0) else min i (if (1 : Int) < 0 then (n : Int) - 1 else n)) = ((clipAt n i : Nat) : Int) := by
 have e : ¬ i < 0 := Int.not_lt.mpr h
 rw [if_neg e, if_neg (by decide), clipAt_cast, if_neg e]
 exact (Int.max_eq_right (Int.le_min.mpr ⟨h, Int.natCast_nonneg n⟩)).symm
theorem zey {lo hi : Option Int} {n : Nat} (h1 : zfp lo = true) (h2 : zfp hi = true) : Builtin.Slice.sliceAdjust lo hi 1 (n : Int) = (((lo.elim 0 (clipAt n) : Nat) : Int), ((hi.elim n (clipAt n) : Nat) : Int)) := by
 refine Prod.ext ?_ ?_
 ·cases lo with
  | none => rfl
  | some i => exact zjQ n (of_decide_eq_true h1)
 ·cases hi with
  | none => rfl
  | some i => exact zjQ n (of_decide_eq_true h2)
theorem zdT {a b : Nat} : Builtin.Slice.slicePlaces (a : Int) (b : Int) 1 = b - a := by
 unfold Builtin.Slice.slicePlaces
 rw [if_pos (by decide), Int.ediv_one]
 by_cases h : a < b
 ·rw [if_pos (Int.ofNat_lt.mpr h), Int.sub_add_cancel]; exact Int.toNat_sub b a
 ·rw [if_neg fun q => h (Int.ofNat_lt.mp q)]; exact (Nat.sub_eq_zero_of_le (Nat.le_of_not_lt h)).symm
theorem zk9 (n : Nat) (i : Option Int) : (i.elim n (clipAt n)) <= n := by
 cases i with
 | none => exact Nat.le_refl _
 | some i => exact Int.ofNat_le.mp (by show ((clipAt n i : Nat) : Int) <= _; rw [clipAt_cast]; exact Int.max_le.mpr ⟨Int.natCast_nonneg n, Int.min_le_right _ _⟩)
theorem zj6 (ok : StaOk S) {a : Value} {x : V} {d : PyData} {lo hi : Option Int} {sl : Addr} {vl vu : Value} (I : Inv S fr g σ s.heap) (ra : VR S s.heap g a x) (hs : s.heap.IsSliceOf sl vl vu .none) (pl : IsPart vl lo) (pu : IsPart vu hi) (he : zdr σ x lo hi = some d) :
  wpAny S.M A (getItem a (.ref sl)) (Is S fr g σ s (.pd d)) Ev s := by
 refine bd_e he fun d e h => zaJ h (fun h => bd_e h fun l hl h => ?_) fun h => bd_e h fun l hl h => ?_
 ·refine gd_m h fun hz => ?_
  refine ra.listK I e hl fun a vs hl p hlen => ?_
  exact wpAny_getItem_list_slice hl hs pl pu .none (by simp) (zhf (k := s.toks) ok I (zk8 p lo hi)) (by rw [hlen]; exact hz)
 ·refine gd_m h fun hz => ?_
  refine ra.tupK e hl fun a vs hl ra p hlen => ?_
  refine zb2 (c := 1) hl hs pl pu .none rfl (zey (n := vs.size) hz.2.1 hz.2.2) rfl zdT (fun q => ?_) ?_ (Nat.le_trans (Nat.sub_le _ _) (Nat.le_trans (zk9 _ _) (hlen ▸ hz.1)))
  ·simp only [Bool.and_eq_true, beq_iff_eq] at q
   obtain ⟨⟨q1, _⟩, q2⟩ := q
   have q1 : lo.elim 0 (clipAt vs.size) = 0 := by exact_mod_cast q1
   rw [q1, Nat.sub_zero] at q2
   have : cut l lo hi = l := by
    show ((l.drop (lo.elim 0 (clipAt l.length))).take (hi.elim l.length (clipAt l.length) - lo.elim 0 (clipAt l.length))) = l
    rw [← hlen, q1, q2, Nat.sub_zero, hlen]
    exact List.take_length
   rw [this]; exact zbC I ra
  ·have e2 : ((List.range (hi.elim vs.size (clipAt vs.size) - lo.elim 0 (clipAt vs.size))).filterMap fun (j : Nat) => vs[(((lo.elim 0 (clipAt vs.size) : Nat) : Int) + (j : Int) * 1).toNat]?) = (vs.toList.drop (lo.elim 0 (clipAt vs.size))).take (hi.elim vs.size (clipAt vs.size) - lo.elim 0 (clipAt vs.size)) := by
    rw [← pick_run, List.filterMap_map]
    congr 1
    funext j
    show vs[_]? = vs[lo.elim 0 (clipAt vs.size) + j]?
    rw [Int.mul_one, ← Int.natCast_add]; rfl
   show Is S fr g σ s _ _ { s with heap := s.heap.push { cls := .type "tuple", data := .seq (((List.range _).filterMap _).toArray) } }
   rw [e2]
   refine zhe (k := s.toks) I ?_
   simp only [cut, hlen]
   exact (p.drop _).take _
theorem zj4 (ok : StaOk S) {a : Value} {x : V} {d : PyData} {sl : Addr} {t : Tok} (I : Inv S fr g σ s.heap) (ra : VR S s.heap g a x) (hs : s.heap.IsSliceOf sl .none .none (.int (-1) t)) (he : zht σ x = some d) :
  wpAny S.M A (getItem a (.ref sl)) (Is S fr g σ s (.pd d)) Ev s := by
 refine bd_e he fun d e h => bd_e h fun l hl h => gd_m h fun hz => ?_
 refine ra.listK I e hl fun a vs hl p hlen => ?_
 refine wpAny_getItem_list_slice hl hs .none .none (.int _ _) (by simp) ?_ (by rw [hlen]; exact hz)
 rw [krv_pick]
 exact zhf (k := s.toks) ok I (by rw [List.toList_toArray]; exact p.reverse)
end
structure KOk (S : Sta) : Prop where
 eGet : ∀ x, plainGet S.K S.cev x = true
 eDict : hasDictIn S.K S.cev = true
 eScope : findIn S.K (.ref S.cev) (Str.ofString "scope") = some none
 xGa : ∀ b, findIn S.K (.ref (S.ec b)) "__getattribute__" = some (some (.builtin "BaseException.__getattribute__"))
 xGn : ∀ b, findIn S.K (.ref (S.ec b)) "__getattr__" = some none
 xSub : ∀ b, mroIn S.K (S.ec b) (.type "BaseException") = some true
 xDict : ∀ b, hasDictIn S.K (S.ec b) = true
 xWhat : ∀ b, findIn S.K (.ref (S.ec b)) (Str.ofString "what") = some none
 xSpot : ∀ b, findIn S.K (.ref (S.ec b)) (Str.ofString "spot") = some none
section
variable {prog : Program} {w : World} {A : Around} {E : Value -> Shared -> Prop} {s : Shared} {K : Frag} {x C : Addr} {ox : Obj} {od : Option Obj} {name : Str} {expr : Bool} {Q : Value -> Shared -> Prop}
theorem zev {name : Str} {t : Tok} : Builtin.ObjectAttr.attrName (.str name t) = pure name := by rfl
theorem zkW {v : Value} (X : K.In s.heap) (I : InstAt s.heap x ox C od) (hga : findIn K (.ref C) "__getattribute__" = some (some (.builtin "BaseException.__getattribute__"))) (hgn : findIn K (.ref C) "__getattr__" = some none) (hsub : mroIn K C (.type "BaseException") = some true)
  (hf : findObj K C od name = some (.value v)) (hh : handedIn v = true) (h : Q v { s with toks := s.toks + 1 }) : wpAny (model prog w) A (getAttr (.ref x) name expr) Q E s := by
 obtain ⟨hp, gg, d, t, os⟩ := s
 have L0 := I.type (M := model prog w)
 have L1 := looks_findIn (M := model prog w) X hga
 have L2 := looks_findIn (M := model prog w) X hgn
 have L3 := looks_find (M := model prog w) X I hf
 have f3 := PySem.F.attr_Exception.ga.bind (.ref x)
 have hx0 : (expr && onTheHeap (Value.builtin "BaseException.__getattribute__")) = false := by cases expr <;> rfl
 have hx1 : (onTheHeap (Value.ref C) && Value.builtin "BaseException.__getattribute__" == Value.builtin "object.__getattribute__") = false := by
  have : (Value.builtin "BaseException.__getattribute__" == Value.builtin "object.__getattribute__") = false := by decide +kernel
  rw [this]; rfl
 unfold getAttr getAttrBy
 refine wpAny_bind (wpAny_mkText (wpAny_holding (wpAny_bind (L0.at (wpAny_bind (L1.at ?_))))))
 dsimp only
 rw [hx1, if_neg Bool.false_ne_true]
 unfold getAttrByItsOwn hookBefore
 refine wpAny_bind ?_
 show wpAny _ _ (typeLookup (.ref C) "__getattr__") _ _ _
 refine L2.at ?_
 refine wpAny_bind (wpAny_attempt (wpAny_holding ?_))
 unfold callGetattribute
 rw [hx0, if_neg Bool.false_ne_true]
 unfold boundAndCalled
 refine wpAny_bind (wpAny_of_eq f3 ?_)
 refine wpAny_call ?_
 show codeAny (model prog w) A (.call (.builtin "BaseException.__getattribute__") ⟨[.ref x, .str name t], []⟩) _ _
 have hk : builtinKind "BaseException.__getattribute__" = some .slot := by decide +kernel
 have hs : splitId "BaseException.__getattribute__" = some ("BaseException", "__getattribute__") := by decide +kernel
 refine codeAny_call_builtin PySem.F.attr_Exception.ga.plain PySem.F.entry_bexc_ga (@check_slot (model prog w) _ _ ⟨hp, gg, d, t + 1, os⟩ "BaseException.__getattribute__" "BaseException" "__getattribute__" (.ref x) [.str name t] [] _ hk hs (L0.andThen (looks_mroIn X hsub)) (PySem.F.args_bexc_ga (.ref x) (.str name t)) ?_)
 unfold Builtin.«object.__getattribute__»
 refine wpAny_bind (m := slotArgs "__getattribute__" 1 _) (wpAny_pure ?_)
 refine wpAny_bind (wpAny_of_eq zev (wpAny_bind (L0.at (wpAny_bind (L3.at ?_)))))
 show wpAny _ _ (ret v) _ _ _
 refine wpAny_pure ?_
 show wpAny _ _ (handedOut v) _ _ _
 rw [handedOut_of hh]; exact wpAny_pure h
end
section
variable {S : Sta} {fr : List Env} {A : Around} {g : Gh} {σ : Hp} {s : Shared} {Ev : Value -> Shared -> Prop}
theorem zkM {h : Heap} {a : Addr} {mp : Str -> Option Value} {name : Str} {v : Value} (n : h.Ns a mp) (e : mp name = some v) : ∃ o, h.get? a = some o /\ lookIn name o = some (some v) := by
 obtain ⟨o, es, ep, ho, hd, _, hf⟩ := n
 refine ⟨o, ho, ?_⟩
 have := hf name
 rw [e] at this
 unfold nsFind findBy at this
 obtain ⟨en, h1, h2⟩ := Option.map_eq_some_iff.mp this
 have h1 : es.find? (fun e => e.key.isStr name) = some en := h1
 unfold lookIn
 rw [hd]
 dsimp only
 rw [Array.find?_toList, h1]
 exact congrArg (fun z => some (some z)) h2
theorem zdH {h : Heap} {v : Value} {x : V} (r : VR S h g v x) : handedIn v = true := by
 cases r with
 | pd p => cases p <;> rfl
 | _ => rfl
theorem kIn (ok : StaOk S) (I : Inv S fr g σ s.heap) : S.K.In s.heap := fun a o e => I.stays _ _ (ok.K a o e)
theorem zgo (ok : StaOk S) (ko : KOk S) {a : Value} {sc : V} (I : Inv S fr g σ s.heap) (r : VR S s.heap g a (.evr sc)) : wpAny S.M A (getAttr a (Str.ofString "scope") true) (Is S fr g σ s sc) Ev s := by
 cases r with
 | evr k1 k2 e1 e2 hk hh r =>
  rename_i a dx e t n
  have II : InstAt s.heap a (instObj S.cev dx) S.cev (some (dictOf [e] n)) := ⟨e1, rfl, rfl, e2⟩
  refine get_value (kIn ok I) II (plainGet_of (ko.eGet (Str.ofString "scope"))).1 (findObj_own (v := e.val) ko.eDict ko.eScope rfl ?_) (zdH r) (zb1 I r)
  unfold lookIn
  have : e.key.isStr (Str.ofString "scope") = true := by rw [hk]; exact beq_self_eq_true _
  simp [this]
theorem zgp (ok : StaOk S) (ko : KOk S) {ea : Addr} {e : Exc} {b : Bool} {y : Str} {Y : Addr -> Prop} (I : Inv S fr g σ s.heap) (x : FaultAt S Y s.heap g ea e) (hy : zcF y = some b) (hb : b = true -> e.lim = false) :
  wpAny S.M A (getAttr (.ref ea) y true) (Is S fr g σ s (.pd (if b then e.spot else .str e.what))) Ev s := by
 obtain ⟨kd, nx, oe, vs, dx, mp, h1, h2, h3, h4, h6, h7, ⟨v1, h8, h9⟩, h10⟩ := x
 have key : ∀ name v d, mp name = some v -> PV S.w.params s.heap g.κ v d -> findIn S.K (.ref (S.ec e.lim)) name = some none -> wpAny S.M A (getAttr (.ref ea) name true) (Is S fr g σ s (.pd d)) Ev s := by
  intro name v d e1 e2 e3
  obtain ⟨od, h11, h12⟩ := zkM h7 e1
  have I' : InstAt s.heap ea oe (S.ec e.lim) (some od) := ⟨h1, h2, by unfold notCls; rw [h4], by rw [h3]; exact h11⟩
  exact zkW (kIn ok I) I' (ko.xGa _) (ko.xGn _) (ko.xSub _) (findObj_own (ko.xDict _) e3 rfl h12) (zdH (S := S) (g := g) (h := s.heap) (.pd e2)) (zb1 I (.pd e2))
 rcases List.mem_cons.mp (zaC hy) with q | q
 ·cases q; exact key _ _ _ h8 h9 (ko.xWhat _)
 ·rcases List.mem_cons.mp q with q | q
  ·cases q
   obtain ⟨v, h11, h12⟩ := h10 (hb rfl)
   exact key _ _ _ h11 h12 (ko.xSpot _)
  ·cases q
theorem zeC (ok : StaOk S) (ko : KOk S) : SubOk S := by
 refine ⟨fun r I v hs => ?_, fun r I a b e => zj5 ok I a b e, fun r I a h1 h2 h3 h4 => zj6 ok I a h1 h2 h3 h4, fun r I a h1 h2 => zj4 ok I a h1 h2, fun r I v => zgo ok ko I v, fun r I x h1 h2 => zgp ok ko I x h1 h2⟩
 rename_i A fr g σ s a x Ev
 cases hs with
 | l l e =>
  obtain ⟨a, vs, rfl, hl, p⟩ := v.isList I e
  exact zbj hl.typeIs slot_list_getitem.lookup ⟨rfl, rfl⟩
 | t l e =>
  obtain ⟨a, vs, rfl, hl, p⟩ := v.isTup e
  exact zbj hl.typeIs slot_tuple_getitem.lookup ⟨rfl, rfl⟩
 | r i l q e =>
  obtain ⟨da, es, n, rfl, _, _, e1, e2, e3⟩ := (q ▸ v).refDict ok I e
  exact zbj (zda e1 e2).typeIs slot_dict_getitem.lookup ⟨rfl, rfl⟩
 | d l q =>
  obtain ⟨da, es, n, kv, rfl, _, e1, e2, e3, _⟩ := (q ▸ v).pdDict
  exact zbj (zda e1 e2).typeIs slot_dict_getitem.lookup ⟨rfl, rfl⟩
end
inductive RKv (S : Sta) (h : Heap) (g : Gh) : List (Str × Value) -> List (Str × V) -> Prop
 | nil : RKv S h g [] []
 | cons {k : Str} {v : Value} {x : V} {vs : List (Str × Value)} {xs : List (Str × V)} : VR S h g v x -> RKv S h g vs xs -> RKv S h g ((k, v) :: vs) ((k, x) :: xs)
section
variable {S : Sta} {h h' : Heap} {g g' : Gh}
theorem RKv.mono {vs : List (Str × Value)} {xs : List (Str × V)} (u : Up g g' h h') (r : RKv S h g vs xs) : RKv S h' g' vs xs := by
 induction r with
 | nil => exact .nil
 | cons a _ ih => exact .cons (a.mono u) ih
theorem RKv.keys {vs : List (Str × Value)} {xs : List (Str × V)} (r : RKv S h g vs xs) : vs.map (·.1) = xs.map (·.1) := by
 induction r with
 | nil => rfl
 | cons a _ ih => simp [ih]
theorem zmD {vs : List (Str × Value)} {xs : List (Str × V)} (r : RKv S h g vs xs) : ∀ {es : List DictEntry}, (∀ e ∈ es, ∃ k, Value.isStrOf k e.key = true /\ e.hash = hashStr S.w k) -> Pairs (zcf S) es vs -> (xs.map (·.1)).Nodup -> VEs S h g es xs := by
 induction r with
 | nil => intro es _ p _; cases p; exact .nil
 | @cons k v x vs xs a r ih =>
  intro es hk p hn
  cases p with
  | @cons e kv es kvs p1 p2 p3 =>
   have p1 : Value.isStrOf k e.key = true := p1
   have p2 : e.val = v := p2
   obtain ⟨t', hkey⟩ := Value.isStrOf_shape p1
   rw [List.map_cons, List.nodup_cons] at hn
   refine .cons (t := t') hkey ?_ (p2 ▸ a) (fun e' he' => ?_) (ih (fun e' he' => hk e' (.tail _ he')) p3 hn.2)
   ·obtain ⟨k', h1, h2⟩ := hk e (.head _)
    have := Value.isStrOf_inj _ _ _ h1 p1
    subst this
    exact h2
   ·cases hz : e'.key.isStr k with
    | false => rfl
    | true =>
     refine absurd ?_ hn.1
     have hm : ∀ {es : List DictEntry} {kvs : List (Str × Value)}, Pairs (zcf S) es kvs -> e' ∈ es -> k ∈ kvs.map (·.1) := by
      intro es kvs p
      induction p with
      | nil => intro h; cases h
      | @cons e kv es kvs q1 q2 q3 ih2 =>
       intro h
       rcases List.mem_cons.mp h with rfl | h
       ·have hz' : Value.isStrOf k e'.key = true := by
         revert hz; cases e'.key <;> intro hz <;> first | exact hz | cases hz
        have : kv.1 = k := Value.isStrOf_inj _ _ _ q1 hz'
        rw [List.map_cons, this]; exact .head _
       ·exact .tail _ (ih2 h)
     have := hm p3 he'
     rwa [r.keys] at this
theorem zlw {es : List DictEntry} {xs : List (Str × V)} (r : VEs S h g es xs) : ∃ vs, RKv S h g vs xs /\ Pairs (zcf S) es vs /\ (xs.map (·.1)).Nodup := by
 induction r with
 | nil => exact ⟨[], .nil, .nil, List.nodup_nil⟩
 | @cons e es k t x kvs a b c d r ih =>
  obtain ⟨vs, h1, h2, h3⟩ := ih
  have hk : Value.isStrOf k e.key = true := by rw [a]; exact beq_self_eq_true k
  refine ⟨(k, e.val) :: vs, .cons c h1, .cons hk rfl h2, ?_⟩
  rw [List.map_cons, List.nodup_cons]
  refine ⟨fun hm => ?_, h3⟩
  have : ∀ {es : List DictEntry} {xs : List (Str × V)}, VEs S h g es xs -> k ∈ xs.map (·.1) -> ∃ e' ∈ es, e'.key.isStr k = true := by
   intro es xs r
   induction r with
   | nil => intro h; cases h
   | @cons e es k' t x kvs a b c d r ih2 =>
    intro hm
    rw [List.map_cons, List.mem_cons] at hm
    rcases hm with rfl | hm
    ·exact ⟨e, .head _, by rw [a]; exact beq_self_eq_true k⟩
    ·obtain ⟨e', q1, q2⟩ := ih2 hm
     exact ⟨e', .tail _ q1, q2⟩
  obtain ⟨e', q1, q2⟩ := this r hm
  rw [d e' q1] at q2; cases q2
end
end Mine.Lake
namespace Mine.Lake
open PySem PySem.W PyProof.Rows
noncomputable abbrev zaO (w : World) : Obj := { cls := .type "set", dict := none, data := .set #[] 0 (.fresh 0 0 (!zaY w)) }
structure Src (prog : Program) (w : World) (l : Addr) (ol : Obj) (T : String) (itO : Obj) (n : Nat) (P : Nat -> Value -> Prop) (St : Addr -> Nat -> Heap -> Prop) : Prop where
 cls : ol.cls = .type T
 s1 : isSubtype (.type T) (.type "set") = pure false
 s2 : isSubtype (.type T) (.type "frozenset") = pure false
 nd : (Value.type T == Value.type "dict") = false
 iter : ∀ {A E} {s : Shared} {Q : Value -> Shared -> Prop}, s.heap.get? l = some ol -> Q (.ref s.heap.objs.size) { s with heap := s.heap.push itO } -> wpAny (model prog w) A (pyIter (.ref l)) Q E s
 walks : ∀ {A : Around} (I : Addr), A.handled = none -> l ≠ I -> Walks prog w A I [I, l] [I] n P (St I)
 st0 : ∀ {h : Heap}, h.get? l = some ol -> St h.objs.size 0 (h.push itO)
section
variable {prog : Program} {w : World} {A : Around} {E : Value -> Shared -> Prop} {s : Shared}
theorem zkq (a : Value) {Q : Value -> Shared -> Prop} (h : Q (.ref s.heap.objs.size) { s with heap := s.heap.push (zaO w) }) :
  codeAny (model prog w) A (.call (.builtin "set.__new__") ⟨[.type "set", a], []⟩) (wants Q E) s := by
 refine codeAny_of_tree ?_
 show wpAny _ A.in1 (do checkBuiltinCall "set.__new__" ⟨[.type "set", a], []⟩; again (.builtin "set.__new__" ⟨[.type "set", a], []⟩)) _ _ s
 refine wpAny_bind (wpAny_of_eq (PySem.F.newCall_set_1 a) (wpAny_pure ⟨plainId_quiet PySem.F.plain_set_new _, codeAny_builtin PySem.F.entry_set_new ?_⟩))
 rw [Around.under_plainId PySem.F.plain_set_new _]
 unfold Builtin.«set.__new__» Builtin.Frozenset.newClass
 have hsub := sub_set_self
 obtain ⟨hp, g, d, tk, os⟩ := s
 dsimp only
 wp_walk
 refine wpAny_askSetting (wpAny_pure ?_)
 dsimp only
 simp only [newObj]
 refine wpAny_bind (wpAny_alloc (wpAny_pure ?_))
 exact wpAny_pure h
theorem zma : (#[] : Array Nat) = plc 0 := by decide +kernel
theorem SI.nil {h : Heap} (a : Addr) (e : h.get? a = some (zaO w)) : SI prog w h a [] :=
 have G : SetS prog w h a [] := ⟨_, #[], 0, _, 0, e, ⟨rfl, rfl, rfl⟩, rfl, (fun e he => absurd he (by simp)), fun k => by simp, rfl, ⟨rfl, zma, rfl, by decide, rfl⟩, by decide +kernel, rfl, by decide⟩
 ⟨G.setOf, fun _ => G⟩
theorem ziz {l : Addr} {ol itO : Obj} {T : String} {n : Nat} {P : Nat -> Value -> Prop} {St : Addr -> Nat -> Heap -> Prop} {Q : Value -> Shared -> Prop} {val : Nat -> Int} (hh : A.handled = none) (W : Src prog w l ol T itO n P St)
  (hol : s.heap.get? l = some ol) (hval : ∀ i v, P i v -> ∃ t, v = .int (val i) t) (hb : n + 1 < scanBound)
  (h : ∀ (h' : Heap) (tk : Nat), SI prog w h' s.heap.objs.size (firstMet val n) -> (∀ b o, s.heap.get? b = some o -> h'.get? b = some o) -> Q (.ref s.heap.objs.size) { s with heap := h', toks := tk }) :
  wpAny (model prog w) A (call (.type "set") [.ref l]) Q E s := by
 obtain ⟨c, tl, hmro⟩ := PySem.F.called_set.mro
 have hmade := PySem.F.called_set.made
 have hsub := PySem.F.called_set.sub
 refine wpAny_call (codeAny_of_tree ?_)
 show wpAny _ _ (callAny (.type "set") _) _ _ _
 refine wpAny_pure ⟨Code.quiet_builtin _ (by decide +kernel), codeAny_builtin PySem.F.entry_type_call ?_⟩
 rw [Around.under_plain (weight_type_call_type "set" [.ref l] []) rfl]
 have h1 := PySem.F.called_set.notType
 have h2 := PySem.F.called_set.canCreate
 have hct := PySem.F.typeCall_set_1 (.ref l)
 repeat (any_goals (first | assumption | wp_step))
 refine codeAny_mono (zkq (.ref l) (E := E) (Q := fun obj s₁ => obj = .ref s.heap.objs.size /\ s₁ = { s with heap := s.heap.push (zaO w) }) ⟨rfl, rfl⟩) fun r s₁ hr => ?_
 cases r with
 | error e => exact hr
 | ok fl =>
  cases fl with
  | ret obj =>
   obtain ⟨rfl, rfl⟩ := hr
   have hS : (s.heap.push (zaO w)).get? s.heap.objs.size = some (zaO w) := Heap.get?_push_size _ rfl
   have hT : Shared.TypeIs { s with heap := s.heap.push (zaO w) } (.ref s.heap.objs.size) "set" := ⟨_, hS, rfl⟩
   have hli := PySem.F.called_set.init.lookup
   have hbi := PySem.F.called_set.init.bind (.ref s.heap.objs.size)
   repeat (any_goals (first | assumption | wp_step))
   refine codeAny_mono (codeAny_call_builtin (R := wants (fun r s₂ => r = .none /\ ∃ h' tk, s₂ = { s with heap := h', toks := tk } /\ SI prog w h' s.heap.objs.size (firstMet val n) /\
     (∀ b o, s.heap.get? b = some o -> h'.get? b = some o)) E) PySem.F.called_set.init.plain PySem.F.entry_set_init (check_set_init_1 hT ?_)) fun r₂ s₂ hr₂ => ?_
   ·have hol' : (s.heap.push (zaO w)).get? l = some ol := Heap.get?_push_of_some _ hol
    have hsls := W.s1
    have hslf := W.s2
    have hne := W.nd
    have hTl : Shared.TypeIs { s with heap := s.heap.push (zaO w) } (.ref l) T := ⟨_, hol', W.cls⟩
    unfold Builtin.«set.__init__» noKeywords Builtin.Frozenset.updateFrom
    generalize hPI : pyIter = PI
    wp_walk
    subst hPI
    refine W.iter hol' ?_
    refine wpAny_bind (wpAny_runValue ?_)
    have hlS : l < s.heap.objs.size := Heap.lt_size hol
    have hh3 : A.in1.in1.in1.handled = none := by simp [hh]
    have hneI : l ≠ (s.heap.push (zaO w)).objs.size := by
     rw [Heap.size_push]; exact Nat.ne_of_lt (Nat.lt_succ_of_lt hlS)
    have hSf : s.heap.objs.size ∉ [(s.heap.push (zaO w)).objs.size, l] := by
     rw [Heap.size_push]; simp only [List.mem_cons, List.not_mem_nil, or_false, not_or]
     exact ⟨Nat.ne_of_lt (Nat.lt_succ_self _), Nat.ne_of_gt hlS⟩
    refine ziu ((W.walks _ hh3 hneI).toS) s.heap.objs.size hSf val hval hb n 0 _ (Nat.sub_zero _) (Nat.zero_le _) (W.st0 hol') ?_ fun s' hm hS' => ?_
    ·exact SI.nil _ (Heap.get?_push_of_some _ hS)
    ·obtain ⟨h', g', d', tk', os'⟩ := s'
     have eg : g' = s.gens := hm.gens
     have ed : d' = s.drawn := hm.drawn
     have eo : os' = s.os := hm.os
     subst eg; subst ed; subst eo
     show wpAny _ _ _ _ _ _
     refine wpAny_pure ?_
     show wpAny _ _ (ret Value.none) _ _ _
     refine wpAny_pure ⟨rfl, h', tk', rfl, hS', fun b o e => ?_⟩
     have hb := Heap.lt_size e
     have hb1 : b ≠ s.heap.objs.size := Nat.ne_of_lt hb
     have hb2 : b ≠ (s.heap.push (zaO w)).objs.size := by
      rw [Heap.size_push]; exact Nat.ne_of_lt (Nat.lt_succ_of_lt hb)
     exact hm.heap b o (by simp only [List.mem_cons, List.not_mem_nil, or_false, not_or]; exact ⟨hb1, hb2⟩) (Heap.get?_push_of_some _ (Heap.get?_push_of_some _ e))
   ·cases r₂ with
    | error e => exact hr₂
    | ok fl₂ =>
     cases fl₂ with
     | ret r =>
      obtain ⟨rfl, h', tk, rfl, hS', hk'⟩ := hr₂
      repeat (any_goals (first | assumption | wp_step))
      exact h _ _ hS' hk'
     | _ => exact hr₂.elim
  | _ => exact hr.elim
theorem zig {l : Addr} {ol : Obj} {items : Array Value} {k : Nat} (hc : ol.cls = .type "list") (hd : ol.data = .seq items k) :
  Src prog w l ol "list" { cls := .type "list_iterator", data := .fields #[.ref l, .int 0 0] } items.size (fun i v => items[i]? = some v) (fun I i h => h.IsListIter I l i /\ h.IsList l items) where
 cls := hc
 s1 := PySem.F.sub_list_set
 s2 := PySem.F.sub_list_frozenset
 nd := by decide
 iter := fun e q => wpAny_pyIter_list ⟨_, e, hc, k, hd⟩ q
 walks := fun I hh ne => Walks.list hh I l ne items
 st0 := fun e => ⟨⟨_, Heap.get?_push_size _ rfl, rfl, rfl⟩, ⟨_, Heap.get?_push_of_some _ e, hc, k, hd⟩⟩
theorem zgs {l : Addr} {ol : Obj} {items : Array Value} {k : Nat} (hc : ol.cls = .type "tuple") (hd : ol.data = .seq items k) :
  Src prog w l ol "tuple" { cls := .type "tuple_iterator", data := .fields #[.ref l, .int 0 0] } items.size (fun i v => items[i]? = some v) (fun I i h => h.IsTupleIter I l i /\ h.IsTuple l items) where
 cls := hc
 s1 := PySem.F.sub_tuple_set
 s2 := PySem.F.sub_tuple_frozenset
 nd := by decide
 iter := fun e q => wpAny_pyIter_tuple ⟨_, e, hc, k, hd⟩ q
 walks := fun I hh ne => Walks.tuple hh I l ne items
 st0 := fun e => ⟨⟨_, Heap.get?_push_size _ rfl, rfl, rfl⟩, ⟨_, Heap.get?_push_of_some _ e, hc, k, hd⟩⟩
end
theorem zfm : Manifest.owners.lookup (String.ofList ['r', 'o', 't', 'a', 'r', 'e', 't', 'i', '_', 't', 'e', 's'].reverse) = some Manifest.sig_set_iterator := by kernel_rfl
theorem slot_si_next : Slot "set_iterator" "__next__" "set_iterator.__next__" :=
 .of (owner := "set_iterator") (n := "__next__") (by rw [typeLookup_type, builtinLookup_eq_fast]; kernel_rfl) (by decide +kernel) (by decide +kernel) (by decide +kernel)
  (by first | exact .inl (by decide +kernel) | exact .inr (by decide +kernel)) (by rw [isSubtype_type]; kernel_rfl)
theorem zdu : entryFor table "set_iterator.__next__" = some Builtin.«set_iterator.__next__» := entryFor_of_tree (by kernel_rfl)
theorem zew (a : Value) : argsOk "set_iterator.__next__" ⟨[a], []⟩ := by
 unfold argsOk; rw [signature?_of (id := "set_iterator.__next__") (n := ['_', '_', 't', 'x', 'e', 'n', '_', '_']) (o := ['r', 'o', 't', 'a', 'r', 'e', 't', 'i', '_', 't', 'e', 's']) (by kernel_rfl) zfm]; kernel_rfl
theorem zb8 : Slot "set_iterator" "__iter__" "set_iterator.__iter__" :=
 .of (owner := "set_iterator") (n := "__iter__") (by rw [typeLookup_type, builtinLookup_eq_fast]; kernel_rfl) (by decide +kernel) (by decide +kernel) (by decide +kernel)
  (by first | exact .inl (by decide +kernel) | exact .inr (by decide +kernel)) (by rw [isSubtype_type]; kernel_rfl)
theorem zdv : entryFor table "set_iterator.__iter__" = some Builtin.«dict_keyiterator.__iter__» :=
 entryFor_alias (id' := "dict_keyiterator.__iter__") (by kernel_rfl) (by first | rfl | decide +kernel) (by decide +kernel) (by kernel_rfl)
theorem zex (a : Value) : argsOk "set_iterator.__iter__" ⟨[a], []⟩ := by
 unfold argsOk; rw [signature?_of (id := "set_iterator.__iter__") (n := ['_', '_', 'r', 'e', 't', 'i', '_', '_']) (o := ['r', 'o', 't', 'a', 'r', 'e', 't', 'i', '_', 't', 'e', 's']) (by kernel_rfl) zfm]; kernel_rfl
theorem zcT : entryFor table "set.__iter__" = some Builtin.«frozenset.__iter__» :=
 entryFor_alias (id' := "frozenset.__iter__") (by kernel_rfl) rfl (by decide +kernel) (by kernel_rfl)
theorem zc6 {α : Type} : ∀ (l : List α) (i : Nat) (h : i < l.length), (l[i] :: l.eraseIdx i).Perm l
 | a :: r, 0, _ => .refl _
 | a :: r, i + 1, h => (List.Perm.swap a _ _).trans ((zc6 r i (Nat.lt_of_succ_lt_succ h)).cons a)
theorem zgS {α : Type} (next : Nat -> Nat) : ∀ (f k : Nat) (l : List α) (out : Array α), l.length <= f -> (pickOrder.go next f k l out).toList.Perm (out.toList ++ l)
 | 0, k, l, out, h => by
  have : l = [] := List.length_eq_zero_iff.mp (Nat.le_zero.mp h)
  subst this; rw [List.append_nil]; exact .refl _
 | f + 1, k, l, out, h => by
  show (match l[next k % l.length]? with
   | some x => pickOrder.go next f (k + 1) (l.eraseIdx (next k % l.length)) (out.push x)
   | none => out).toList.Perm _
  cases e : l[next k % l.length]? with
  | none =>
   have : l = [] := by
    cases l with
    | nil => rfl
    | cons a r => exact absurd (List.getElem?_eq_none_iff.mp e) (Nat.not_le.mpr (Nat.mod_lt _ (by simp)))
   subst this; rw [List.append_nil]
  | some x =>
   obtain ⟨lt, ex⟩ := List.getElem?_eq_some_iff.mp e
   refine (zgS next f (k + 1) _ _ (by rw [List.length_eraseIdx_of_lt lt]; exact Nat.sub_le_iff_le_add.mpr h)).trans ?_
   rw [Array.toList_push, List.append_assoc]
   refine List.Perm.append_left _ ?_
   rw [← ex]
   exact zc6 _ _ lt
noncomputable def ordA (w : World) (a : Addr) (ep : Nat) (es : Array (Int × Value)) : Array (Int × Value) := if zaY w = true then pickOrder (w.params.setOrder a ep) es else es
theorem zdh (w : World) (a : Addr) (ep : Nat) (es : Array (Int × Value)) : (ordA w a ep es).toList.Perm es.toList := by
 unfold ordA
 split
 ·exact zgS _ _ _ _ _ (Nat.le_of_eq Array.length_toList)
 ·exact .refl _
noncomputable def zju (h : Heap) (it a : Addr) (slot i n ep : Nat) : Prop := h.get? it = some { cls := .type "set_iterator", data := .fields #[.int slot 0, .int i 0, .ref a, .int n 0, .int ep 0] }
noncomputable abbrev zdQ (w : World) (t : SetTable) (slot i : Nat) : Prop := zaY w = false -> SetTable.below t.place slot = i
section
variable {prog : Program} {w : World} {A : Around} {E : Value -> Shared -> Prop} {s : Shared} {a it : Addr} {l : List Int} {o : Obj} {es : Array (Int × Value)} {ep : Nat} {t : SetTable} {m : Nat}
theorem ziw {Q : Value -> Shared -> Prop} (G : SetG prog w s.heap a l o es ep t m)
  (h : Q (.ref s.heap.objs.size) { s with heap := s.heap.push { cls := .type "set_iterator", data := .fields #[.int (0 : Nat) 0, .int (0 : Nat) 0, .ref a, .int es.size 0, .int ep 0] } }) : wpAny (model prog w) A (pyIter (.ref a)) Q E s := by
 have hT : s.TypeIs (.ref a) "set" := ⟨o, G.at_, G.ex.1⟩
 refine wpAny_pyIter_slot hT PySem.F.slot_set_iter (wpAny_call_entry PySem.F.slot_set_iter hT zcT ?_ (PySem.F.args_set_iter_1 _))
 unfold Builtin.«frozenset.__iter__» Builtin.Frozenset.slot0 slotArgs
 refine wpAny_bind (wpAny_bind (wpAny_pure (wpAny_pure ?_)))
 unfold Builtin.Frozenset.sizeOf
 refine wpAny_bind (wpAny_bind (wpAny_setEntries_of G.at_ G.data G.fits (wpAny_pure ?_)))
 unfold setDrawn
 refine wpAny_bind (wpAny_bind (wpAny_setState_of G.at_ G.data G.fits ?_))
 unfold setsByText
 refine wpAny_bind (wpAny_bind (wpAny_askSetting (wpAny_pure (wpAny_pure ?_))))
 have pl : (!zaY w && (!t.plain && decide (es.size > 1))) = false := by rw [G.tab.plain]; cases zaY w <;> rfl
 show wpAny _ _ (if (!zaY w && (!t.plain && decide (es.size > 1))) = true then _ else (pure (rawInt 0) >>= _)) _ _ _
 rw [if_neg (by rw [pl]; exact Bool.false_ne_true)]
 refine wpAny_bind (wpAny_pure ?_)
 unfold setEpoch
 refine wpAny_bind (wpAny_bind (wpAny_setState_of G.at_ G.data G.fits (wpAny_pure ?_)))
 exact wpAny_bind (wpAny_newObj_type (wpAny_pure ⟨_, rfl, "set_iterator", _, ⟨_, Heap.get?_push_size _ rfl, rfl⟩, slot_si_next.lookup, h⟩))
theorem zit {slot i n : Nat} {Q : Value -> Shared -> Prop} (H : zju s.heap it a slot i n ep) (h : Q (.ref it) s) : wpAny (model prog w) A (pyIter (.ref it)) Q E s := by
 have hT : s.TypeIs (.ref it) "set_iterator" := ⟨_, H, rfl⟩
 refine wpAny_pyIter_slot hT zb8 (wpAny_call_entry zb8 hT zdv ?_ (zex _))
 exact wpAny_pure ⟨_, rfl, "set_iterator", _, hT, slot_si_next.lookup, h⟩
theorem zgD (G : SetG prog w s.heap a l o es ep t m) {slot i : Nat} (hs : zdQ w t slot i) {Q : Option (Value × Nat) -> Shared -> Prop}
  (h : ∀ r, (∀ x nx, r = some (x, nx) -> ∃ e, (ordA w a ep es)[i]? = some e /\ x = e.2 /\ zdQ w t nx (i + 1)) -> (r = none -> es.size <= i) -> Q r s) : wpAny (model prog w) A (setNext a slot i ep) Q E s := by
 unfold setNext
 refine wpAny_bind (wpAny_setState_of G.at_ G.data G.fits ?_)
 unfold setsByText
 refine wpAny_bind (wpAny_bind (wpAny_askSetting (wpAny_pure ?_)))
 dsimp only
 have sz : (ordA w a ep es).size = es.size := by rw [← Array.length_toList, (zdh w a ep es).length_eq, Array.length_toList]
 by_cases q : zaY w = true
 ·show wpAny _ _ (if zaY w = true then _ else _) _ _ _
  rw [if_pos q]
  show wpAny _ _ (if (ep != ep) = true then _ else _) _ _ _
  rw [if_neg (by simp)]
  unfold setWalk
  refine wpAny_bind (wpAny_bind (wpAny_setState_of G.at_ G.data G.fits ?_))
  unfold setsByText
  refine wpAny_bind (wpAny_bind (wpAny_askSetting (wpAny_pure ?_)))
  show wpAny _ _ (if zaY w = true then _ else _) _ _ _
  rw [if_pos q]
  refine wpAny_bind (wpAny_askSetting (wpAny_pure (wpAny_pure (h _ (fun x nx e => ?_) fun e => ?_))))
  ·obtain ⟨e1, h1, h2⟩ := Option.map_eq_some_iff.mp e
   cases h2
   exact ⟨e1, by unfold ordA; rw [if_pos q]; exact h1, rfl, fun z => by rw [q] at z; cases z⟩
  ·have := Option.map_eq_none_iff.mp e
   have : (ordA w a ep es)[i]? = none := by unfold ordA; rw [if_pos q]; exact this
   rw [← sz]; exact Array.getElem?_eq_none_iff.mp this
 ·have q : zaY w = false := by cases z : zaY w with | true => exact absurd z q | false => rfl
  show wpAny _ _ (if zaY w = true then _ else _) _ _ _
  rw [if_neg (by rw [q]; exact Bool.false_ne_true)]
  show wpAny _ _ (if (!t.plain && decide (es.size > 1)) = true then _ else _) _ _ _
  rw [if_neg (by rw [G.tab.plain]; exact Bool.false_ne_true)]
  show wpAny _ _ ((if (!t.led && !es.isEmpty) = true then _ else pure ()) >>= _) _ _ _
  rw [G.led, q, if_neg (by exact Bool.false_ne_true)]
  refine wpAny_bind (wpAny_pure ?_)
  rw [hs q]
  have oe : ordA w a ep es = es := by unfold ordA; rw [if_neg (by rw [q]; exact Bool.false_ne_true)]
  have hp : t.place[i]? = (plL m)[i]? := by rw [G.tab.place]; exact List.getElem?_toArray
  cases e1 : es[i]? with
  | none => exact wpAny_pure (h _ (fun x nx e => nomatch e) fun _ => Array.getElem?_eq_none_iff.mp e1)
  | some e =>
   have lt : i < (plL m).length := by rw [G.cnt]; exact (Array.getElem?_eq_some_iff.mp e1).1
   have e2 : t.place[i]? = some ((plL m)[i]) := hp.trans (List.getElem?_eq_getElem lt)
   rw [e2]
   refine wpAny_pure (h _ (fun x nx z => ?_) fun z => nomatch z)
   cases z
   refine ⟨e, by rw [oe]; exact e1, rfl, fun _ => ?_⟩
   rw [G.tab.place]
   have := zkw m (Nat.lt_trans G.tab.lt (by decide)) i lt
   rw [List.getD_eq_getElem?_getD, List.getElem?_eq_getElem lt] at this
   exact this
end
section
variable {prog : Program} {w : World} {A : Around} {E : Value -> Shared -> Prop} {s : Shared} {a it : Addr} {l : List Int} {o : Obj} {es : Array (Int × Value)} {ep : Nat} {t : SetTable} {m : Nat}
theorem SetG.at' {h h' : Heap} (G : SetG prog w h a l o es ep t m) (e : ∀ o, h.get? a = some o -> h'.get? a = some o) : SetG prog w h' a l o es ep t m := { G with at_ := e _ G.at_ }
theorem zcV (hh : A.handled = none) (G : SetG prog w s.heap a l o es ep t m) {slot i : Nat} (H : zju s.heap it a slot i es.size ep) (hs : zdQ w t slot i) {Q : Option Value -> Shared -> Prop}
  (hi : ∀ e h' nx, (ordA w a ep es)[i]? = some e -> zdQ w t nx (i + 1) -> zju h' it a nx (i + 1) es.size ep -> Heap.ExtBut it s.heap h' -> Q (some e.2) { s with heap := h' })
  (hd : es.size <= i -> ∀ h', Heap.ExtBut it s.heap h' -> Q none { s with heap := h' }) : wpAny (model prog w) A (pyNext (.ref it)) Q E s := by
 have hT : s.TypeIs (.ref it) "set_iterator" := ⟨_, H, rfl⟩
 unfold pyNext
 refine wpAny_bind (wpAny_attempt (wpAny_callSpecial?_slot (name := Str.ofString "__next__") hT slot_si_next (wpAny_call_entry slot_si_next hT zdu ?_ (zew _))))
 unfold Builtin.«set_iterator.__next__» slotArgs
 refine wpAny_bind (wpAny_pure ?_)
 refine wpAny_bind (wpAny_fieldsOf H rfl ?_)
 refine wpAny_bind (wpAny_setEntries_of G.at_ G.data G.fits ?_)
 rw [if_neg (by simp)]
 simp only [Int.toNat_natCast]
 refine wpAny_bind (zgD G hs fun r hr hn => ?_)
 cases r with
 | some p =>
  obtain ⟨x, nx⟩ := p
  obtain ⟨e, h1, h2, h3⟩ := hr x nx rfl
  subst h2
  dsimp only
  refine wpAny_bind (wpAny_setField H rfl (by simp) ?_)
  have H1 := Heap.get?_update_self (Obj.mapFields (·.setIfInBounds 0 (rawInt (nx : Int)))) H rfl
  refine wpAny_bind (wpAny_setField H1 rfl (by simp) ?_)
  have H2 := Heap.get?_update_self (Obj.mapFields (·.setIfInBounds 1 (rawInt ((i : Int) + 1)))) H1 rfl
  refine wpAny_pure ⟨_, rfl, ?_⟩
  exact wpAny_pure (hi e _ nx h1 h3 H2 (((Heap.SameBut.update s.heap it _).trans (Heap.SameBut.update _ it _)).extBut))
 | none =>
  dsimp only
  refine wpAny_bind (wpAny_setField H rfl (by simp) ?_)
  show wpAny _ _ (newExc (.type "StopIteration") [] >>= _) _ _ _
  refine wpAny_bind ?_
  simp only [newExc, newTuple]
  refine wpAny_bind (wpAny_newObj_type ?_ (by size_fits))
  refine wpAny_bind (m := firstArgMember _ _) (wpAny_of_eq (a := Value.none) (by first | rfl | (simp only [firstArgMember]; rfl)) ?_)
  refine wpAny_newObj_type ?_ (by size_fits)
  simp only [raiseNew]
  refine wpAny_bind (wpAny_handled ?_)
  rw [show A.in1.handled = none from hh]
  refine wpAny_bind (wpAny_pure (wpAny_throw ?_))
  refine wpAny_bind (wpAny_isInstance (T := "StopIteration") (b := true) ⟨_, Heap.get?_push_size _ rfl, rfl⟩ isSubtype_stop ?_)
  exact wpAny_pure (hd (hn rfl) _ (((Heap.SameBut.update ..).extBut.push _).push _))
theorem zfn (w : World) (a : Addr) (ep : Nat) (es : Array (Int × Value)) : (ordA w a ep es).size = es.size := by
 rw [← Array.length_toList, (zdh w a ep es).length_eq, Array.length_toList]
theorem zgf (hh : A.handled = none) (I : Addr) (hne : a ≠ I) : Walks prog w A I [I, a] [I] es.size (fun i v => ∃ e, (ordA w a ep es)[i]? = some e /\ v = e.2)
  (fun i h => (∃ slot, zju h I a slot i es.size ep /\ zdQ w t slot i) /\ SetG prog w h a l o es ep t m) where
 sub := fun b hb => by simp at hb; simp [hb]
 frame := fun _ _ _ st hk => by
  obtain ⟨⟨slot, h1, h2⟩, G⟩ := st
  exact ⟨⟨slot, hk I (by simp) _ h1, h2⟩, G.at' fun o e => hk a (by simp) o e⟩
 item := fun i s Q E hi st hQ => by
  obtain ⟨⟨slot, h1, h2⟩, G⟩ := st
  refine zcV hh G h1 h2 (fun e h' nx q1 q2 q3 q4 => ?_) fun q => absurd hi (Nat.not_lt.mpr q)
  exact hQ _ h' s.toks ⟨e, q1, rfl⟩ ⟨⟨nx, q3, q2⟩, G.at' fun o e => q4 a o hne e⟩ fun b o hb e => q4 b o (fun h => hb (by simp [h])) e
 done := fun s Q E st hQ => by
  obtain ⟨⟨slot, h1, h2⟩, G⟩ := st
  refine zcV hh G h1 h2 (fun e h' nx q1 q2 q3 q4 => ?_) fun q h' q4 => ?_
  ·have := (Array.getElem?_eq_some_iff.mp q1).1
   rw [zfn] at this
   exact absurd this (Nat.lt_irrefl _)
  ·exact hQ h' s.toks fun b o hb e => q4 b o (fun h => hb (by simp [h])) e
 self := fun _ _ _ _ st hQ => by
  obtain ⟨⟨slot, h1, h2⟩, G⟩ := st
  exact zit h1 hQ
end
noncomputable abbrev Kept (s : Shared) (h' : Heap) : Prop := ∀ b o, s.heap.get? b = some o -> h'.get? b = some o
section
variable {prog : Program} {w : World} {A : Around} {E : Value -> Shared -> Prop} {s : Shared} {a it : Addr} {l : List Int} {o : Obj} {es : Array (Int × Value)} {ep : Nat} {t : SetTable} {m : Nat}
theorem ziy (G : SetG prog w s.heap a l o es ep t m) {Q : Bool -> Shared -> Prop} (h : Q false s) : wpAny (model prog w) A (Builtin.List.listLengthHint (.ref a)) Q E s := by
 have hT : s.TypeIs (.ref a) "set" := ⟨o, G.at_, G.ex.1⟩
 unfold Builtin.List.listLengthHint
 refine wpAny_bind (wpAny_specialOf hT PySem.F.slot_set_len.lookup ?_)
 have sp : splitId "set.__len__" = some ("set", "__len__") := by decide +kernel
 dsimp only
 rw [sp]
 dsimp only
 refine wpAny_bind (wpAny_isInstance hT sub_set_self ?_)
 simp only [Bool.not_true, Bool.false_eq_true, if_false]
 refine wpAny_bind (m := typeOf (.ref a)) (wpAny_typeOf hT ?_)
 exact wpAny_pure h
theorem ze0 (hh : A.handled = none) (G : SetG prog w s.heap a l o es ep t m) {Q : List Value -> Shared -> Prop}
  (h : ∀ h' tk, Kept s h' -> Q ((ordA w a ep es).toList.map (·.2)) { s with heap := h', toks := tk }) : wpAny (model prog w) A (collect (.ref a)) Q E s := by
 have hlt : a < s.heap.objs.size := Heap.lt_size G.at_
 unfold collect
 refine wpAny_bind (wpAny_runValue (codeAny_builtin PySem.F.entry_proto_collect ?_))
 rw [Around.under_plainId PySem.F.plain_proto_collect _]
 show wpAny _ A.in1 (newList [] >>= fun l => again (.builtin "list.__iadd__" ⟨[l, .ref a], []⟩)) _ _ s
 refine wpAny_bind (wpAny_newObj_type ?_)
 refine wpAny_pure ⟨plainId_quiet PySem.F.plain_list_iadd _, codeAny_builtin PySem.F.entry_list_iadd ?_⟩
 rw [Around.under_plainId PySem.F.plain_list_iadd _]
 have G1 : SetG prog w (s.heap.push { cls := .type "list", data := .seq ([] : List Value).toArray }) a l o es ep t m := G.at' fun o e => Heap.get?_push_of_some _ e
 show wpAny _ A.in1 (Builtin.List.listExtendWith (.ref s.heap.objs.size) (.ref a) (.ref s.heap.objs.size)) _ _ _
 unfold Builtin.List.listExtendWith
 refine wpAny_bind (wpAny_typeOf (T := "set") ⟨o, G1.at_, G.ex.1⟩ ?_)
 have h1 : Builtin.List.listSameRef (.ref s.heap.objs.size) (.ref a) = false := by
  show (s.heap.objs.size == a) = false
  rw [beq_eq_false_iff_ne]; exact Nat.ne_of_gt hlt
 have h2 : (Value.type "set" == Value.type "list") = false := by decide
 have h3 : (Value.type "set" == Value.type "tuple") = false := by decide
 simp only [h1, h2, h3, Bool.or_false, Bool.false_eq_true, if_false]
 refine wpAny_bind (ziw (s := { s with heap := s.heap.push { cls := .type "list", data := .seq ([] : List Value).toArray } }) G1 ?_)
 refine wpAny_bind (wpAny_holding (ziy (s := { s with heap := (s.heap.push { cls := .type "list", data := .seq ([] : List Value).toArray }).push _ }) (G1.at' fun o e => Heap.get?_push_of_some _ e) ?_))
 show wpAny _ A.in1 (rule "list.extend.makes-room" >>= fun _ => Builtin.List.listTouch (.ref s.heap.objs.size) >>= fun _ =>
  again (.builtin "list.extend.loop" ⟨[.ref s.heap.objs.size, .ref (s.heap.push { cls := .type "list", data := .seq ([] : List Value).toArray }).objs.size, .ref s.heap.objs.size], []⟩)) _ _ _
 refine wpAny_bind (wpAny_rule ?_)
 generalize hI : (s.heap.push { cls := .type "list", data := .seq ([] : List Value).toArray }).objs.size = I
 have eI : I = s.heap.objs.size + 1 := by rw [← hI, Heap.size_push]
 have hS0 : (s.heap.push { cls := .type "list", data := .seq ([] : List Value).toArray }).get? s.heap.objs.size = some { cls := .type "list", data := .seq ([] : List Value).toArray } := Heap.get?_push_size _ rfl
 generalize hH : (s.heap.push { cls := .type "list", data := .seq ([] : List Value).toArray }) = H at hS0 G1 hI
 have kH : ∀ b o, s.heap.get? b = some o -> H.get? b = some o := fun b o e => by rw [← hH]; exact Heap.get?_push_of_some _ e
 have hS1 : (H.push { cls := .type "set_iterator", data := .fields #[.int (0 : Nat) 0, .int (0 : Nat) 0, .ref a, .int es.size 0, .int ep 0] }).get? s.heap.objs.size = some { cls := .type "list", data := .seq ([] : List Value).toArray } := Heap.get?_push_of_some _ hS0
 have hI1 : (H.push { cls := .type "set_iterator", data := .fields #[.int (0 : Nat) 0, .int (0 : Nat) 0, .ref a, .int es.size 0, .int ep 0] }).get? I = some { cls := .type "set_iterator", data := .fields #[.int (0 : Nat) 0, .int (0 : Nat) 0, .ref a, .int es.size 0, .int ep 0] } := by rw [← hI]; exact Heap.get?_push_size _ rfl
 have kH1 : ∀ b o, s.heap.get? b = some o -> (H.push { cls := .type "set_iterator", data := .fields #[.int (0 : Nat) 0, .int (0 : Nat) 0, .ref a, .int es.size 0, .int ep 0] }).get? b = some o := fun b o e => Heap.get?_push_of_some _ (kH b o e)
 generalize (H.push { cls := .type "set_iterator", data := .fields #[.int (0 : Nat) 0, .int (0 : Nat) 0, .ref a, .int es.size 0, .int ep 0] }) = H1 at hS1 hI1 kH1
 refine wpAny_bind ?_
 show wpAny _ A.in1 (updateSeq s.heap.objs.size (·.push .none) >>= fun _ => updateSeq s.heap.objs.size (·.pop)) _ _ _
 refine wpAny_bind (wpAny_updateSeq hS1 rfl ?_)
 have hS2 := Heap.get?_update_self (Obj.mapSeq (·.push Value.none)) hS1 rfl
 refine wpAny_updateSeq hS2 rfl ?_
 have hS3 := Heap.get?_update_self (Obj.mapSeq (·.pop)) hS2 rfl
 have oth : ∀ b o, b ≠ s.heap.objs.size -> H1.get? b = some o -> ((H1.update s.heap.objs.size (Obj.mapSeq (·.push Value.none))).update s.heap.objs.size (Obj.mapSeq (·.pop))).get? b = some o :=
  fun b o hb e => (Heap.get?_update_other _ _ (Ne.symm hb)).trans ((Heap.get?_update_other _ _ (Ne.symm hb)).trans e)
 have nSI : s.heap.objs.size ≠ I := by rw [eI]; exact Nat.ne_of_lt (Nat.lt_succ_self _)
 have nIa : a ≠ I := by rw [eI]; exact Nat.ne_of_lt (Nat.lt_succ_of_lt hlt)
 have nSa : s.heap.objs.size ≠ a := Nat.ne_of_gt hlt
 have W := (zgf (prog := prog) (w := w) (A := A.in1) (l := l) (o := o) (es := es) (ep := ep) (t := t) (m := m) (a := a) hh I nIa).toS
 refine wpAny_pure ⟨plainId_quiet PySem.F.plain_extend_loop _, codeAny_extend_loopS W (by have := G.small; rw [sizeLine_eq]; omega) s.heap.objs.size (by simp only [List.mem_cons, List.not_mem_nil, or_false, not_or]; exact ⟨nSI, nSa⟩) (.ref s.heap.objs.size) es.size 0 _ _ _ (Nat.sub_zero _) (Nat.zero_le _) ?_ hS3 (ItemsOf.nil _) fun s' acc' c' hm hS' hacc => ?_⟩
 ·exact ⟨⟨0, oth I _ nSI.symm hI1, fun _ => by rw [G.tab.place]; exact zkv m (Nat.lt_trans G.tab.lt (by decide))⟩, G.at' fun o e => oth a o nSa.symm (kH1 a o e)⟩
 ·show wpAny _ A (load s.heap.objs.size >>= _) _ _ s'
  refine wpAny_bind (wpAny_load hS' ?_)
  obtain ⟨h', g', d', tk', os'⟩ := s'
  have eg : g' = s.gens := hm.gens
  have ed : d' = s.drawn := hm.drawn
  have eo : os' = s.os := hm.os
  subst eg; subst ed; subst eo
  have ea : acc'.toList = (ordA w a ep es).toList.map (·.2) := by
   refine List.ext_getElem? fun j => ?_
   obtain ⟨z1, z2⟩ := hacc
   rw [List.getElem?_map]
   cases q : acc'.toList[j]? with
   | some v =>
    obtain ⟨e, q1, q2⟩ := z2 j v (by rw [← Array.getElem?_toList]; exact q)
    rw [Array.getElem?_toList, q1, q2]; rfl
   | none =>
    have := List.getElem?_eq_none_iff.mp q
    rw [Array.length_toList, z1] at this
    rw [List.getElem?_eq_none (by rw [Array.length_toList, zfn]; exact this)]; rfl
  show wpAny _ _ (pure acc'.toList) _ _ _
  rw [ea]
  refine wpAny_pure (h h' tk' fun b o e => ?_)
  have lt := Heap.lt_size e
  exact hm.heap b o (by simp only [List.mem_cons, List.not_mem_nil, or_false, not_or]; exact ⟨Nat.ne_of_lt lt, by rw [eI]; exact Nat.ne_of_lt (Nat.lt_succ_of_lt lt)⟩) (oth b o (Nat.ne_of_lt lt) (kH1 b o e))
end
section
variable {prog : Program} {w : World} {A : Around} {E : Value -> Shared -> Prop} {s : Shared}
theorem zcL {T : String} {b : Addr} {ob : Obj} {vs : List Value} {n : Nat} (hT : T = "list" \/ T = "tuple") (ho : s.heap.get? b = some ob) (hc : ob.cls = .type T) (hd : ob.data = .seq vs.toArray n) (hz : vs.length <= sizeLine) {Q : List Value -> Shared -> Prop}
  (h : ∀ h' tk, Kept s h' -> Q vs { s with heap := h', toks := tk }) : wpAny (model prog w) A (collect (.ref b)) Q E s := by
 have lt := Heap.lt_size ho
 unfold collect
 refine wpAny_bind (wpAny_runValue (codeAny_builtin PySem.F.entry_proto_collect ?_))
 show wpAny _ _ (do again (.builtin "list.__iadd__" ⟨[← newList [], .ref b], []⟩)) _ _ s
 refine wpAny_bind (wpAny_newList (wpAny_pure ⟨Code.quiet_builtin _ (by decide +kernel), codeAny_builtin PySem.F.entry_list_iadd ?_⟩))
 show wpAny _ _ (Builtin.List.listExtendWith (.ref s.heap.objs.size) (.ref b) (.ref s.heap.objs.size)) _ _ { s with heap := s.heap.push (seqObj "list" #[] 0) }
 unfold Builtin.List.listExtendWith
 have ho' : (s.heap.push (seqObj "list" #[] 0)).get? b = some ob := Heap.get?_push_of_some _ ho
 refine wpAny_bind (wpAny_typeOf (T := T) ⟨ob, ho', hc⟩ ?_)
 have ht : ((Builtin.List.listSameRef (.ref s.heap.objs.size) (.ref b) || Value.type T == .type "list") || Value.type T == .type "tuple") = true := by
  rcases hT with rfl | rfl
  ·rw [show (Value.type "list" == .type "list") = true from rfl, Bool.or_true]; rfl
  ·rw [show (Value.type "tuple" == .type "tuple") = true from rfl, Bool.or_true]
 rw [if_pos ht]
 refine wpAny_bind (listItems_at ho' hd ?_)
 refine wpAny_bind (listItems_at (xs := #[]) (n := 0) (Heap.get?_push_size _ rfl) rfl ?_)
 rw [if_neg (by simp)]
 refine wpAny_bind (listUpdate_at (xs := #[]) (n := 0) (Heap.get?_push_size _ rfl) rfl ?_ (Nat.zero_le _) (by show (#[] ++ vs.toArray).size <= sizeLine + 1; simp only [Array.size_append, List.size_toArray, List.length_nil]; omega))
 refine wpAny_pure ?_
 show wpAny (model prog w) A (load s.heap.objs.size >>= _) Q E { s with heap := (s.heap.push (seqObj "list" #[] 0)).update s.heap.objs.size (Obj.mapSeq (· ++ vs.toArray)) }
 refine wpAny_bind (wpAny_load (get?_update_seq (Heap.get?_push_size _ rfl) _) ?_)
 show wpAny _ _ (pure ((#[] : Array Value) ++ vs.toArray).toList) Q E _
 rw [show ((#[] : Array Value) ++ vs.toArray).toList = vs by simp]
 refine wpAny_pure (h _ s.toks fun c o e => ?_)
 have lc := Heap.lt_size e
 rw [Heap.get?_update_ne _ _ _ _ (Nat.ne_of_lt lc)]
 exact Heap.get?_push_of_some _ e
theorem zgu {src : Value} {vs : List Value} {ns : List Int} {Q : Value -> Shared -> Prop} (hh : A.handled = none)
  (col : ∀ {A' : Around} {Q' : List Value -> Shared -> Prop} {E' : Value -> Shared -> Prop}, A'.handled = none -> (∀ h' tk, Kept s h' -> Q' vs { s with heap := h', toks := tk }) -> wpAny (model prog w) A' (collect src) Q' E' s)
  (hI : IntsAre vs ns) (h64 : vs.length < 64)
  (h : ∀ (h' : Heap) (tk : Nat) (b : Addr) (out : Array Value) (e : Nat) (ns' : List Int), h'.get? b = some (seqObj "list" out e) -> s.heap.get? b = none -> Kept s h' -> IntsAre out.toList ns' -> ns'.Perm ns -> ns'.Pairwise (· <= ·) -> Q (.ref b) { s with heap := h', toks := tk }) :
  wpAny (model prog w) A (call (.builtin "sorted") [src]) Q E s := by
 refine Calls.call_function_entry kind_sorted plain_sorted entry_sorted (args_sorted1 _) ?_
 unfold Builtin.«sorted»
 refine wpAny_bind (m := checkCount "sorted" 1 1 _) (wpAny_pure ?_)
 refine wpAny_bind (col hh fun h1 tk kp => ?_)
 refine wpAny_bind (wpAny_newList ?_)
 have hoL : (h1.push (seqObj "list" vs.toArray 0)).get? h1.objs.size = some (seqObj "list" vs.toArray 0) := Heap.get?_push_size _ rfl
 show wpAny _ _ _ _ _ { s with heap := h1.push (seqObj "list" vs.toArray 0), toks := tk }
 refine wpAny_bind (wpAny_holding (wpAny_call_entry slot_list_sort ⟨_, hoL, rfl⟩ entry_list_sort (list_sort_tree hoL hI h64 fun out ns' a1 a2 a3 => ⟨_, rfl, ?_⟩) (args_list_sort _)))
 have old : ∀ b o, h1.get? b = some o -> (sortedHeap (h1.push (seqObj "list" vs.toArray 0)) h1.objs.size vs out).get? b = some o := fun b o e => by
  have lb := Heap.lt_size e
  rw [sortedHeap_old (Nat.ne_of_lt lb) (by rw [size_push']; exact Nat.lt_succ_of_lt lb)]
  exact Heap.get?_push_of_some _ e
 obtain ⟨e, he⟩ := sortedHeap_at (out := out) hoL
 refine wpAny_pure ⟨_, rfl, h _ tk h1.objs.size out e ns' he ?_ (fun b o q => old b o (kp b o q)) a1 a2 a3⟩
 cases q : s.heap.get? h1.objs.size with
 | none => rfl
 | some o => exact absurd (Heap.lt_size (kp _ _ q)) (Nat.lt_irrefl _)
end
section
variable {prog : Program} {w : World} {A : Around} {E : Value -> Shared -> Prop} {s : Shared}
theorem zdz {r : Addr} {a b : Int} {t u v : Tok} {n : Nat} (hh : A.handled = none) (hr : IsRange s.heap r a b 1 t u v) (hsmall : Builtin.Range.small a b 1 = true) (hn : Builtin.Range.rangeSize a b 1 = n) (hlen : n <= 2 ^ 24) {Q : List Value -> Shared -> Prop}
  (h : ∀ h' tk acc, Kept s h' -> ItemsOf (fun i v => ∃ t, v = Value.int (a + i * 1) t) acc n -> Q acc.toList { s with heap := h', toks := tk }) : wpAny (model prog w) A (collect (.ref r)) Q E s := by
 unfold collect
 refine wpAny_bind (wpAny_runValue (codeAny_builtin PySem.F.entry_proto_collect ?_))
 rw [Around.under_plainId PySem.F.plain_proto_collect _]
 show wpAny _ A.in1 (newList [] >>= fun l => again (.builtin "list.__iadd__" ⟨[l, .ref r], []⟩)) _ _ s
 refine wpAny_bind (wpAny_newObj_type ?_)
 refine wpAny_pure ⟨plainId_quiet PySem.F.plain_list_iadd _, codeAny_builtin PySem.F.entry_list_iadd ?_⟩
 rw [Around.under_plainId PySem.F.plain_list_iadd _]
 have hS : (s.heap.push { cls := .type "list", data := .seq #[] }).get? s.heap.objs.size = some { cls := .type "list", data := .seq #[] } := Heap.get?_push_size _ rfl
 generalize hR : (fun (r : Result) (s' : Shared) => (match r with
  | .ok (.ret v) => wpAny (model prog w) A (match v with
   | .ref a => do match (← load a).data with
    | .seq xs _ => pure xs.toList
    | _ => unsupported "internal:collect"
   | _ => unsupported "internal:collect") Q E s'
  | .ok _ => False
  | .error e => E e s' : Prop)) = R
 have go : ∀ h' tk (acc : Array Value) c', h'.get? s.heap.objs.size = some { cls := .type "list", dict := none, data := .seq acc c', slots := #[] } -> Kept s h' -> ItemsOf (fun i v => ∃ t, v = Value.int (a + i * 1) t) acc n -> R (.ok (.ret (.ref s.heap.objs.size))) { s with heap := h', toks := tk } := fun h' tk acc c' hS' kp hacc => by
  rw [← hR]
  show wpAny _ A (load s.heap.objs.size >>= _) _ _ _
  refine wpAny_bind (wpAny_load hS' ?_)
  exact wpAny_pure (h h' tk acc kp hacc)
 refine wpAny_mono (PySem.wpAny_extend_range (R := R) (s := { s with heap := s.heap.push { cls := .type "list", data := .seq #[] } }) hh (Heap.get?_push_of_some _ hr) hsmall hn hlen s.heap.objs.size (.ref s.heap.objs.size) _ hS fun h' tk acc c' hk hS' hacc => go h' tk acc c' hS' (fun b o e => hk b o (Nat.ne_of_lt (Heap.lt_size e)) (Heap.get?_push_of_some _ e)) hacc) (fun fin s' q => ?_) fun e s' q => by rw [← hR] at q; exact q
 cases fin with
 | done f => rw [← hR] at q; exact q
 | again c' => exact q
theorem zbX (r : Addr) {a b : Int} {n : Nat} (hsmall : Builtin.Range.small a b 1 = true) (hn : Builtin.Range.rangeSize a b 1 = n) (hlen : n <= 2 ^ 24) :
  Meets (Builtin.«tuple.__new__» ⟨[.type "tuple", .ref r], []⟩)
   (fun A R s => A.handled = none /\ (∃ t u v, IsRange s.heap r a b 1 t u v) /\ ∀ (h' : Heap) tk (acc : Array Value), Kept s h' -> ItemsOf (fun i v => ∃ t, v = Value.int (a + i * 1) t) acc n ->
    R (.ok (.ret (.ref h'.objs.size))) { s with heap := h'.push { cls := .type "tuple", data := .seq acc }, toks := tk }) :=
 .of_wp fun prog w A R s h => by
  obtain ⟨hh, ⟨t, u, v, hr⟩, h⟩ := h
  have hsub := sub_tuple_self
  have hinit := init_tuple_lookup
  have hmh := madeHere_tuple
  have hT : s.TypeIs (.ref r) "range" := ⟨_, hr, rfl⟩
  have hh1 : A.in1.handled = none := hh
  wp_walk using wpAny_typeOf hT, zdz hh1 hr hsmall hn hlen
  intro h' tk acc hk hacc
  show wpAny _ _ (Builtin.Tuple.tupleExact acc.toList.toArray >>= fun v => ret v) _ _ _
  unfold Builtin.Tuple.tupleExact
  refine wpAny_bind (wpAny_newObj_type ?_ (show acc.toList.toArray.size <= sizeLine by simp only [Array.toArray_toList]; rw [hacc.1, sizeLine_eq]; omega))
  refine wpAny_pure ⟨_, rfl, ?_⟩
  have e : acc.toList.toArray = acc := by simp
  rw [e]
  exact h h' tk acc hk hacc
theorem zeB {r : Addr} {a b : Int} {t u v : Tok} {n : Nat} {Q : Value -> Shared -> Prop} (hh : A.handled = none) (hr : IsRange s.heap r a b 1 t u v) (hsmall : Builtin.Range.small a b 1 = true) (hn : Builtin.Range.rangeSize a b 1 = n) (hlen : n <= 2 ^ 24)
  (h : ∀ h' tk acc, Kept s h' -> ItemsOf (fun i v => ∃ t, v = Value.int (a + i * 1) t) acc n -> Q (.ref h'.objs.size) { s with heap := h'.push { cls := .type "tuple", data := .seq acc }, toks := tk }) :
  wpAny (model prog w) A (call (.type "tuple") [.ref r]) Q E s := by
 refine callType_new PySem.F.called_tuple (by decide) (PySem.F.typeCall_tuple_1 _) (PySem.F.newCall_tuple_1 _) (fun obj => PySem.F.args_object_init_2 obj _) PySem.F.entry_tuple_new
  (zbX r hsmall hn hlen) ⟨hh, ⟨t, u, v, hr⟩, fun h' tk acc hk hacc => ⟨⟨_, Heap.get?_push_size _ rfl, rfl⟩, h h' tk acc hk hacc⟩⟩
end
theorem zcD (i : Int) : ∀ l : List Int, (insI i l).Perm (i :: l)
 | [] => .refl _
 | j :: r => by
  unfold insI
  split
  ·exact .refl _
  ·exact ((zcD i r).cons j).trans (.swap _ _ _)
theorem zcU : ∀ l : List Int, (zdM l).Perm l
 | [] => .refl _
 | i :: r => (zcD i _).trans ((zcU r).cons i)
theorem zcC (i : Int) : ∀ l : List Int, l.Pairwise (· <= ·) -> (insI i l).Pairwise (· <= ·)
 | [], _ => List.pairwise_cons.mpr ⟨fun _ h => (nomatch h), .nil⟩
 | j :: r, h => by
  obtain ⟨h1, h2⟩ := List.pairwise_cons.mp h
  unfold insI
  by_cases q : i <= j
  ·rw [if_pos q]
   exact List.pairwise_cons.mpr ⟨fun k hk => by rcases List.mem_cons.mp hk with rfl | hk; exact q; exact Int.le_trans q (h1 k hk), h⟩
  ·rw [if_neg q]
   refine List.pairwise_cons.mpr ⟨fun k hk => ?_, zcC i r h2⟩
   rcases List.mem_cons.mp ((zcD i r).mem_iff.mp hk) with rfl | hk
   ·exact Int.le_of_lt (Int.not_le.mp q)
   ·exact h1 k hk
theorem zb7 : ∀ l : List Int, (zdM l).Pairwise (· <= ·)
 | [] => .nil
 | i :: r => zcC i _ (zb7 r)
end Mine.Lake
namespace Mine.Lake
open PySem PySem.W PyProof.Rows PySem.Calls PySem.SeqAt
theorem zbo {pos : Pos} {ev : Env} : ∀ {es : List PySem.Expr}, es.all (fun e => !zap e) = true -> (backTo pos (starEach es ev)).any (·.1) = false
 | [], _ => rfl
 | e :: r, h => by
  rw [List.all_cons, Bool.and_eq_true] at h
  have ih := zbo (pos := pos) (ev := ev) h.2
  have he : starEach (e :: r) ev = (false, eval e ev) :: starEach r ev := by
   cases e <;> first | rfl | exact absurd h.1 Bool.noConfusion
  rw [he]
  show (false || (backTo pos (starEach r ev)).any (·.1)) = false
  rw [ih]; rfl
theorem zdL {e : PySem.Expr} {r : List PySem.Expr} {ev : Env} (h : zap e = false) : starEach (e :: r) ev = (false, eval e ev) :: starEach r ev := by
 cases e <;> first | rfl | exact absurd h Bool.noConfusion
section
variable {S : Sta} {G : zaa} {nd : Nat} {hd : Bool} {cx : Cx}
theorem zaD {A : Around} {env ev : Env} {outer : List Env} {L : Addr} {Y : Addr -> Prop} {m mc : Fm} {σ : Hp} {g : Gh} {s : Shared} {K : List V -> Hp -> Prop} {E : KE} {Q : Value -> Shared -> Prop} {pos : Pos} {es : List PySem.Expr} {xs : List X} {f : Value} {first : List Value} {P : Heap -> Prop}
  (hs : es.all (fun e => !zap e) = true) (hx : zbF S G nd hd cx es xs) (a : Act S cx A env ev outer L nd hd) (I : Inv S (env :: outer) g σ s.heap) (rd : Rd S cx ev Y s.heap g m mc)
  (hk : ∀ h, P h -> ∃ k, (k = Keeper.frame \/ k = Keeper.machine \/ k = Keeper.boundFrame) /\ Looks S.M h (keeperOf f) k) (h : evXs G S.gc m mc xs σ K E) (hn : es = [] -> xs = [])
  (c : ∀ vs ds σ1 g1 s1, K ds σ1 -> Ext No g g1 s.heap s1.heap -> Inv S (env :: outer) g1 σ1 s1.heap -> VRs S s1.heap g1 vs ds -> Rest s s1 -> P s1.heap /\ wpAny S.M A (call f (first ++ vs) []) Q (Er S (env :: outer) No false g s E) s1) :
  wpAny S.M A (callWith pos f first (backTo pos (starEach es ev)) []) Q (Er S (env :: outer) No false g s E) s := by
 have hp := zbo (pos := pos) (ev := ev) hs
 refine callWith_of (P := P) (by rw [hp]; rfl) hk ?_
 cases es with
 | nil =>
  obtain rfl := hn rfl
  exact evalArgs_nil3 (c [] [] σ g s h (.refl _ _ _) I .nil (.refl _))
 | cons e r =>
  rw [List.all_cons, Bool.and_eq_true] at hs
  have hq := hx A env ev outer L Y m mc σ g s K E pos a I rd h
  rw [zdL (by simpa using hs.1)] at hq ⊢
  exact evalArgs_plain (step hq fun vs ds σ1 g1 s1 h1 e1 i1 r1 z1 => c vs ds σ1 g1 s1 h1 e1 i1 r1 z1)
theorem zaR {f : Value} (hf : ∀ a, f ≠ .ref a) {M : Model} (h : Heap) (_ : True) : ∃ k, (k = Keeper.frame \/ k = Keeper.machine \/ k = Keeper.boundFrame) /\ Looks M h (keeperOf f) k := by
 refine ⟨.machine, .inr (.inl rfl), ?_⟩
 cases f <;> first | exact Looks.now | exact absurd rfl (hf _)
end
noncomputable def zfZ : Prim -> Value
 | .len => .builtin "len" | .isi => .builtin "isinstance" | .int => .type "int" | .str => .type "str" | .repr => .builtin "repr" | .tuple => .type "tuple" | .list => .type "list"
 | .range => .type "range" | .sorted => .builtin "sorted" | .set => .type "set" | .max => .builtin "max"
section
variable {S : Sta} {fr : List Env} {A : Around} {g : Gh} {σ : Hp} {s : Shared} {d : V} {K : KV} {Ev : Value -> Shared -> Prop}
theorem vrs1 {h : Heap} {vs : List Value} {x : V} (r : VRs S h g vs [x]) : ∃ v, vs = [v] /\ VR S h g v x := by
 cases r with
 | cons a r => cases r; exact ⟨_, rfl, a⟩
theorem vrs2 {h : Heap} {vs : List Value} {x y : V} (r : VRs S h g vs [x, y]) : ∃ v w, vs = [v, w] /\ VR S h g v x /\ VR S h g w y := by
 cases r with
 | cons a r =>
  obtain ⟨w, rfl, b⟩ := vrs1 r
  exact ⟨_, _, rfl, a, b⟩
theorem znJ {h : Heap} {v : Value} {n : String} (r : VR S h g v (.ty n)) : v = .type n := by cases r; rfl
theorem szl {n : Nat} (h : n <= sizeLine) : (n : Int) < 2 ^ 63 := by rw [sizeLine_eq] at h; omega
theorem VR.seqK {P : Prop} (I : Inv S fr g σ s.heap) {v : Value} {x : V} {l : List PyData} (r : VR S s.heap g v x) (h : seqT σ x = some l) (kl : ∀ a vs, v = .ref a -> s.heap.IsList a vs -> PVs S.w.params s.heap g.κ vs.toList l -> vs.size = l.length -> P)
  (kt : ∀ a vs, v = .ref a -> IsTup s.heap a vs -> VR S s.heap g v (.pd (.tuple l)) -> PVs S.w.params s.heap g.κ vs.toList l -> vs.size = l.length -> P) : P :=
 bd_e h fun d e h => zaJ h (fun q => r.listK (P := fun v => (∀ a vs, v = .ref a -> s.heap.IsList a vs -> PVs S.w.params s.heap g.κ vs.toList l -> vs.size = l.length -> P) -> P) I e q (fun a vs h1 h2 h3 k => k a vs rfl h1 h2 h3) kl)
  fun q => r.tupK (P := fun v => (∀ a vs, v = .ref a -> IsTup s.heap a vs -> VR S s.heap g v (.pd (.tuple l)) -> PVs S.w.params s.heap g.κ vs.toList l -> vs.size = l.length -> P) -> P) e q (fun a vs h1 h2 h3 h4 k => k a vs rfl h1 h2 h3 h4) kt
theorem ziH {v : Value} {x : V} {l : List PyData} (I : Inv S fr g σ s.heap) (r : VR S s.heap g v x) (hl : seqT σ x = some l) (h : l.length <= sizeLine /\ K (.pd (.int l.length)) σ) : wpAny S.M A (call (.builtin "len") [v]) (Ok S fr No (RV S) g s K) Ev s := by
 refine r.seqK I hl (fun a vs e hl p hlen => ?_) fun a vs e hl _ p hlen => ?_
 ·rw [e]
  refine call_len_list hl (by rw [hlen]; exact szl h.1) ?_
  rw [hlen]; exact Is.ok h.2 (zcB I)
 ·rw [e]
  refine call_function_entry kind_len plain_len entry_len (args_len1 _) (len_body_tuple hl (by rw [hlen]; exact szl h.1) ?_)
  rw [hlen]; exact Is.ok h.2 (zcB I)
theorem ziI {v : Value} {d : PyData} {n : String} {b : Bool} (I : Inv S fr g σ s.heap) (r : VR S s.heap g v (.pd d)) (hb : isiP d n = some b) (h : K (.pd (.bool b)) σ) : wpAny S.M A (call (.builtin "isinstance") [v, .type n]) (Ok S fr No (RV S) g s K) Ev s := by
 have q1 : ∀ {b : Bool}, K (.pd (.bool b)) σ -> ∀ k, Ok S fr No (RV S) g s K (.bool b) { s with toks := k } := fun h k => Is.ok h (zdm I)
 have q0 : ∀ {b : Bool}, K (.pd (.bool b)) σ -> Ok S fr No (RV S) g s K (.bool b) s := fun h => Is.ok h (zaq I)
 have all : ∀ p ∈ isiL d, K (.pd (.bool p.2)) σ -> wpAny S.M A (call (.builtin "isinstance") [v, .type p.1]) (Ok S fr No (RV S) g s K) Ev s := by
  have nil : ∀ p ∈ ([] : List (String × Bool)), K (.pd (.bool p.2)) σ -> wpAny S.M A (call (.builtin "isinstance") [v, .type p.1]) (Ok S fr No (RV S) g s K) Ev s := fun _ q => (List.not_mem_nil q).elim
  have r := zbu r
  cases d with
  | bool b => cases r; exact List.forall_mem_cons.mpr ⟨fun h => IsiPair.bool_bool (q0 h), List.forall_mem_cons.mpr ⟨fun h => IsiPair.bool_int (q0 h), List.forall_mem_cons.mpr ⟨fun h => IsiPair.bool_str (q1 h _), List.forall_mem_cons.mpr ⟨fun h => IsiPair.bool_tuple (q1 h _), List.forall_mem_cons.mpr ⟨fun h => IsiPair.bool_list (q1 h _), nil⟩⟩⟩⟩⟩
  | int i => cases r; exact List.forall_mem_cons.mpr ⟨fun h => IsiPair.int_bool (q1 h _), List.forall_mem_cons.mpr ⟨fun h => IsiPair.int_int (q0 h), List.forall_mem_cons.mpr ⟨fun h => IsiPair.int_str (q1 h _), List.forall_mem_cons.mpr ⟨fun h => IsiPair.int_tuple (q1 h _), List.forall_mem_cons.mpr ⟨fun h => IsiPair.int_list (q1 h _), nil⟩⟩⟩⟩⟩
  | str x => cases r; exact List.forall_mem_cons.mpr ⟨fun h => IsiPair.str_bool (q1 h _), List.forall_mem_cons.mpr ⟨fun h => IsiPair.str_int (q1 h _), List.forall_mem_cons.mpr ⟨fun h => IsiPair.str_str (q0 h), List.forall_mem_cons.mpr ⟨fun h => IsiPair.str_tuple (q1 h _), List.forall_mem_cons.mpr ⟨fun h => IsiPair.str_list (q1 h _), nil⟩⟩⟩⟩⟩
  | tuple l =>
   cases r with
   | tuple _ e c => exact List.forall_mem_cons.mpr ⟨fun h => IsiPair.tuple_bool e c (q1 h _), List.forall_mem_cons.mpr ⟨fun h => IsiPair.tuple_int e c (q1 h _), List.forall_mem_cons.mpr ⟨fun h => IsiPair.tuple_str e c (q1 h _), List.forall_mem_cons.mpr ⟨fun h => IsiPair.tuple_tuple e c (q0 h), List.forall_mem_cons.mpr ⟨fun h => IsiPair.tuple_list e c (q1 h _), nil⟩⟩⟩⟩⟩
  | list l =>
   cases r with
   | list _ e c => exact List.forall_mem_cons.mpr ⟨fun h => IsiPair.list_list e c (q0 h), List.forall_mem_cons.mpr ⟨fun h => IsiPair.list_tuple e c (q1 h _), nil⟩⟩
  | none => cases r; exact List.forall_mem_cons.mpr ⟨fun h => IsiPair.NoneType_tuple (q1 h _), nil⟩
  | _ => exact nil
 exact all _ (zaC hb) h
theorem ziJ {v : Value} {d : PyData} {i : Int} (I : Inv S fr g σ s.heap) (r : VR S s.heap g v (.pd d)) (hi : zga d = some i) (h : K (.pd (.int i)) σ) : wpAny S.M A (call (.type "int") [v]) (Ok S fr No (RV S) g s K) Ev s := by
 refine r.numK (σ := σ) (P := fun v i => K (.pd (.int i)) σ -> wpAny S.M A (call (.type "int") [v]) (Ok S fr No (RV S) g s K) Ev s) rfl hi (fun i t h => ?_) (fun b h => ?_) h
 ·exact call_int_int (Is.ok h (zbC I (.pd (.int _ _))))
 ·exact call_int_bool (Is.ok h (zcB I))
theorem zgN (ok : StaOk S) {v : Value} {x : V} {d : PyData} (room : Room A) (I : Inv S fr g σ s.heap) (r : VR S s.heap g v x) (hd : rd σ x = some d) (h : (d.showable = true /\ d.depth <= 64 /\ d.shown.length <= sizeLine) /\ K (.pd (.str d.shown)) σ) :
  wpAny S.M A (call (.builtin "repr") [v]) (Ok S fr No (RV S) g s K) Ev s := by
 obtain ⟨as, q, n⟩ := r.readsN ok.sm I hd
 have big : ∀ {a : Addr}, v = .ref a -> wpAny S.M A (call (.builtin "repr") [v]) (Ok S fr No (RV S) g s K) Ev s := by
  rintro a rfl
  refine repr_of_reads' q h.1.1 (fun _ => n) room.guards (Nat.lt_of_le_of_lt (Nat.add_le_add_left (Nat.le_trans (Nat.succ_le_succ h.1.2.1) (by decide)) _) room.units) (fun _ _ e => e) (fun h' u tk kp => ?_) h.1.2.2
  obtain ⟨I2, E2⟩ := I.keeps kp
  exact ⟨_, σ, g, h.2, E2, I2, .pd (.str _ _), ⟨rfl, rfl, rfl⟩⟩
 cases q with
 | none => exact P.repr_of_none (Is.ok h.2 (zcA I))
 | bool b => exact P.repr_of_bool (Is.ok h.2 (zcA I))
 | int i t => exact P.repr_of_int (by simpa [PyData.showable] using h.1.1) (Is.ok h.2 (zcA I))
 | str y t => exact P.repr_of_str (Is.ok h.2 (zcA I)) h.1.2.2
 | list => exact big rfl
 | tuple => exact big rfl
 | dict => exact big rfl
theorem zdR {P : Params} {h : Heap} {κ : Addr -> Kd} {a b : Int} {acc : Array Value} (q : ItemsOf (fun i v => ∃ t, v = Value.int (a + i * 1) t) acc (b - a).toNat) : PVs P h κ acc.toList (zaQ a b) := by
 obtain ⟨q1, q2⟩ := q
 have : ∀ (n k : Nat) (vs : List Value), vs.length = n -> (∀ j v, vs[j]? = some v -> ∃ t, v = Value.int (a + (k + j : Nat)) t) -> PVs P h κ vs ((List.range' k n).map fun (j : Nat) => PyData.int (a + j)) := by
  intro n
  induction n with
  | zero => intro k vs hv _; rw [List.length_eq_zero_iff] at hv; subst hv; exact .nil
  | succ n ih =>
   intro k vs hv hj
   cases vs with
   | nil => simp at hv
   | cons v vs =>
    rw [List.range'_succ, List.map_cons]
    obtain ⟨t, rfl⟩ := hj 0 v rfl
    refine .cons (.int _ _) (ih (k + 1) vs (by simpa using hv) fun j w hw => ?_)
    obtain ⟨t, rfl⟩ := hj (j + 1) w (by simpa using hw)
    exact ⟨t, by rw [Nat.add_right_comm]; rfl⟩
 unfold zaQ
 rw [List.range_eq_range']
 refine this _ 0 _ (by simpa using q1) fun j v hv => ?_
 obtain ⟨t, rfl⟩ := q2 j v (by simpa using hv)
 exact ⟨t, by congr 1 <;> first | omega | simp⟩
theorem in63 {a : Int} (h1 : -(2 ^ 62) <= a) (h2 : a < 2 ^ 62) : -2 ^ 63 <= a /\ a < 2 ^ 63 := ⟨Int.le_trans (by decide) h1, Int.lt_trans h2 (by decide)⟩
theorem zcr {a b : Int} (h1 : -(2 ^ 62) <= a) (h2 : a < 2 ^ 62) (h3 : -(2 ^ 62) <= b) (h4 : b < 2 ^ 62) : Builtin.Range.small a b 1 = true := by
 unfold Builtin.Range.small Builtin.Range.rangeFitsLong
 rw [rangeSize_one]
 simp only [Bool.and_eq_true, Bool.or_eq_true, decide_eq_true_eq, beq_iff_eq]
 refine ⟨⟨⟨⟨in63 h1 h2, in63 h3 h4⟩, by decide, by decide⟩, ?_⟩, .inr ?_⟩
 ·by_cases q : a < b
  ·rw [if_pos q]; exact ⟨Int.le_trans (by decide) (Int.sub_nonneg.mpr (Int.le_of_lt q)), Int.lt_of_lt_of_le (Int.sub_lt_sub_of_lt_of_le h4 h1) (by decide)⟩
  ·rw [if_neg q]; exact ⟨by decide, by decide⟩
 rw [if_pos (by decide)]
 simp only [Bool.and_eq_true, decide_eq_true_eq]
 rw [show b + (1 - 1) = b from Int.add_zero b]
 exact in63 h3 h4
theorem zcR (ok : StaOk S) {v : Value} {x : V} {l : List PyData} (I : Inv S fr g σ s.heap) (r : VR S s.heap g v x) (hl : seqT σ x = some l) (h : l.length <= sizeLine /\ K (.pd (.tuple l)) σ) :
  wpAny S.M A (call (.type "tuple") [v]) (Ok S fr No (RV S) g s K) Ev s := by
 refine r.seqK I hl (fun a vs e hl p hlen => ?_) fun a vs e hl rt p hlen => ?_
 ·rw [e]
  refine call_tuple_list hl (fun h' kp => ?_) (by rw [hlen]; exact h.1)
  obtain ⟨I2, E2⟩ := I.keeps kp
  have := zhe (s := { s with heap := h' }) (σ := σ) (k := s.toks) I2 (p.mono E2.up.fz)
  exact Ok.trans (s1 := { s with heap := h' }) E2 ⟨rfl, rfl, rfl⟩ (Is.ok (d := .pd (.tuple l)) h.2 this)
 ·have := zbC I rt
  rw [e] at this ⊢
  exact call_tuple_tup hl (Is.ok (d := .pd (.tuple l)) h.2 this)
theorem zfX (ok : StaOk S) {v : Value} {x : V} (hn : A.handled = none) (I : Inv S fr g σ s.heap) (r : VR S s.heap g v x) (h : zeV x σ K) :
  wpAny S.M A (call (.type "tuple") [v]) (Ok S fr No (RV S) g s K) Ev s := by
 unfold zeV at h
 cases hr : rngV x with
 | some p =>
  rw [hr] at h
  obtain ⟨⟨h1, h2, h3, h4, h5⟩, h⟩ := zat h
  have r := zgH hr ▸ r
  cases r with
  | rng k e =>
   refine zeB (n := (_ - _ : Int).toNat) hn e (zcr h1 h2 h3 h4) (rangeSize_nat _ _) (Int.toNat_le.mpr h5) fun h' tk acc kp q => ?_
   obtain ⟨I2, E2⟩ := I.keeps kp
   exact Ok.trans (s1 := { s with heap := h' }) E2 ⟨rfl, rfl, rfl⟩ (Is.ok h (zhe (s := { s with heap := h' }) (σ := σ) (k := tk) I2 (zdR q)))
 | none =>
  rw [hr] at h
  exact zaj h fun l hl h => zcR ok I r hl (zat h)
theorem zeG {P : Params} {h : Heap} {κ : Addr -> Kd} : ∀ {vs : List Value} {l : List Int}, IntsAre vs l -> PVs P h κ vs (l.map .int)
 | _, _, .nil => .nil
 | _, _, .cons n t r => .cons (.int n t) (zeG r)
theorem zfe {a b : List Int} (p : a.Perm b) (s : a.Pairwise (· <= ·)) : a = zdM b := ksm_same (p.trans (zcU b).symm) s (zb7 b)
theorem ze5 {vs : List Value} {ns : List Int} (h : IntsAre vs ns) : vs.length = ns.length := IntsAre.length h
theorem zgT : ∀ (l ns : List Int), l.Nodup -> (∀ k ∈ l, k ∈ ns) -> ns.length = l.length -> ns.Perm l
 | [], ns, _, _, e => by rw [List.length_eq_zero_iff.mp e]
 | k :: r, ns, nd, h, e => by
  obtain ⟨n1, n2⟩ := List.nodup_cons.mp nd
  have hk := h k List.mem_cons_self
  have p := List.perm_cons_erase hk
  refine p.trans (.cons k (zgT r (ns.erase k) n2 (fun j hj => ?_) (by rw [List.length_erase_of_mem hk, e]; rfl)))
  rcases List.mem_cons.mp (p.mem_iff.mp (h j (List.mem_cons_of_mem _ hj))) with rfl | q
  ·exact absurd hj n1
  ·exact q
theorem zkp {l : List Int} {o : Obj} {es : Array (Int × Value)} {ep : Nat} {t : SetTable} {m : Nat} {a : Addr} {h : Heap} (G : SetG S.prog S.w h a l o es ep t m) (nd : l.Nodup) : ∃ ns, IntsAre ((ordA S.w a ep es).toList.map (·.2)) ns /\ ns.Perm l := by
 have p := zdh S.w a ep es
 have key : ∀ (q : List (Int × Value)), (∀ e ∈ q, ∃ k, (intKind S.prog S.w).is k e.2 = true) -> ∃ ns, IntsAre (q.map (·.2)) ns /\ ∀ k, k ∈ ns ↔ ∃ e ∈ q, (intKind S.prog S.w).is k e.2 = true := by
  intro q
  induction q with
  | nil => intro _; exact ⟨[], .nil, fun k => ⟨fun h => (nomatch h), fun ⟨_, h, _⟩ => (nomatch h)⟩⟩
  | cons e r ih =>
   intro hq
   obtain ⟨ns, i1, i2⟩ := ih fun e he => hq e (List.mem_cons_of_mem _ he)
   obtain ⟨k, hk⟩ := hq e List.mem_cons_self
   obtain ⟨u, eu⟩ := Value.isInt_shape hk
   refine ⟨k :: ns, by rw [List.map_cons, eu]; exact .cons k u i1, fun j => ?_⟩
   rw [List.mem_cons, i2 j]
   refine ⟨fun z => ?_, fun ⟨e', he, hj⟩ => ?_⟩
   ·rcases z with rfl | ⟨e', he, hj⟩
    ·exact ⟨e, List.mem_cons_self, hk⟩
    ·exact ⟨e', List.mem_cons_of_mem _ he, hj⟩
   ·rcases List.mem_cons.mp he with rfl | he
    ·exact .inl ((intKind S.prog S.w).inj _ _ _ hj hk)
    ·exact .inr ⟨e', he, hj⟩
 obtain ⟨ns, i1, i2⟩ := key _ fun e he => G.el.keys e (p.mem_iff.mp he)
 refine ⟨ns, i1, ?_⟩
 have mem : ∀ k, k ∈ ns ↔ k ∈ l := fun k => (i2 k).trans (Iff.trans ⟨fun ⟨e, he, q⟩ => ⟨e, p.mem_iff.mp he, q⟩, fun ⟨e, he, q⟩ => ⟨e, p.mem_iff.mpr he, q⟩⟩ (G.mem k).symm)
 have len : ns.length = l.length := by rw [← ze5 i1, List.length_map, p.length_eq, Array.length_toList, G.size]
 exact zgT l ns nd (fun k hk => (mem k).mpr hk) len
theorem zbA : ∀ (l acc : List Int), acc.Nodup -> (l.foldl step_dedup acc).Nodup
 | [], _, h => h
 | k :: r, acc, h => zbA r _ (by
  unfold step_dedup
  by_cases q : acc.any (· == k) = true
  ·rw [if_pos q]; exact h
  ·rw [if_neg q]; exact List.nodup_append.mpr ⟨h, List.nodup_cons.mpr ⟨List.not_mem_nil, .nil⟩, fun a ha b hb => by
    rw [List.mem_singleton] at hb; subst hb; rintro rfl; exact q (any_mem.mpr ha)⟩)
theorem zfw (ns : List Int) : firstMet (fun i => ns.getD i 0) ns.length = dedup ns := by
 unfold firstMet dedup
 congr 1
 refine List.ext_getElem (by simp) fun i h1 h2 => ?_
 simp [List.getD_eq_getElem?_getD, h2]
theorem zfR (ok : StaOk S) {h' : Heap} {b : Addr} {out : Array Value} {e tk : Nat} {ns' : List Int} (I : Inv S fr g σ s.heap) (h1 : h'.get? b = some (seqObj "list" out e)) (h2 : s.heap.get? b = none) (kp : Kept s h') (ia : IntsAre out.toList ns') :
  Is S fr g σ s (.pd (.list (ns'.map .int))) (.ref b) { s with heap := h', toks := tk } := by
 obtain ⟨I2, E2⟩ := I.new (k := .fz) kp h2 h1
 have nb : b ≠ sysModules := fun q => by
  obtain ⟨o, e⟩ := ok.sm
  rw [q, I.stays _ _ e] at h2; cases h2
 exact ⟨_, σ, _, ⟨rfl, rfl⟩, E2, I2, .pd (.list (if_pos rfl) h1 rfl rfl nb (zeG ia)), ⟨rfl, rfl, rfl⟩⟩
theorem zlT {v : V} {l : List Int} (h : setV v = some l) : v = .set l := by cases v <;> cases h; rfl
theorem zeH (ok : StaOk S) {v : Value} {x : V} {l : List Int} (hn : A.handled = none) (I : Inv S fr g σ s.heap) (r : VR S s.heap g v x) (hl : zih σ x = some l) (h : K (.pd (.list ((zdM l).map .int))) σ) :
  wpAny S.M A (call (.builtin "sorted") [v]) (Ok S fr No (RV S) g s K) Ev s := by
 have fin : ∀ {src : Value} {vs : List Value} {ns : List Int}, (∀ {A' : Around} {Q' : List Value -> Shared -> Prop} {E' : Value -> Shared -> Prop}, A'.handled = none -> (∀ h' tk, Kept s h' -> Q' vs { s with heap := h', toks := tk }) -> wpAny S.M A' (collect src) Q' E' s) ->
   IntsAre vs ns -> ns.Perm l -> vs.length < 64 -> wpAny S.M A (call (.builtin "sorted") [src]) (Ok S fr No (RV S) g s K) Ev s := fun col ia pm h64 =>
  zgu hn col ia h64 fun h' tk b out e ns' q1 q2 kp ia' p' s' => by
   rw [← zfe (p'.trans pm) s'] at h
   exact Is.ok h (zfR ok I q1 q2 kp ia')
 refine zaJ hl (fun q => bd_e q fun l' h1 q => gd_e q fun h4 e => ?_) fun q => bd_e q fun l' h1 q => bd_e q fun l'' h2 q => gd_e h2 fun h64 e => ?_
 ·subst e
  cases zlT h1 ▸ r with
  | set k e si b nd =>
   obtain ⟨o, es, ep, t, m, G⟩ := si.2 h4
   obtain ⟨ns, i1, i2⟩ := zkp G nd
   exact fin (fun hh h => ze0 hh G h) i1 i2 (by rw [ze5 i1, i2.length_eq]; omega)
 ·subst e
  refine r.seqK I h1 (fun a vs e hl p hlen => ?_) fun a vs e hl _ p hlen => ?_
  ·obtain ⟨ob, ho, hc, n, hd⟩ := hl
   exact e ▸ fin (fun hh h => zcL (.inl rfl) ho hc (vs := vs.toList) hd (by rw [Array.length_toList, hlen, sizeLine_eq]; omega) h) (zbt p q) (.refl _) (by rw [Array.length_toList, hlen]; exact h64)
  ·obtain ⟨ob, ho, hc, n, hd⟩ := hl
   exact e ▸ fin (fun hh h => zcL (.inr rfl) ho hc (vs := vs.toList) hd (by rw [Array.length_toList, hlen, sizeLine_eq]; omega) h) (zbt p q) (.refl _) (by rw [Array.length_toList, hlen]; exact h64)
theorem ziF (ok : StaOk S) {v : Value} {x : V} {l : List Int} (hn : A.handled = none) (I : Inv S fr g σ s.heap) (r : VR S s.heap g v x) (hl : (seqT σ x).bind zbO = some l) (h : l.length < 1000 /\ K (.set (dedup l)) σ) :
  wpAny S.M A (call (.type "set") [v]) (Ok S fr No (RV S) g s K) Ev s := by
 have sb : scanBound = 4096 := rfl
 refine bd_e hl fun l' h1 q => ?_
 have fin : ∀ {a : Addr} {ob itO : Obj} {T : String} {vs : Array Value} {St : Addr -> Nat -> Heap -> Prop}, v = .ref a -> s.heap.get? a = some ob -> Src S.prog S.w a ob T itO vs.size (fun i v => vs[i]? = some v) St -> PVs S.w.params s.heap g.κ vs.toList l' -> wpAny S.M A (call (.type "set") [v]) (Ok S fr No (RV S) g s K) Ev s := fun {a ob itO T vs St} e ho W p => by
  have ia := zbt p q
  have hz : vs.size = l.length := by rw [← Array.length_toList]; exact ze5 ia
  have hn0 : s.heap.get? s.heap.objs.size = none := Heap.get?_none_of_le (Nat.le_refl _)
  rw [e]
  refine ziz (val := fun i => l.getD i 0) hn W ho (fun i v hv => ia.int_at i v (by rw [Array.getElem?_toList]; exact hv)) (by rw [hz, sb]; omega) fun h' tk G kp => ?_
  rw [hz, zfw] at G
  obtain ⟨o, es, ep, t, m, r⟩ := id G.1
  obtain ⟨I2, E2⟩ := I.new (k := .fz) kp hn0 m
  have dl : (dedup l).length <= l.length := by rw [← zfw]; exact firstMet_length_le _ _
  exact ⟨_, σ, _, h.2, E2, I2, .set (if_pos rfl) m G (by rw [sb]; omega) (zbA l [] .nil), ⟨rfl, rfl, rfl⟩⟩
 refine r.seqK I h1 (fun a vs e hl p hlen => ?_) fun a vs e hl _ p hlen => ?_
 ·obtain ⟨ob, ho, hc, n, hd⟩ := hl
  exact fin e ho (zig hc hd) p
 ·obtain ⟨ob, ho, hc, n, hd⟩ := hl
  exact fin e ho (zgs hc hd) p
theorem ziG {v u : Value} {i j : Int} (hn : A.handled = none) (I : Inv S fr g σ s.heap) (r : VR S s.heap g v (.pd (.int i))) (q : VR S s.heap g u (.pd (.int j))) (h : K (.pd (.int (if i < j then j else i))) σ) : wpAny S.M A (call (.builtin "max") [v, u]) (Ok S fr No (RV S) g s K) Ev s := by
 obtain ⟨t, rfl⟩ := zbw r
 obtain ⟨t', rfl⟩ := zbw q
 refine max_two_ints hn fun h' tk kp => ?_
 obtain ⟨I2, E2⟩ := I.keeps kp
 by_cases c : i < j
 ·rw [if_pos c] at h; rw [if_pos (show j > i from c)]; exact ⟨_, σ, g, h, E2, I2, .pd (.int _ _), ⟨rfl, rfl, rfl⟩⟩
 ·rw [if_neg c] at h; rw [if_neg (show ¬ j > i from c)]; exact ⟨_, σ, g, h, E2, I2, .pd (.int _ _), ⟨rfl, rfl, rfl⟩⟩
theorem ziE {v : Value} {i : Int} (I : Inv S fr g σ s.heap) (r : VR S s.heap g v (.pd (.int i))) (h : i.natAbs.log2 < 1920 /\ K (.pd (.str (Str.ofString (toString i)))) σ) : wpAny S.M A (call (.type "str") [v]) (Ok S fr No (RV S) g s K) Ev s := by
 obtain ⟨t, rfl⟩ := zbw r
 exact P.str_of_int h.1 (Is.ok h.2 (zcA I))
theorem zgE (ok : StaOk S) {h' : Heap} {c' : Nat} {k : Nat} {vs : Array Value} {l : List PyData} (I : Inv S fr g σ s.heap) (p : PVs S.w.params s.heap g.κ vs.toList l) (kp : ∀ b o, s.heap.get? b = some o -> h'.get? b = some o) (e : h'.get? s.heap.objs.size = some { cls := .type "list", dict := none, data := .seq vs c', slots := #[] }) :
  Is S fr g σ s (.pd (.list l)) (.ref s.heap.objs.size) { s with heap := h', toks := k } := by
 have hn : s.heap.get? s.heap.objs.size = none := Heap.get?_none_of_le (Nat.le_refl _)
 obtain ⟨I2, E2⟩ := I.new (k := .fz) kp hn e
 exact ⟨_, σ, _, ⟨rfl, rfl⟩, E2, I2, .pd (.list (if_pos rfl) e rfl rfl (zeM ok I) (p.mono E2.up.fz)), ⟨rfl, rfl, rfl⟩⟩
theorem zeO {v : Value} {x : V} {l : List PyData} {Q : Value -> Shared -> Prop} (I : Inv S fr g σ s.heap) (r : VR S s.heap g v x) (hl : seqT σ x = some l) (hz : l.length <= sizeLine)
  (h : ∀ h' c' (vs : Array Value), PVs S.w.params s.heap g.κ vs.toList l -> (∀ b o, s.heap.get? b = some o -> h'.get? b = some o) -> h'.get? s.heap.objs.size = some { cls := .type "list", dict := none, data := .seq vs c', slots := #[] } -> Q (.ref s.heap.objs.size) { s with heap := h' }) :
  wpAny S.M A (call (.type "list") [v]) Q Ev s := by
 refine r.seqK I hl (fun a vs e hl p hlen => ?_) fun a vs e hl _ p hlen => ?_
 ·rw [e]
  obtain ⟨o, ho, hc, n, hd⟩ := hl
  exact call_list_seq a (.inl rfl) ho hc hd (fun h' c' kp e => h h' c' vs p kp e) (by rw [hlen]; exact hz)
 ·rw [e]
  obtain ⟨o, ho, hc, n, hd⟩ := hl
  exact call_list_seq a (.inr rfl) ho hc hd (fun h' c' kp e => h h' c' vs p kp e) (by rw [hlen]; exact hz)
theorem zgP (ok : StaOk S) {v : Value} {x : V} (hn : A.handled = none) (I : Inv S fr g σ s.heap) (r : VR S s.heap g v x) (h : zhv x σ K) :
  wpAny S.M A (call (.type "list") [v]) (Ok S fr No (RV S) g s K) Ev s := by
 unfold zhv at h
 cases hr : rngV x with
 | some p =>
  rw [hr] at h
  obtain ⟨⟨h1, h2, h3, h4, h5⟩, h⟩ := zat h
  have r := zgH hr ▸ r
  cases r with
  | rng k e =>
   refine call_list_range (n := (_ - _ : Int).toNat) hn e ?_ (rangeSize_nat _ _) (Int.toNat_le.mpr h5) fun h' tk acc c' kp e q => Is.ok h (zgE ok I (zdR q) kp e)
   exact zcr h1 h2 h3 h4
 | none =>
  rw [hr] at h
  exact zaj h fun l hl h => zeO I r hl (zat h).1 fun h' c' vs p kp e => Is.ok (zat h).2 (zgE (k := s.toks) ok I p kp e)
theorem zeJ {v : Value} {n : Int} (I : Inv S fr g σ s.heap) (r : VR S s.heap g v (.pd (.int n))) (h : K (.rng 0 n) σ) : wpAny S.M A (call (.type "range") [v]) (Ok S fr No (RV S) g s K) Ev s := by
 obtain ⟨t, rfl⟩ := zbw r
 refine call_range_1 ?_
 have hn : s.heap.get? s.heap.objs.size = none := Heap.get?_none_of_le (Nat.le_refl _)
 obtain ⟨I2, E2⟩ := I.new (k := .fz) (fun b o q => Heap.get?_push_of_some _ q) hn (IsRange.new s.heap 0 n 1 s.toks t (s.toks + 1))
 exact ⟨_, σ, _, h, E2, I2, .rng (if_pos rfl) (IsRange.new s.heap 0 n 1 s.toks t (s.toks + 1)), ⟨rfl, rfl, rfl⟩⟩
theorem zeI {v u : Value} {n m : Int} (I : Inv S fr g σ s.heap) (r : VR S s.heap g v (.pd (.int n))) (r2 : VR S s.heap g u (.pd (.int m))) (h : K (.rng n m) σ) : wpAny S.M A (call (.type "range") [v, u]) (Ok S fr No (RV S) g s K) Ev s := by
 obtain ⟨t, rfl⟩ := zbw r
 obtain ⟨t', rfl⟩ := zbw r2
 refine call_range_2 ?_
 have hn : s.heap.get? s.heap.objs.size = none := Heap.get?_none_of_le (Nat.le_refl _)
 obtain ⟨I2, E2⟩ := I.new (k := .fz) (fun b o q => Heap.get?_push_of_some _ q) hn (IsRange.new s.heap n m 1 t t' s.toks)
 exact ⟨_, σ, _, h, E2, I2, .rng (if_pos rfl) (IsRange.new s.heap n m 1 t t' s.toks), ⟨rfl, rfl, rfl⟩⟩
theorem zcv {P : Prop} {vs : List Value} {xs : List V} {k : V -> Prop} (r : VRs S s.heap g vs xs) (h : one xs k) (c : ∀ v x, vs = [v] -> VR S s.heap g v x -> k x -> P) : P :=
 zn2 h fun x e h => by
  obtain ⟨v, q, r1⟩ := vrs1 (e ▸ r)
  exact c v x q r1 h
theorem zia {P : Prop} {vs : List Value} {xs : List V} {k : V -> V -> Prop} (r : VRs S s.heap g vs xs) (h : two xs k) (c : ∀ v u x y, vs = [v, u] -> VR S s.heap g v x -> VR S s.heap g u y -> k x y -> P) : P :=
 znL h fun x y e h => by
  obtain ⟨v, u, q, r1, r2⟩ := vrs2 (e ▸ r)
  exact c v u x y q r1 r2 h
theorem zfY {vs : List Value} {xs : List V} (I : Inv S fr g σ s.heap) (r : VRs S s.heap g vs xs) (h : zhu xs σ K) : wpAny S.M A (call (.type "range") vs []) (Ok S fr No (RV S) g s K) Ev s := by
 have two : two xs (fun v u => need (intV v) fun a => need (intV u) fun b => K (.rng a b) σ) -> wpAny S.M A (call (.type "range") vs []) (Ok S fr No (RV S) g s K) Ev s := fun h =>
  zia r h fun v u x y e r1 r2 h => zaj h fun a ha h => zaj h fun b hb h => e ▸ zeI I (zbz ha ▸ r1) (zbz hb ▸ r2) h
 cases xs with
 | nil => exact two h
 | cons x q =>
  cases q with
  | nil =>
   obtain ⟨v, e, r1⟩ := vrs1 r
   exact zaj h fun n hn h => e ▸ zeJ I (zbz hn ▸ r1) h
  | cons y q => exact two h
theorem zgO (ok : StaOk S) {p : Prim} {vs : List Value} {xs : List V} (room : Room A) (hn : A.handled = none) (I : Inv S fr g σ s.heap) (r : VRs S s.heap g vs xs) (h : zaX p xs σ K) : wpAny S.M A (call (zfZ p) vs []) (Ok S fr No (RV S) g s K) Ev s := by
 cases p with
 | len => exact zcv r h fun v x e r h => zaj h fun l hl h => e ▸ ziH I r hl (zat h)
 | isi =>
  refine zia r h fun v u x y e r1 r2 h => zaj h fun d hd h => zaj h fun n hn h => zaj h fun b hb h => ?_
  have r2 : VR S s.heap g u (.ty n) := znK hn ▸ r2
  rw [e, znJ r2]
  exact ziI I (zbv hd ▸ r1) hb h
 | int => exact zcv r h fun v x e r h => zaj h fun d hd h => zaj h fun i hi h => e ▸ ziJ I (zbv hd ▸ r) hi h
 | str => exact zcv r h fun v x e r h => zaj h fun i hi h => e ▸ ziE I (zbz hi ▸ r) (zat h)
 | list => exact zcv r h fun v x e r h => e ▸ zgP ok hn I r h
 | repr => exact zcv r h fun v x e r h => zaj h fun d hd h => e ▸ zgN ok room I r hd (za9 h)
 | tuple => exact zcv r h fun v x e r h => e ▸ zfX ok hn I r h
 | range => exact zfY I r h
 | sorted => exact zcv r h fun v x e r h => zaj h fun l hl h => e ▸ zeH ok hn I r hl h
 | set => exact zcv r h fun v x e r h => zaj h fun l hl h => e ▸ ziF ok hn I r hl (zat h)
 | max => exact zia r h fun v u x y e r1 r2 h => zaj h fun i hi h => zaj h fun j hj h => e ▸ ziG hn I (zbz hi ▸ r1) (zbz hj ▸ r2) h
end
noncomputable def ownNames : List Str := ["len", "isinstance", "int", "str", "repr", "tuple", "list", "range", "sorted", "set", "dict", "zip", "min", "max", "abs", "bool"].map Str.ofString
structure StaOk3 (S : Sta) : Prop extends StaOk2 S where
 free : ∀ x ∈ ownNames, S.mg x = none
 ko : KOk S
section
variable {S : Sta} {G : zaa} {nd : Nat} {hd : Bool} {cx : Cx}
theorem zf8 : ∀ p ∈ [(Str.ofString "isinstance", Value.builtin "isinstance")] ++ primTab.map (fun p => (p.1, zfZ p.2)) ++ tyTab.map (fun p => (p.1, Value.type p.2)), p.1 ≠ "__name__" /\ p.1 ∈ ownNames /\ bootBuiltins p.1 = some p.2 := by decide +kernel
theorem zeL (ok : StaOk3 S) {x : Str} {v : Value} (h : (x, v) ∈ [(Str.ofString "isinstance", Value.builtin "isinstance")] ++ primTab.map (fun p => (p.1, zfZ p.2)) ++ tyTab.map (fun p => (p.1, Value.type p.2))) : S.mg x = none /\ S.mb x = some v := by
 obtain ⟨h1, h2, h3⟩ := zf8 _ h
 exact ⟨ok.free _ h2, (ok.builtins _ h1).trans h3⟩
theorem ziD (ok : StaOk3 S) {x : Str} {p : Prim} (h : zgR x = some p) : S.mg x = none /\ S.mb x = some (zfZ p) :=
 zeL ok (List.mem_append_left _ (List.mem_append_right _ (List.mem_map_of_mem (f := fun p => (p.1, zfZ p.2)) (zaC h))))
theorem zlD (ok : StaOk3 S) {x : Str} {n : String} (h : tyOf x = some n) : S.mg x = none /\ S.mb x = some (.type n) :=
 zeL ok (List.mem_append_right _ (List.mem_map_of_mem (f := fun p => (p.1, Value.type p.2)) (zaC h)))
theorem zgQ {p : Prim} : ∀ a, zfZ p ≠ .ref a := by cases p <;> nofun
theorem zik (ok : StaOk3 S) {x : Str} {q pos : Pos} {p : Prim} {es : List PySem.Expr} {xs : List X} (hp : zgR x = some p) (hg : nmOf cx x = some .g) (hs : es.all (fun e => !zap e) = true) (hx : zbF S G nd false cx es xs) (hn : es = [] -> xs = []) :
  SndX S G nd false cx (.Call (.Name x q) es [] pos) (.prim p xs) := by
 intro A env ev outer L Y m mc σ g s K E a I rd h
 replace h := zec h
 obtain ⟨h1, h2⟩ := ziD ok hp
 rw [arm_eval_Call_Name']
 refine wpAny_bind (zaT a ok.toStaOk I.stays hg h1 h2 ?_)
 refine zaD hs hx a I rd (P := fun _ => True) (zaR zgQ) h hn fun vs ds σ1 g1 s1 h1 e1 i1 r1 z1 => ⟨trivial, ?_⟩
 exact zaS e1 z1 (wpAny_mono (zgO ok.toStaOk a.room (a.hn rfl) i1 r1 h1) (fun _ _ x => x.trans e1 z1) fun _ _ x => x)
end
theorem zf9 {o : PySem.Expr} (h : zc8 o = true) {name : Str} {env : Env} {whole : Sem Value} : attributeBase o name env whole = whole := by
 cases o <;> try exact rfl
 rename_i f a k p
 cases f <;> try exact rfl
 cases a <;> try exact rfl
 cases k <;> first | exact rfl | cases h
theorem zcI {o : PySem.Expr} {name : Str} {ap pos : Pos} {args : List PySem.Expr} {env : Env} (hb : zc8 o = true) (hs : args.all (fun e => !zap e) = true) (hl : args.length < 20) (hp : (ap.endLine == pos.line) = true) :
  eval (.Call (.Attribute o name ap) args [] pos) env = (do
   let ov ← eval o env
   standAt ap.atName
   let fx ← holding [ov] (getMethod ov name (do return (← importBound o env).getD true))
   callWith pos fx.1 fx.2 (backTo pos (starEach args env)) []) := by
 have hf : methodCallForm (args.length + ([] : List Keyword).length) (backTo pos (starEach args env)) (backToKw pos (keywordEach [] env)) = true := by
  unfold methodCallForm
  have h1 := zbo (pos := pos) (ev := env) hs
  have h2 : (backTo pos (starEach args env)).all (fun p => !p.1) = true := by
   rw [List.all_eq_true]
   intro p hp
   have := List.any_eq_false.mp h1 p hp
   simpa using this
  have h3 : (backToKw pos (keywordEach [] env)) = [] := rfl
  rw [h2, h3]
  simp
  omega
 rw [arm_eval_Call, zf9 hb]
 unfold methodCall calleeOf methodCallPos
 rw [hf, hp]
 rfl
noncomputable def lmId : LM -> String
 | .append => "list.append"
section
variable {S : Sta} {fr : List Env} {A : Around} {g : Gh} {σ : Hp} {s : Shared} {d : V} {K : KV} {Ev : Value -> Shared -> Prop}
inductive MuList (S : Sta) (g : Gh) (h : Heap) (a : Value) (i : Nat) (l : List PyData) : Prop
 | mk (ws : Array Value) (n : Nat) (hi : i < g.n) (e : a = .ref (g.μ i)) (o : h.get? (g.μ i) = some ⟨.type "list", none, .seq ws n, #[]⟩) (p : PVs S.w.params h g.κ ws.toList l) (z : ws.size = l.length)
theorem VR.muList (I : Inv S fr g σ s.heap) {a : Value} {x : V} {p : Nat × List PyData} (ra : VR S s.heap g a x) (e : lstR σ x = some p) : MuList S g s.heap a p.1 p.2 := by
 obtain ⟨q, e⟩ := zmw e
 obtain ⟨rfl, hi⟩ := zdG (q ▸ ra)
 obtain ⟨vs, n, e1, r1⟩ := (I.mu _ _ e).asList
 exact ⟨_, _, hi, rfl, e1, r1, r1.length⟩
theorem zmp (I : Inv S fr g σ s.heap) {i : Nat} {o : O} {x : V} {v : Value} {h' : Heap} {k : Nat} (hi : i < g.n) (kp : Heap.SameBut (g.μ i) s.heap h') (hM : Up g g s.heap h' -> MO S h' g (g.μ i) o) (rv : VR S s.heap g v x) (hK : K x (σ.set i o)) :
  Ok S fr No (RV S) g s K v { s with heap := h', toks := k } := by
 have hs : ∃ ob, h'.get? (g.μ i) = some ob := by
  have kp2 : ∀ b o, b ≠ g.μ i -> s.heap.get? b = some o -> h'.get? b = some o := fun b o q e => (kp.2 b q).trans e
  have U : Up g g s.heap h' := ⟨Nat.le_refl _, fun _ _ => rfl, fun b o q e => ⟨q, kp2 b o (fun z => by rw [z, I.km i hi] at q; cases q) e⟩⟩
  exact (hM U).at
 obtain ⟨I2, E2⟩ := I.upMu hi (fun b o q e => (kp.2 b q).trans e) hs hM
 exact ⟨x, _, g, hK, E2, I2, rv.mono E2.up, ⟨rfl, rfl, rfl⟩⟩
theorem PVs.snoc {P : Params} {h : Heap} {κ : Addr -> Kd} {vs : Array Value} {l : List PyData} {v : Value} {d : PyData} (p : PVs P h κ vs.toList l) (q : PV P h κ v d) : PVs P h κ (vs.push v).toList (l ++ [d]) := by
 rw [Array.toList_push]; exact p.append (.cons q .nil)
theorem zg7 (I : Inv S fr g σ s.heap) {a v : Value} {d : PyData} {i : Nat} {l : List PyData} (m : MuList S g s.heap a i l) (rv : VR S s.heap g v (.pd d)) (h : l.length < sizeLine /\ K (.pd .none) (σ.set i (.list (l ++ [d])))) :
  wpAny S.M A (call (.builtin "list.append") [a, v] []) (Ok S fr No (RV S) g s K) Ev s := by
 obtain ⟨ws, n, hi, e, e1, p, hl⟩ := m
 rw [e]
 exact append_at e1 (fun h' sb e2 => zmp (k := s.toks) I hi sb (fun u => .list (vs := (ws.push v).toList) e2 ((p.snoc (zbu rv)).mono u.fz)) (.pd .none) h.2) (hl ▸ Nat.le_of_lt h.1)
theorem zmr {h : Heap} {a : Addr} {f : Array Value -> Array Value} {ws : Array Value} {n : Nat} (e : h.get? a = some ⟨.type "list", none, .seq ws n, #[]⟩) : ∃ n', (h.update a (Obj.mapSeq f)).get? a = some ⟨.type "list", none, .seq (f ws) n', #[]⟩ :=
 ⟨_, by rw [Heap.get?_update_self _ e rfl]; rfl⟩
theorem zob {q : LM} {o : V} {a : Value} {vs : List Value} {xs : List V} (I : Inv S fr g σ s.heap) (ra : VR S s.heap g a o) (r : VRs S s.heap g vs xs) (h : evLM q o xs σ K) :
  wpAny S.M A (call (.builtin (lmId q)) ([a] ++ vs) []) (Ok S fr No (RV S) g s K) Ev s := by
 cases q with
 | append => exact zcv r h fun v x e r h => zaj h fun d hd h => zaj h fun p hp h => e ▸ zg7 I (ra.muList I hp) (zbv hd ▸ r) (zat h)
end
section
variable {S : Sta} {G : zaa} {nd : Nat} {hd : Bool} {cx : Cx}
theorem zkN {q : LM} {y : Str} (hy : lmOf y = some q) : Slot "list" y (lmId q) /\ typeOf (.builtin (lmId q)) = pure (.type "method_descriptor") := by
 have : ∀ p ∈ [(Str.ofString "append", LM.append)], Slot "list" p.1 (lmId p.2) /\ typeOf (.builtin (lmId p.2)) = pure (.type "method_descriptor") :=
  List.forall_mem_cons.mpr ⟨⟨PySem.F.slot_list_append, PySem.F.type_list_append⟩, fun _ h => (List.not_mem_nil h).elim⟩
 exact this _ (zaC hy)
theorem zlS (ok : StaOk S) {q : LM} {y : Str} {ap pos : Pos} {oe : PySem.Expr} {es : List PySem.Expr} {o : X} {xs : List X} (hy : lmOf y = some q) (hb : zc8 oe = true) (hp : (ap.endLine == pos.line) = true) (hl : es.length < 20) (hs : es.all (fun e => !zap e) = true) (ho : SndX S G nd hd cx oe o) (hx : zbF S G nd hd cx es xs) (hn : es = [] -> xs = []) :
  SndX S G nd hd cx (.Call (.Attribute oe y ap) es [] pos) (.lm q o xs) := by
 intro A env ev outer L Y m mc σ g s K E a I rd h
 replace h := zhD h
 rw [zcI hb hs hl hp]
 refine wpAny_bind (step (ho A env ev outer L Y m mc σ g s _ E a I rd h) fun v d σ1 g1 s1 h1 e1 i1 r1 z1 => ?_)
 obtain ⟨hk, h1⟩ := zat h1
 obtain ⟨p, hp⟩ := Option.isSome_iff_exists.mp hk
 obtain ⟨ws, n, hi', e, e2, pp, hl'⟩ := r1.muList i1 hp
 obtain ⟨sl, ty⟩ := zkN hy
 rw [e]
 refine wpAny_bind (wpAny_standAt (wpAny_bind (wpAny_holding (getMethod_list_of sl ty ⟨_, e2, rfl, _, rfl⟩ ⟨_, e2, rfl⟩ ?_))))
 rw [← e]
 refine zaS e1 z1 ?_
 refine zaD hs hx a i1 (rd.mono e1) (P := fun _ => True) (zaR (by nofun)) h1 hn fun vs ds σ2 g2 s2 h2 e2 i2 r2 z2 => ⟨trivial, ?_⟩
 exact wpAny_mono (zob i2 (r1.mono e2.up) r2 h2) (fun _ _ x => x.trans (e1.trans e2) (z1.trans z2)) fun _ _ x => x
end
inductive LRs (S : Sta) (h : Heap) (g : Gh) : List Value -> List Loc -> Prop
 | nil : LRs S h g [] []
 | cons {v : Value} {vs : List Value} {l : Loc} {ls : List Loc} : LR S No h g v l -> LRs S h g vs ls -> LRs S h g (v :: vs) (l :: ls)
theorem LRs.of_vrs {S : Sta} {h : Heap} {g : Gh} {vs : List Value} {ds : List V} (r : VRs S h g vs ds) : LRs S h g vs (ds.map .v) := by
 induction r with
 | nil => exact .nil
 | cons a _ ih => exact .cons (.v a) ih
noncomputable def zbD (cells : List (Str × Addr)) : Names -> List (Str × Addr) -> List (Str × Addr)
 | [], acc => acc
 | (x, k) :: r, acc => if k == .free then zbD cells r ((x, (cells.lookup x).getD 0) :: acc) else zbD cells r acc
theorem zdA {scope : Scope} {env : Env} (h : ∀ p ∈ scope.names, p.2 = .free -> ∃ c, env.cells.lookup p.1 = some c) : closureFor scope env = pure (zbD env.cells scope.names []) := by
 have : ∀ (l : Names) (acc : List (Str × Addr)), (∀ p ∈ l, p.2 = .free -> ∃ c, env.cells.lookup p.1 = some c) ->
   (forIn l acc fun (p : Str × NameKind) (cs : List (Str × Addr)) => do
    if p.2 == .free then do let a ← cellOf env p.1; pure (ForInStep.yield ((p.1, a) :: cs)) else pure (ForInStep.yield cs)) = (pure (zbD env.cells l acc) : Sem _) := by
  intro l
  induction l with
  | nil => intro acc _; rfl
  | cons p r ih =>
   intro acc hl
   obtain ⟨x, k⟩ := p
   rw [List.forIn_cons]
   unfold zbD
   cases hk : (k == NameKind.free) with
   | true =>
    obtain ⟨c, hc⟩ := hl (x, k) (.head _) (by simpa using hk)
    simp only [if_true, hc, Option.getD_some]
    have : cellOf env x = pure c := by unfold cellOf; dsimp only at hc; rw [hc]
    rw [this]
    simp only [pure_bind]
    exact ih _ fun q hq => hl q (.tail _ hq)
   | false =>
    simp only [Bool.false_eq_true, if_false, pure_bind]
    exact ih _ fun q hq => hl q (.tail _ hq)
 unfold closureFor
 have := this scope.names [] h
 simpa using this
theorem zay {α β : Type} [BEq α] [LawfulBEq α] {x : α} {k : β} : ∀ {l : List (α × β)}, l.lookup x = some k -> (x, k) ∈ l
 | [], h => by cases h
 | (a, b) :: r, h => by
  by_cases q : x = a
  ·subst q; simp [List.lookup] at h; subst h; exact .head _
  ·have : (x == a) = false := by simpa using q
   simp only [List.lookup, this] at h
   exact .tail _ (zay h)
theorem zbW {α β : Type} [BEq α] [LawfulBEq α] {x : α} {k : β} : ∀ {l : List (α × β)}, (x, k) ∈ l -> ∃ k', l.lookup x = some k'
 | (a, b) :: r, h => by
  by_cases q : x = a
  ·subst q; exact ⟨b, by simp [List.lookup]⟩
  ·have : (x == a) = false := by simpa using q
   simp only [List.lookup, this]
   rcases List.mem_cons.mp h with h | h
   ·cases h; exact absurd rfl q
   ·exact zbW h
theorem zcN {cells : List (Str × Addr)} : ∀ {l : Names} {acc : List (Str × Addr)}, (∀ p ∈ acc, p.2 = (cells.lookup p.1).getD 0) -> ∀ p ∈ zbD cells l acc, p.2 = (cells.lookup p.1).getD 0
 | [], acc, h => h
 | (x, k) :: r, acc, h => by
  unfold zbD
  split
  ·exact zcN fun p hp => (List.mem_cons.mp hp).elim (fun q => by rw [q]) (h p)
  ·exact zcN h
theorem zbl {cells : List (Str × Addr)} {x : Str} : ∀ {l : Names} {acc : List (Str × Addr)}, ((x, NameKind.free) ∈ l \/ ∃ c, (x, c) ∈ acc) -> ∃ c, (x, c) ∈ zbD cells l acc
 | [], acc, h => h.elim (fun q => by cases q) id
 | (y, k) :: r, acc, h => by
  unfold zbD
  rcases h with h | ⟨c, h⟩
  ·rcases List.mem_cons.mp h with h | h
   ·cases h
    simp only [beq_self_eq_true, if_true]
    exact zbl (.inr ⟨_, .head _⟩)
   ·split <;> exact zbl (.inl h)
  ·split
   ·exact zbl (.inr ⟨c, .tail _ h⟩)
   ·exact zbl (.inr ⟨c, h⟩)
theorem zeq {cells : List (Str × Addr)} {x : Str} {c : Addr} {l : Names} (hc : cells.lookup x = some c) (h : l.lookup x = some .free) : (zbD cells l []).lookup x = some c := by
 obtain ⟨d, hd⟩ := zbl (cells := cells) (acc := []) (.inl (zay h))
 obtain ⟨d', hd'⟩ := zbW hd
 have := zcN (cells := cells) (l := l) (acc := []) (by simp) _ (zay hd')
 simp only [hc, Option.getD_some] at this
 rw [hd', this]
section
variable {S : Sta} {G : zaa} {nd : Nat} {hd : Bool} {cx : Cx}
structure CallAt (A : Around) (env : Env) (outer : List Env) (L : Addr) (nd : Nat) : Prop where
 hn : A.handled = none
 frames : A.frames = some (env :: outer)
 guards : A.guards = some []
 depth : A.depth + nd + 10 < recursionLimit
 units : A.units + 16 * nd + 300 < cLine
theorem Act.call {A : Around} {env ev : Env} {outer : List Env} {L : Addr} (a : Act S cx A env ev outer L nd false) : CallAt A env outer L nd := ⟨a.hn rfl, a.frames, a.guards, a.depth, a.units⟩
structure CallOk (S : Sta) (G : zaa) (nd : Nat) : Prop where
 fn : ∀ {f A env outer L g σ s K E as vs}, CallAt A env outer L nd -> Inv S (env :: outer) g σ s.heap -> LRs S s.heap g vs as -> f ≠ 0 -> G f as σ K E ->
  wpAny S.M A (call (.ref (S.fa f)) vs []) (Ok S (env :: outer) No (RV S) g s K) (Er S (env :: outer) No false g s E) s
end
structure KOk2 (S : Sta) : Prop where
 fk : ∀ x f, zaW S.cx.funs x = some f -> f ≠ 0 /\ keepIn S.K (.ref (S.fa f)) = true
 mt : ∀ x f, zaW S.cx.meths x = some f -> f ≠ 0 /\ keepIn S.K (.ref (S.fa f)) = true /\ x ≠ Str.ofString "scope" /\ findIn S.K (.ref S.cev) x = some (some (.ref (S.fa f))) /\ typeIn S.K (.ref (S.fa f)) = some (.type "function")
 ek : keepIn S.K (.ref S.cev) = true
 eg : S.mg (Str.ofString "Evaluator") = some (.ref S.cev)
 xCl : ∀ b, isClsIn S.K (S.ec b) = true
 xTy : ∀ b, typeIn S.K (.ref (S.ec b)) = some (.type "type")
 xTu : ∀ b, instIn S.K (.ref (S.ec b)) (.type "tuple") = some false
 xEq : ∀ a b, mroIn S.K (S.ec a) (.ref (S.ec b)) = some (a == b)
 xKp : ∀ b, keepIn S.K (.ref (S.ec b)) = true
 xF : S.mg (Str.ofString "EvalFault") = some (.ref (S.ec false))
 xL : S.mg (Str.ofString "LimitFault") = some (.ref (S.ec true))
structure NewOk (S : Sta) (nd : Nat) : Prop where
 new : ∀ {A env outer L g σ s sc v Ev}, CallAt A env outer L nd -> Inv S (env :: outer) g σ s.heap -> VR S s.heap g v sc -> ((∃ d, sc = .pd (.dict d)) \/ ∃ i, sc = .ref i) -> wpAny S.M A (call (.ref S.cev) [v] []) (Is S (env :: outer) g σ s (.evr sc)) Ev s
section
variable {S : Sta} {G : zaa} {nd : Nat} {hd : Bool} {cx : Cx}
theorem LR.but {X Y : Addr -> Prop} {h : Heap} {g : Gh} {v : Value} {l : Loc} (f : ∀ a o, h.get? a = some o -> ¬ Y a -> ¬ X a) (r : LR S Y h g v l) : LR S X h g v l := by
 cases r with
 | v r => exact .v r
 | fault r =>
  obtain ⟨k, n, oe, vs, dx, mp, h1, r⟩ := r
  exact .fault ⟨k, f _ _ h1 n, oe, vs, dx, mp, h1, r⟩
theorem LR.no {Y : Addr -> Prop} {h : Heap} {g : Gh} {v : Value} {l : Loc} (r : LR S Y h g v l) : LR S No h g v l := r.but fun _ _ _ _ => id
theorem zir (ok : StaOk3 S) (k2 : KOk2 S) (co : CallOk S G nd) {x : Str} {f : Nat} {q pos : Pos} {es : List PySem.Expr} {xs : List X} (hf : zaW S.cx.funs x = some f) (hg : nmOf cx x = some .g) (hs : es.all (fun e => !zap e) = true) (hx : zbF S G nd false cx es xs) (hn : es = [] -> xs = []) :
  SndX S G nd false cx (.Call (.Name x q) es [] pos) (.call f xs) := by
 intro A env ev outer L Y m mc σ g s K E a I rd h
 replace h := zhG h
 rw [arm_eval_Call_Name']
 refine wpAny_bind (zaF a ok.toStaOk I.stays hg (ok.funs x f hf) ?_)
 obtain ⟨f0, fk⟩ := k2.fk x f hf
 refine zaD hs hx a I rd (P := S.K.In) (keeps_K fk) h hn fun vs ds σ1 g1 s1 h1 e1 i1 r1 z1 => ⟨kIn ok.toStaOk i1, ?_⟩
 exact zaS e1 z1 (wpAny_mono (co.fn (as := ds.map .v) a.call i1 (.of_vrs r1) f0 h1) (fun _ _ x => x.trans e1 z1) fun _ _ x => x)
theorem zlv {h : Heap} {g : Gh} {v : Value} {sc : V} (r : VR S h g v (.evr sc)) : ∃ a dx e t n, v = .ref a /\ g.κ a = .fz /\ h.get? a = some (instObj S.cev dx) /\ h.get? dx = some (dictOf [e] n) /\ e.key = .str (Str.ofString "scope") t := by
 cases r with
 | evr k1 k2 e1 e2 a b r => exact ⟨_, _, _, _, _, rfl, k1, e1, e2, a⟩
theorem zim (ok : StaOk3 S) (k2 : KOk2 S) (co : CallOk S G nd) {x : Str} {f : Nat} {ap pos : Pos} {oe : PySem.Expr} {es : List PySem.Expr} {o : X} {xs : List X} (hf : zaW S.cx.meths x = some f) (hb : zc8 oe = true) (hp : (ap.endLine == pos.line) = true) (hl : es.length < 20)
  (hs : es.all (fun e => !zap e) = true) (ho : SndX S G nd false cx oe o) (hx : zbF S G nd false cx es xs) (hn : es = [] -> xs = []) : SndX S G nd false cx (.Call (.Attribute oe x ap) es [] pos) (.meth f o xs) := by
 intro A env ev outer L Y m mc σ g s K E a I rd h
 replace h := zhF h
 rw [zcI hb hs hl hp]
 refine wpAny_bind (step (ho A env ev outer L Y m mc σ g s _ E a I rd h) fun v d σ1 g1 s1 h1 e1 i1 r1 z1 => ?_)
 obtain ⟨sc, hsc, h1⟩ := zae h1
 obtain rfl := zjN hsc
 obtain ⟨oa, dx, e, t, n, rfl, q1, q2, q3, q4⟩ := zlv r1
 obtain ⟨f0, fk, ne, fi, ft⟩ := k2.mt x f hf
 have II : InstAt s1.heap oa (instObj S.cev dx) S.cev (some (dictOf [e] n)) := ⟨q2, rfl, rfl, q3⟩
 have hsh : shadowIn (some (dictOf [e] n)) x = some false := by
  unfold shadowIn lookIn
  have hz : (Value.str (Str.ofString "scope") t).isStr x = false := by
   show (Str.ofString "scope" == x) = false
   exact beq_eq_false_iff_ne.mpr fun q => ne q.symm
  simp [DictEntry.refKey, q4, hz]
 refine wpAny_bind (wpAny_standAt (wpAny_bind (wpAny_holding (method_fn (kIn ok.toStaOk i1) II (plainGet_of (ok.ko.eGet x)).1 (plainGet_of (ok.ko.eGet x)).2 fi ft hsh ?_))))
 refine zaS e1 z1 ?_
 refine zaD hs hx a i1 (rd.mono e1) (P := S.K.In) (keeps_K fk) h1 hn fun vs ds σ2 g2 s2 h2 e2 i2 r2 z2 => ⟨kIn ok.toStaOk i2, ?_⟩
 refine zaS e2 z2 (wpAny_mono (co.fn (as := .v (.evr sc) :: ds.map .v) a.call i2 (.cons (.v (r1.mono e2.up)) (.of_vrs r2)) f0 h2) (fun _ _ x => x.trans (e1.trans e2) (z1.trans z2)) fun _ _ x => x)
theorem zmk {v d : V} (h : newV v = some d) : d = v /\ ((∃ l, v = .pd (.dict l)) \/ ∃ i, v = .ref i) :=
 zaJ h (fun h => zbH h fun l h1 e => bd_e h1 fun d h2 h3 => by rw [zbv h2, zdx h3]; exact ⟨e.symm, .inl ⟨_, rfl⟩⟩) fun h => zbH h fun i h1 e => by rw [zgI h1]; exact ⟨e.symm, .inr ⟨_, rfl⟩⟩
theorem zkh (ok : StaOk3 S) (k2 : KOk2 S) (no : NewOk S nd) {q pos : Pos} {e : PySem.Expr} {x : X} (hg : nmOf cx (Str.ofString "Evaluator") = some .g) (hs : zap e = false) (hx : SndX S G nd false cx e x) : SndX S G nd false cx (.Call (.Name (Str.ofString "Evaluator") q) [e] [] pos) (.new x) := by
 intro A env ev outer L Y m mc σ g s K E a I rd h
 replace h := zhE h
 rw [arm_eval_Call_Name']
 refine wpAny_bind (zaF a ok.toStaOk I.stays hg k2.eg ?_)
 have h' : evXs G S.gc m mc [x] σ (fun vs σ1 => one vs fun v => need (newV v) fun d => K (.evr d) σ1) E := h
 refine zaD (by simp [hs]) (zbp hx zcq hs) a I rd (P := S.K.In) (keeps_K k2.ek) h' (by nofun) fun vs ds σ1 g1 s1 h1 e1 i1 r1 z1 => ⟨kIn ok.toStaOk i1, ?_⟩
 refine zcv r1 h1 fun w v e rw' h1 => zaj h1 fun d hd hk => ?_
 obtain ⟨rfl, hv⟩ := zmk hd
 exact e ▸ wpAny_mono (no.new a.call i1 rw' hv) (fun _ _ x => (Is.ok hk x).trans e1 z1) fun _ _ x => x
theorem zdN (so : SubOk S) {x y : Str} {i : Nat} {b : Bool} {q pos : Pos} (hi : nmOf cx x = some (.v i)) (hy : zcF y = some b) : SndX S G nd hd cx (.Attribute (.Name x q) y pos) (.fault i b) := by
 intro A env ev outer L Y m mc σ g s K E a I rd h
 replace h := zhH h
 obtain ⟨e, he, h⟩ := zae h
 obtain ⟨hb, h⟩ := zat h
 refine zjK he fun l hm hl => ?_
 obtain rfl := zmP hl
 obtain ⟨v, n, r⟩ := rd.v x i hi _ hm
 cases r with
 | fault r =>
  rename_i ea
  rw [arm_eval_Attribute]
  refine wpAny_bind (m := eval (.Name x q) ev) (n.eval_ a.kf (zbe hi) ?_)
  refine wpAny_bind (wpAny_standAt (wpAny_bind (wpAny_holding (step (so.fault (σ := σ) a.room I r hy (fun q => by subst q; simpa using hb)) fun c f' σ3 g3 s3 h3 e3 i3 r3 z3 => ?_))))
  obtain ⟨rfl, rfl⟩ := h3
  exact wpAny_bind (wpAny_letTemporaryGo (wpAny_pure ⟨_, _, g3, h, e3, i3, r3, z3⟩))
end
section
variable {S : Sta} {G : zaa} {nd : Nat} {hd : Bool} {cx : Cx}
noncomputable def zh7 (S : Sta) (G : zaa) (nd : Nat) (hd : Bool) (cx : Cx) (e : PySem.Expr) (x : X) : Prop :=
 ∀ A env ev outer L Y m mc σ g s K E, Act S cx A env ev outer L nd hd -> Inv S (env :: outer) g σ s.heap -> Rd S cx ev Y s.heap g m mc -> evX G S.gc m mc x σ (fun v σ1 => need (txt v) fun y => K y σ1) E -> (∀ y σ, K y σ -> y.length <= sizeLine) ->
  wpAny S.M A (eval e ev) (Ok S (env :: outer) No (fun _ _ v y => ∃ t, v = .str y t) g s K) (Er S (env :: outer) No false g s E) s
theorem zf1 {x : Str} {k : Nat} {pos : Pos} : zh7 S G nd hd cx (.Constant (.str x) k pos) (.c (.str x)) := by
 intro A env ev outer L Y m mc σ g s K E a I rd h hz
 replace h := zfA h
 exact Constant_str (Ok.here (K := K) h ⟨I, .refl _ _ _⟩ ⟨_, rfl⟩ ⟨rfl, rfl, rfl⟩)
theorem ziL {e : PySem.Expr} {x : X} {pos : Pos} (hx : SndX S G nd hd cx e x) : zh7 S G nd hd cx (.FormattedValue e (-1) none pos) x := by
 intro A env ev outer L Y m mc σ g s K E a I rd h hz
 refine FormattedValue_plain (step (hx A env ev outer L Y m mc σ g s _ E a I rd h) fun v d σ1 g1 s1 h1 e1 i1 r1 z1 => ?_)
 refine zaj h1 fun y hy h1 => bd_e hy fun d hd hy => ?_
 have hsz := hz y σ1 h1
 have r : PV S.w.params s1.heap g1.κ v d := zbu (zbv hd ▸ r1)
 cases r with
 | str y' t =>
  cases hy
  exact formatField_str (fun t' tk => ⟨_, σ1, g1, h1, e1, i1, ⟨_, rfl⟩, z1⟩) hsz
 | int i t =>
  refine gd_e (c := i.natAbs.log2 < 1920) hy fun hl hy => ?_
  cases hy
  exact formatField_int_small hl ⟨_, σ1, g1, h1, e1, i1, ⟨_, rfl⟩, z1⟩
 | _ => cases hy
inductive Parts (S : Sta) (G : zaa) (nd : Nat) (hd : Bool) (cx : Cx) : List PySem.Expr -> List X -> Prop
 | nil : Parts S G nd hd cx [] []
 | cons {e : PySem.Expr} {x : X} {es : List PySem.Expr} {xs : List X} : zh7 S G nd hd cx e x -> Parts S G nd hd cx es xs -> Parts S G nd hd cx (e :: es) (x :: xs)
theorem zf0 {es : List PySem.Expr} {xs : List X} (hp : Parts S G nd hd cx es xs) : ∀ {A env ev outer L Y m mc σ g s acc} {K : Str -> Hp -> Prop} {E : KE}, Act S cx A env ev outer L nd hd -> Inv S (env :: outer) g σ s.heap -> Rd S cx ev Y s.heap g m mc -> evFs G S.gc m mc xs acc σ K E ->
  wpAny S.M A (joinParts acc (evalEach es ev)) (Ok S (env :: outer) No (fun _ _ v y => ∃ t, v = .str y t) g s K) (Er S (env :: outer) No false g s E) s := by
 induction hp with
 | nil =>
  intro A env ev outer L Y m mc σ g s acc K E a I rd h
  exact joinParts_nil (Ok.here (K := K) (za9 h).2 ⟨I, .refl _ _ _⟩ ⟨_, rfl⟩ ⟨rfl, rfl, rfl⟩) (za9 h).1
 | cons hx _ ih =>
  intro A env ev outer L Y m mc σ g s acc K E a I rd h
  replace h := zej h
  rw [arm_evalEach_cons]
  refine joinParts_cons (step (hx A env ev outer L Y m mc σ g s _ E a I rd h fun y σ q => (za9 q).1.1) fun v y σ1 g1 s1 h1 e1 i1 r1 z1 => ?_)
  obtain ⟨t, rfl⟩ := r1
  replace h1 := za9 h1
  exact ⟨h1.1.2, zdq e1 z1 (ih a i1 (rd.mono e1) h1.2)⟩
theorem zce (y : Str) : Str.empty ++ y = y := by
 obtain ⟨a⟩ := y
 show Str.mk (#[] ++ a) = Str.mk a
 simp
theorem zio {es : List PySem.Expr} {xs : List X} {pos : Pos} (hp : Parts S G nd hd cx es xs) : SndX S G nd hd cx (.JoinedStr es pos) (.fstr xs) := by
 intro A env ev outer L Y m mc σ g s K E a I rd h
 replace h := zhC h
 rw [arm_eval_JoinedStr]
 have gen : wpAny S.M A (joinParts Str.empty (evalEach es ev)) (Ok S (env :: outer) No (RV S) g s K) (Er S (env :: outer) No false g s E) s :=
  wpAny_mono (zf0 hp a I rd h) (fun v s' ⟨y, σ', g', k, e, i, ⟨t, q⟩, z⟩ => ⟨_, σ', g', k, e, i, q ▸ .pd (.str _ _), z⟩) fun _ _ x => x
 cases hp with
 | nil => exact gen
 | cons hx hr =>
  cases hr with
  | nil =>
   replace h := zej h
   refine wpAny_mono (hx A env ev outer L Y m mc σ g s (fun y σ1 => whenL (y.length <= sizeLine /\ (Str.empty ++ y).length <= sizeLine) (evFs G S.gc m mc [] (Str.empty ++ y) σ1 (fun x σ' => K (.pd (.str x)) σ') E)) E a I rd h fun y σ q => (za9 q).1.1) (fun v s' ⟨y, σ', g', k, e, i, ⟨t, q⟩, z⟩ => ⟨.pd (.str y), σ', g', ?_, e, i, (show VR S s'.heap g' v (.pd (.str y)) from q ▸ .pd (.str _ _)), z⟩) fun _ _ x => x
   have := (za9 (za9 k).2).2
   rw [zce] at this
   exact this
  | cons => exact gen
inductive RKs (S : Sta) (h : Heap) (g : Gh) : List (Value × Value) -> List (Str × V) -> Prop
 | nil : RKs S h g [] []
 | cons {k : Str} {t : Tok} {v : Value} {x : V} {vs : List (Value × Value)} {xs : List (Str × V)} : VR S h g v x -> RKs S h g vs xs -> RKs S h g ((.str k t, v) :: vs) ((k, x) :: xs)
noncomputable def zh6 (S : Sta) (G : zaa) (nd : Nat) (hd : Bool) (cx : Cx) (ks : List (Option PySem.Expr)) (es : List PySem.Expr) (xs : List (Str × X)) : Prop :=
 ∀ A env ev outer L Y m mc σ g s K E pos, Act S cx A env ev outer L nd hd -> Inv S (env :: outer) g σ s.heap -> Rd S cx ev Y s.heap g m mc -> evKs G S.gc m mc xs σ K E ->
  wpAny S.M A (evalPairs (pairTrees ks es ev pos)) (Ok S (env :: outer) No (fun h g v d => RKs S h g v d) g s K) (Er S (env :: outer) No false g s E) s
theorem zmE : zh6 S G nd hd cx [] [] [] := by
 intro A env ev outer L Y m mc σ g s K E pos a I rd h
 exact pairTrees_nil_walk (Ok.here (K := K) h ⟨I, .refl _ _ _⟩ .nil (.refl _))
theorem zkR {k : Str} {n : Nat} {p : Pos} {e : PySem.Expr} {x : X} {ks : List (Option PySem.Expr)} {es : List PySem.Expr} {xs : List (Str × X)} (hx : SndX S G nd hd cx e x) (hr : zh6 S G nd hd cx ks es xs) :
  zh6 S G nd hd cx (some (.Constant (.str k) n p) :: ks) (e :: es) ((k, x) :: xs) := by
 intro A env ev outer L Y m mc σ g s K E pos a I rd h
 replace h := zhP h
 refine pairTrees_cons_walk (Constant_str ?_)
 refine zaS (s := s) (s1 := { s with toks := s.toks + 1 }) (.refl _ _ _) ⟨rfl, rfl, rfl⟩ (step (hx A env ev outer L Y m mc σ g { s with toks := s.toks + 1 } _ E a I rd h) fun v d σ1 g1 s1 h1 e1 i1 r1 z1 => ?_)
 refine zaS e1 z1 (step (hr A env ev outer L Y m mc σ1 g1 s1 _ E pos a i1 (rd.mono e1) h1) fun vs ds σ2 g2 s2 h2 e2 i2 r2 z2 => ?_)
 exact ⟨(k, d) :: ds, σ2, g2, h2, e1.trans e2, i2, .cons (r1.mono e2.up) r2, z1.trans z2⟩
theorem zfh {h : Heap} {g : Gh} {vs : List (Value × Value)} {xs : List (Str × V)} (r : RKs S h g vs xs) : allStrKeys vs = true /\ (strPairs vs).map (·.1) = xs.map (·.1) := by
 induction r with
 | nil => exact ⟨rfl, rfl⟩
 | cons a _ ih => exact ⟨ih.1, by simp [strPairs, ih.2]⟩
theorem zca : ∀ {l : List Str}, zdU l = true -> l.Nodup
 | [], _ => List.nodup_nil
 | k :: r, h => by
  simp only [zdU, Bool.and_eq_true] at h
  refine List.nodup_cons.mpr ⟨?_, zca h.2⟩
  have : ∀ {l : List Str}, zfu k l = true -> k ∉ l := by
   intro l
   induction l with
   | nil => intro _ h; cases h
   | cons a r ih =>
    intro h hm
    simp only [zfu, Bool.and_eq_true] at h
    rcases List.mem_cons.mp hm with rfl | hm
    ·simp [sb] at h
    ·exact ih h.2 hm
  exact this h.1
theorem zgV {h : Heap} {g : Gh} {vs : List (Value × Value)} {xs : List (Str × V)} (r : RKs S h g vs xs) : ∀ {es : List DictEntry}, (∀ e ∈ es, ∃ k, Value.isStrOf k e.key = true /\ e.hash = hashStr S.w k) -> Pairs (zcf S) es (strPairs vs) -> (xs.map (·.1)).Nodup -> VEs S h g es xs := by
 induction r with
 | nil => intro es _ p _; cases p; exact .nil
 | @cons k t v x vs xs a r ih =>
  intro es hk p hn
  cases p with
  | @cons e kv es kvs p1 p2 p3 =>
   have p1 : Value.isStrOf k e.key = true := p1
   have p2 : e.val = v := p2
   obtain ⟨t', hkey⟩ := Value.isStrOf_shape p1
   rw [List.map_cons, List.nodup_cons] at hn
   refine .cons (t := t') hkey ?_ (p2 ▸ a) (fun e' he' => ?_) (ih (fun e' he' => hk e' (.tail _ he')) p3 hn.2)
   ·obtain ⟨k', h1, h2⟩ := hk e (.head _)
    have := Value.isStrOf_inj _ _ _ h1 p1
    subst this
    exact h2
   ·cases hz : e'.key.isStr k with
    | false => rfl
    | true =>
     refine absurd ?_ hn.1
     have hm : ∀ {es : List DictEntry} {kvs : List (Str × Value)}, Pairs (zcf S) es kvs -> e' ∈ es -> k ∈ kvs.map (·.1) := by
      intro es kvs p
      induction p with
      | nil => intro h; cases h
      | @cons e kv es kvs q1 q2 q3 ih2 =>
       intro h
       rcases List.mem_cons.mp h with rfl | h
       ·have hz' : Value.isStrOf k e'.key = true := by
         revert hz; cases e'.key <;> intro hz <;> first | exact hz | cases hz
        have : kv.1 = k := Value.isStrOf_inj _ _ _ q1 hz'
        rw [List.map_cons, this]; exact .head _
       ·exact .tail _ (ih2 h)
     have := hm p3 he'
     rwa [(zfh r).2] at this
theorem RKs.mono {h h' : Heap} {g g' : Gh} {vs : List (Value × Value)} {xs : List (Str × V)} (u : Up g g' h h') (r : RKs S h g vs xs) : RKs S h' g' vs xs := by
 induction r with
 | nil => exact .nil
 | cons a _ ih => exact .cons (a.mono u) ih
theorem zkl (ok : StaOk S) {ks : List (Option PySem.Expr)} {es : List PySem.Expr} {xs : List (Str × X)} {b : Bool} {pos : Pos} (hall : ks.all (·.isSome) = true) (hl : ks.length = es.length) (h0 : ks ≠ []) (hlen : ks.length <= 15) (hx : zh6 S G nd hd cx ks es xs) :
  SndX S G nd hd cx (.Dict ks es pos) (.dct b xs) := by
 intro A env ev outer L Y m mc σ g s K E a I rd h
 replace h := zi9 h
 have kp : ∀ b o, s.heap.get? b = some o -> (s.heap.push { cls := .type "dict", data := .dict #[] }).get? b = some o := fun b o q => Heap.get?_push_of_some _ q
 have hn : s.heap.get? s.heap.objs.size = none := Heap.get?_none_of_le (Nat.le_refl _)
 have hat : (s.heap.push { cls := .type "dict", data := .dict #[] }).get? s.heap.objs.size = some { cls := .type "dict", data := .dict #[] } := Heap.get?_push_size _ rfl
 have kd0 : g.κ s.heap.objs.size = .ot := I.ot _ hn
 obtain ⟨I0, E0⟩ := I.keeps kp
 refine wpAny_Dict_walk (knd := zcf S) hall hl h0 hlen ?_
 refine zaS (s1 := { s with heap := s.heap.push { cls := .type "dict", data := .dict #[] } }) E0 ⟨rfl, rfl, rfl⟩ (step (hx A env ev outer L Y m mc σ g { s with heap := s.heap.push { cls := .type "dict", data := .dict #[] } } _ E pos a I0 (rd.mono E0) h) fun vs kvs σ1 g1 s1 h1 e1 i1 r1 z1 => ?_)
 obtain ⟨hnd, h1⟩ := zat h1
 have hat1 := e1.keep _ _ hat id (by rw [kd0]; decide) (by rw [kd0]; decide) (by rw [kd0]; decide) (by rw [kd0]; decide)
 have kd1 : g1.κ s.heap.objs.size = .ot := (e1.kind _ _ hat).trans kd0
 obtain ⟨hstr, hkeys⟩ := zfh r1
 have hnod := zca hnd
 refine display_done_str hstr (by rw [hkeys]; exact hnod) ⟨_, _, _, hat1, ⟨rfl, rfl, rfl⟩, rfl, by intro e he; simp at he, .nil, List.nodup_nil⟩ fun h' hd' sb => ?_
 obtain ⟨⟨oc, od, odt, osl⟩, es', ep, q1, ⟨q2, q3, q4⟩, q5, q6, q7, q8⟩ := hd'
 simp only at q2 q3 q4 q5
 subst q2 q3 q4 q5
 have E2 : Ext No g g1 s.heap s1.heap := E0.trans e1
 have kp1 : ∀ b o, b ≠ s.heap.objs.size -> s1.heap.get? b = some o -> h'.get? b = some o := fun b o q e => (sb.2 b q).trans e
 have mk : ∀ {g2 : Gh}, Up g1 g2 s1.heap h' -> VEs S h' g2 es'.toList kvs := fun u => zgV (r1.mono u) (fun e he => q6 e (by simpa using he)) q7 hnod
 cases b with
 | true =>
  obtain ⟨I3, E3⟩ := Inv.sealMu (o := .dict kvs) E2 i1 hn kd1 ⟨_, hat1⟩ kp1 fun u => .dict (by simpa using q1) (mk u)
  refine ⟨_, _, _, h1, E3, I3, ?_, z1.trans ⟨rfl, rfl, rfl⟩⟩
  have : (g1.mu s.heap.objs.size).μ σ1.length = s.heap.objs.size := by rw [i1.num]; exact if_pos rfl
  conv => lhs; rw [← this]
  exact .ref (by show σ1.length < g1.n + 1; rw [i1.num]; exact Nat.lt_succ_self _)
 | false =>
  obtain ⟨ds, hds, h1⟩ := zae h1
  obtain ⟨I3, E3, U3⟩ := Inv.seal (k := .fz) E2 i1 hn kd1 kp1 q1
  exact ⟨_, _, _, h1, E3, I3, .pd (.dict (if_pos rfl) q1 (zeM ok I) (VEs.pes (mk U3) hds)), z1.trans ⟨rfl, rfl, rfl⟩⟩
end
section
variable {S : Sta} {fr : List Env} {g g0 : Gh} {σ : Hp} {h0 h h' : Heap} {z : Addr} {X : Addr -> Prop}
theorem zaB (E : Ext X g0 g h0 h) (I : Inv S fr g σ h) (n : h0.get? z = none) (k : g.κ z = .ot) (x : Heap.ExtBut z h h') : Ext X g0 g h0 h' /\ Inv S fr g σ h' := by
 have kp : ∀ b o, g.κ b ≠ .ot -> h.get? b = some o -> h'.get? b = some o := fun b o q e => x b o (fun w => q (w ▸ k)) e
 have k0 : ∀ b o, h0.get? b = some o -> b ≠ z := fun b o e w => by rw [w, n] at e; cases e
 refine ⟨⟨E.kind, E.num, E.addr, fun b o q e => ⟨(E.fz b o q e).1, x b o (k0 b o e) (E.fz b o q e).2⟩, fun b o e a1 a2 a3 a4 a5 => x b o (k0 b o e) (E.keep b o e a1 a2 a3 a4 a5), fun b o e a1 a2 => ?_, fun b o vs e a1 a2 a3 => ?_, fun b o e => ?_⟩,
  ⟨fun b o e => kp b o (by rw [I.bfz b o e]; decide) (I.stays b o e), I.bfz, fun b e => ?_, I.num, fun i o e => ?_, I.km, I.inj, ?_, I.tb.mono (fun b o q e => ⟨q, kp b o (by rw [q]; decide) e⟩) I.tb.k fun o q => kp _ o (by rw [I.tb.k]; decide) q⟩⟩
 ·obtain ⟨sl, y⟩ := E.frs b o e a1 a2; exact ⟨sl, x b _ (k0 b o e) y⟩
 ·obtain ⟨ws, y⟩ := E.exs b o vs e a1 a2 a3; exact ⟨ws, x b _ (k0 b o e) y⟩
 ·obtain ⟨o', y⟩ := E.still b o e; exact ⟨o', x b _ (k0 b o e) y⟩
 ·by_cases w : b = z
  ·rw [w]; exact k
  ·refine I.ot b ?_
   cases y : h.get? b with
   | none => rfl
   | some o => rw [x b o w y] at e; cases e
 ·have U : Up g g h h' := ⟨Nat.le_refl _, fun _ _ => rfl, fun b o q e => ⟨q, kp b o (by rw [q]; decide) e⟩⟩
  exact (I.mu i o e).mono_at U fun ob q => kp _ _ (by rw [I.km i (I.lt e)]; decide) q
 ·exact ⟨zax (fun L m o ho => ⟨o.slots, kp L o (by rw [I.fr.2 L m]; decide) ho⟩) I.fr.1, I.fr.2⟩
theorem zbc (I : Inv S fr g σ h) (k : g.κ z = .ot) (x : Heap.ExtBut z h h') : Up g g h h' :=
 ⟨Nat.le_refl _, fun _ _ => rfl, fun b o q e => ⟨q, x b o (fun w => by rw [w, k] at q; cases q) e⟩⟩
end
noncomputable def isL : V -> Bool
 | .pd d => (za7 d).isSome
 | .ref _ => true
 | _ => false
inductive ItAt (h : Heap) (it : Addr) (v : Value) (x : V) (k : Nat) : Prop
 | l (a : Addr) (q : isL x = true) (e : v = .ref a) (i : h.IsListIter it a k)
 | t (a : Addr) (l : List PyData) (q : x = .pd (.tuple l)) (e : v = .ref a) (i : IsTupIter h it a k)
 | r (lo hi : Int) (q : x = .rng lo hi) (i : IsRangeIter h it (lo + (k : Nat)) (((hi - lo).toNat : Int) - (k : Nat)) 1)
theorem ItAt.at {h h' : Heap} {it : Addr} {v : Value} {x : V} {k : Nat} (e : ∀ o, h.get? it = some o -> h'.get? it = some o) (i : ItAt h it v x k) : ItAt h' it v x k := by
 cases i with
 | l a q u i => obtain ⟨o, h1, h2⟩ := i; exact .l a q u ⟨o, e _ h1, h2⟩
 | t a l q u i => obtain ⟨o, h1, h2⟩ := i; exact .t a l q u ⟨o, e _ h1, h2⟩
 | r lo hi q i => exact .r lo hi q (e _ i)
inductive ItHas (h : Heap) (it : Addr) : Prop
 | mk (o : Obj) (n : String) (vs : Array Value) (e : h.get? it = some o) (c : o.cls = .type n) (d : o.data = .fields vs) (z : ["enumerate", "zip", "dict_itemiterator", "dict_reverseitemiterator", "odict_iterator", "itertools.zip_longest", "itertools.pairwise"].contains n = false)
theorem ItAt.has {h : Heap} {it : Addr} {v : Value} {x : V} {k : Nat} (i : ItAt h it v x k) : ItHas h it := by
 cases i with
 | l a q u i => obtain ⟨o, h1, h2, h3⟩ := i; exact ⟨o, _, _, h1, h2, h3, by decide⟩
 | t a l q u i => obtain ⟨o, h1, h2, h3⟩ := i; exact ⟨o, _, _, h1, h2, h3, by decide⟩
 | r lo hi q i => exact ⟨_, _, _, i, rfl, rfl, by decide⟩
theorem ziB {σ : Hp} {i : Nat} {l : List PyData} (e : seqT σ (.ref i) = some l) : rd σ (.ref i) = some (.list l) :=
 bd_e e fun d h1 e => zaJ e (fun h2 => by rw [h1, zbf h2]) fun h2 => zcY h1 (fun l _ q => by rw [q] at h2; cases h2) fun l ds _ _ q => by rw [q] at h2; cases h2
section
variable {S : Sta} {fr : List Env} {A : Around} {g : Gh} {σ : Hp} {s : Shared} {Ev : Value -> Shared -> Prop}
theorem zcz {P : Prop} {x : V} {l : List PyData} (e : zac σ x = some l) (kl : isL x = true -> rd σ x = some (.list l) -> P) (kt : x = .pd (.tuple l) -> P) (kr : ∀ lo hi, x = .rng lo hi -> l = zaQ lo hi -> -(2 ^ 62) <= lo /\ lo < 2 ^ 62 /\ -(2 ^ 62) <= hi /\ hi < 2 ^ 62 -> P) : P := by
 refine zaJ e (fun e => ?_) fun e => bd_e e fun p h1 e => gd_e e fun b e => kr p.1 p.2 (zgH h1) e.symm b
 cases x with
 | pd d =>
  refine zaJ (c := l) e (fun h => ?_) fun h => kt (by rw [zcn h])
  exact kl (by show (za7 d).isSome = true; rw [h]; rfl) (by rw [zbf h]; rfl)
 | ref i => exact kl rfl (ziB e)
 | _ => cases e
theorem zhd {x : V} {l : List PyData} (q : isL x = true) (e : zac σ x = some l) : rd σ x = some (.list l) :=
 zcz e (fun _ h => h) (fun h => by rw [h] at q; cases q) fun lo hi h => by rw [h] at q; cases q
theorem zb0 {x : V} {l : List PyData} {v : Value} {Q : Value -> Shared -> Prop} (I : Inv S fr g σ s.heap) (r : VR S s.heap g v x) (e : zac σ x = some l)
  (hQ : ∀ o, ItAt (s.heap.push o) s.heap.objs.size v x 0 -> Q (.ref s.heap.objs.size) { s with heap := s.heap.push o }) : wpAny S.M A (pyIter v) Q Ev s := by
 refine zcz e (fun q e => ?_) (fun q => ?_) fun lo hi q _ b => ?_
 ·obtain ⟨a, vs, rfl, hl, p⟩ := r.isList I e
  exact wpAny_pyIter_list hl (hQ _ (.l a q rfl ⟨_, Heap.get?_push_size _ rfl, rfl, rfl⟩))
 ·obtain ⟨a, vs, rfl, hl, p⟩ := (q ▸ r).isTup (σ := σ) rfl
  exact iter_tuple hl (hQ _ (.t a l q rfl ⟨_, Heap.get?_push_size _ rfl, rfl, rfl⟩))
 ·have r := q ▸ r
  cases r with
  | rng k e =>
   refine wpAny_pyIter_range e (zcr b.1 b.2.1 b.2.2.1 b.2.2.2) (hQ _ (.r lo hi q ?_))
   show IsRangeIter _ _ _ _ _
   rw [rangeSize_nat]
   simpa using Heap.get?_push_size s.heap (o := { cls := .type "range_iterator", data := .fields #[rawInt lo, rawInt ((hi - lo).toNat : Int), rawInt 1] }) rfl
theorem zd0 {x : V} {v : Value} {it : Addr} {k : Nat} {Q : Value -> Shared -> Prop} (i : ItAt s.heap it v x k) (h : Q (.ref it) s) : wpAny S.M A (pyIter (.ref it)) Q Ev s := by
 cases i with
 | l a q u i => exact wpAny_pyIter_listiter i h
 | t a l q u i => exact wpAny_pyIter_tupleiter i h
 | r lo hi q i => exact wpAny_pyIter_rangeiter i h
theorem zmF {lo hi : Int} {l : List PyData} (e : zac σ (.rng lo hi) = some l) : l = zaQ lo hi := gd_e (x := zaQ lo hi) e fun _ q => q.symm
theorem zd1 {x : V} {l : List PyData} {v : Value} {it : Addr} {k : Nat} {Q : Option Value -> Shared -> Prop} (hn : A.handled = none) (I : Inv S fr g σ s.heap) (r : VR S s.heap g v x) (e : zac σ x = some l) (i : ItAt s.heap it v x k) (hk : k <= l.length)
  (h1 : ∀ w d h' tk, l[k]? = some d -> PV S.w.params s.heap g.κ w d -> Heap.SameBut it s.heap h' -> ItAt h' it v x (k + 1) -> Q (some w) { s with heap := h', toks := tk })
  (h2 : ∀ h', k = l.length -> Heap.ExtBut it s.heap h' -> Q none { s with heap := h' }) : wpAny S.M A (pyNext (.ref it)) Q Ev s := by
 cases i with
 | l a q u i =>
  obtain ⟨a', vs, hv', hl, p⟩ := r.isList I (zhd q e)
  rw [u] at hv'; cases hv'
  have hlen : vs.size = l.length := p.length
  rcases Nat.lt_or_ge k l.length with hlt | hge
  ·obtain ⟨w, hw, pw⟩ := p.getA (List.getElem?_eq_getElem hlt)
   exact wpAny_pyNext_list_item i hl hw fun h' i'' sb => h1 w _ h' s.toks (List.getElem?_eq_getElem hlt) pw sb (.l a q u i'')
  ·exact wpAny_pyNext_list_end hn i hl (Array.getElem?_eq_none (by rw [hlen]; exact hge)) fun h' eb => h2 h' (Nat.le_antisymm hk hge) eb
 | t a l' q u i =>
  obtain rfl : l' = l := Option.some.inj (show zac σ (.pd (.tuple l')) = some l from q ▸ e)
  obtain ⟨a', vs, hv', hl, p⟩ := (q ▸ r).isTup (σ := σ) rfl
  rw [u] at hv'; cases hv'
  have hlen : vs.size = l'.length := p.length
  rcases Nat.lt_or_ge k l'.length with hlt | hge
  ·obtain ⟨w, hw, pw⟩ := p.getA (List.getElem?_eq_getElem hlt)
   exact next_tuple_item i hl hw fun h' i'' sb => h1 w _ h' s.toks (List.getElem?_eq_getElem hlt) pw sb (.t a _ q u i'')
  ·exact next_tuple_end hn i hl (Array.getElem?_eq_none (by rw [hlen]; exact hge)) fun h' eb => h2 h' (Nat.le_antisymm hk hge) eb
 | r lo hi q i =>
  obtain rfl := zmF (q ▸ e)
  have hl : (zaQ lo hi).length = (hi - lo).toNat := by simp [zaQ]
  rw [hl] at hk h2
  rcases Nat.lt_or_ge k (hi - lo).toNat with hlt | hge
  ·refine wpAny_pyNext_range_item i (by omega) fun h' i'' sb => h1 _ (.int (lo + k)) h' _ (by simp [zaQ, hlt]) (.int _ _) sb (.r lo hi q ?_)
   show IsRangeIter _ _ _ _ _
   have e1 : lo + ((k + 1 : Nat) : Int) = lo + (k : Int) + 1 := by omega
   have e2 : ((hi - lo).toNat : Int) - ((k + 1 : Nat) : Int) = ((hi - lo).toNat : Int) - (k : Int) - 1 := by omega
   rw [e1, e2]; exact i''
  ·exact wpAny_pyNext_range_end hn i (by omega) fun h' eb => h2 h' (Nat.le_antisymm hk hge) eb
theorem zjC {te : PySem.Expr} {x : V} {v w : Value} {it : Addr} {k : Nat} {Q : Unit -> Shared -> Prop} (i : ItAt s.heap it v x k) (h : Q () s) : wpAny S.M A (letOwnedTupleGo te (.ref it) w) Q Ev s := by
 obtain ⟨o, n, vs, h1, h2, h3, this⟩ := i.has
 have : wpAny S.M A (do
   let (.ref r, .ref a) := (Value.ref it, w) | return
   let o ← load r
   match o.cls, o.data with
   | .type n, .fields vs =>
    if ["enumerate", "zip", "dict_itemiterator", "dict_reverseitemiterator", "odict_iterator", "itertools.zip_longest", "itertools.pairwise"].contains n && vs[0]? == some (rawInt a) then
     rule "for.unpacks-the-owned-tuple"
     updateField r 0 .none
   | _, _ => pure ()) Q Ev s := by
  cases w with
  | ref a =>
   refine wpAny_bind (wpAny_load h1 ?_)
   rw [h2, h3]
   dsimp only
   rw [this]
   exact wpAny_pure h
  | _ => exact wpAny_pure h
 cases te with
 | Tuple => exact this
 | List => exact this
 | _ => exact wpAny_pure h
end
set_option backward.match.sparseCases false
noncomputable abbrev Fz1 (g : Gh) (h h' : Heap) : Prop := Fz g.κ g.κ h h'
theorem Fz1.trans {g : Gh} {h h' h'' : Heap} (x : Fz1 g h h') (y : Fz1 g h' h'') : Fz1 g h h'' := fun a o k e => y a o (x a o k e).1 (x a o k e).2
structure Sto (S : Sta) (A : Around) (g : Gh) (names : Names) (env : Env) (Pm : Fm -> Shared -> Prop) : Prop where
 hn : A.handled = none
 st : ∀ x i k v d m s Q Ev, zao names x 0 = some (i, k) -> (k = .local \/ k = .cell) -> i < m.length -> Pm m s -> PV S.w.params s.heap g.κ v d -> (∀ s', Pm (zaw m i (some (.v (.pd d)))) s' -> Fz1 g s.heap s'.heap -> Q () s') -> wpAny S.M A (storeName env x v) Q Ev s
 new : ∀ m s h', Pm m s -> Heap.ExtBut s.heap.objs.size s.heap h' -> Pm m { s with heap := h' }
section
variable {S : Sta} {A : Around} {g : Gh} {names : Names} {env : Env} {Pm : Fm -> Shared -> Prop}
theorem zbg {h h' : Heap} (x : Heap.ExtBut h.objs.size h h') : ∀ b o, h.get? b = some o -> h'.get? b = some o := fun b o e => x b o (Nat.ne_of_lt (Heap.lt_size e)) e
noncomputable def TgOk (S : Sta) (names : Names) (te : PySem.Expr) (t : Tg) : Prop := ∀ {A g env Pm}, Sto S A g names env Pm -> ∀ v d m m' s Q Ev, tgFm m t d = some m' -> Pm m s -> PV S.w.params s.heap g.κ v d -> (∀ s', Pm m' s' -> Fz1 g s.heap s'.heap -> Q () s') -> wpAny S.M A (assign te env v) Q Ev s
inductive TgsOk (S : Sta) (names : Names) : List PySem.Expr -> List Tg -> Prop
 | nil : TgsOk S names [] []
 | cons {te : PySem.Expr} {t : Tg} {tes : List PySem.Expr} {ts : List Tg} : TgOk S names te t -> zap te = false -> TgsOk S names tes ts -> TgsOk S names (te :: tes) (t :: ts)
theorem zbm {e : PySem.Expr} {r : List PySem.Expr} (h : zap e = false) : assignEach (e :: r) env = (false, assign e env) :: assignEach r env := by
 cases e <;> first | rfl | cases h
theorem zj1 {es : List PySem.Expr} {ts : List Tg} (h : TgsOk S names es ts) : (assignEach es env).length = ts.length /\ (assignEach es env).findIdx? (·.1) = none := by
 induction h with
 | nil => exact ⟨rfl, rfl⟩
 | cons _ hs _ ih =>
  rw [zbm hs]
  refine ⟨congrArg (· + 1) ih.1, ?_⟩
  rw [List.findIdx?_cons, ih.2]; rfl
theorem zgm {ts : List Tg} : ∀ {ds : List PyData} {m m' : Fm}, tgsFm m ts ds = some m' -> ts.length = ds.length := by
 induction ts with
 | nil =>
  intro ds m m' h
  cases ds with
  | nil => rfl
  | cons => cases h
 | cons t ts ih =>
  intro ds m m' h
  cases ds with
  | nil => cases h
  | cons d ds => exact bd_e (k := fun m' => tgsFm m' ts ds) h fun m1 _ h => congrArg (· + 1) (ih h)
theorem zgn {x : Str} {i : Nat} {p : Pos} (hi : zdf names x = some i) : TgOk S names (.Name x p) (.n i) := fun sto v d m m' s Q Ev hm p r hQ =>
 gd_e (c := i < m.length) hm fun hl e => by
  subst e
  obtain ⟨k, h1, h2⟩ := zbS hi
  exact wpAny_assign_Name (sto.st x i k v d m s Q Ev h1 h2 hl p r hQ)
theorem zj2 {tes : List PySem.Expr} {ts : List Tg} (h : TgsOk S names tes ts) (sto : Sto S A g names env Pm) : ∀ vs ds m m' s Q Ev, tgsFm m ts ds = some m' -> Pm m s -> PVs S.w.params s.heap g.κ vs ds -> (∀ s', Pm m' s' -> Fz1 g s.heap s'.heap -> Q () s') -> wpAny S.M A (assignInOrder ((assignEach tes env).map (·.2)) vs) Q Ev s := by
 induction h with
 | nil =>
  intro vs ds m m' s Q Ev hm p r hQ
  cases r with
  | nil => exact assignInOrder_nil (hQ s (Option.some.inj hm ▸ p) fun a o k e => ⟨k, e⟩)
  | cons => cases hm
 | cons ht hs _ ih =>
  intro vs ds m m' s Q Ev hm p r hQ
  cases r with
  | nil => cases hm
  | cons a r =>
   refine bd_e (k := fun m1 => tgsFm m1 _ _) hm fun m1 hm1 hm => ?_
   rw [zbm hs]
   refine assignInOrder_cons (ht sto _ _ m m1 s _ Ev hm1 p a fun s' p' fz => ?_)
   exact ih _ _ m1 m' s' Q Ev hm p' (r.mono fz) fun s'' a b => hQ s'' a (fz.trans b)
theorem zlH {es : List PySem.Expr} {k : Nat} {p : Pos} {ts : List Tg} (h : TgsOk S names es ts) : TgOk S names (.Tuple es k p) (.t ts) := fun {A g env Pm} sto v d m m' s Q Ev hm p r hQ => by
 cases r with
 | @tuple a o vs n' ds k e c d' q =>
  obtain ⟨q1, q2⟩ := zj1 (env := env) h
  refine assign_Tuple_tuple sto.hn ⟨o, e, c, n', d'⟩ (by rw [q1, zgm hm, ← q.length]; rfl) q2 fun h' eb => ?_
  have fz : Fz1 g s.heap h' := fun a o k e => ⟨k, zbg eb a o e⟩
  exact zj2 h sto vs.toList _ m m' { s with heap := h' } Q Ev hm (sto.new m s h' p eb) (q.mono fz) fun s' a b => hQ s' a (fz.trans b)
 | _ => cases hm
end
noncomputable def tgX (S : Sta) (names : Names) : Nat -> ∀ te : PySem.Expr, Option {t : Tg // TgOk S names te t}
 | 0, _ => none
 | n + 1, te => match te with
  | .Name x p => opt (zdf names x) fun i hi => some ⟨.n i, zgn hi⟩
  | .Tuple es k p => bnd (go n es) fun ts h => some ⟨.t ts, zlH h⟩
  | _ => none
where go (n : Nat) : ∀ es : List PySem.Expr, Option {ts : List Tg // TgsOk S names es ts}
 | [] => some ⟨[], .nil⟩
 | e :: r => chk (!zap e) fun hs => bnd (tgX S names n e) fun t h => bnd (go n r) fun ts hr => some ⟨t :: ts, .cons h (by cases q : zap e <;> first | rfl | (rw [q] at hs; cases hs)) hr⟩
set_option backward.match.sparseCases true
structure Pres (C D it : Addr) (P : Gh -> Heap -> Prop) : Prop where
 ext : ∀ {g g' h h'}, Ext No g g' h h' -> P g h -> P g' h'
 but : ∀ {g h h' z}, (z = C \/ z = D \/ z = it) -> g.κ z = .ot -> Heap.ExtBut z h h' -> P g h -> P g h'
noncomputable abbrev Any : Gh -> Heap -> Prop := fun _ _ => True
theorem Pres.any {C D it : Addr} : Pres C D it Any := ⟨fun _ _ => ⟨⟩, fun _ _ _ _ => ⟨⟩⟩
structure CL (S : Sta) (fr : List Env) (g1 : Gh) (s1 : Shared) (C D it : Addr) (v : Value) (x : V) (P : Gh -> Heap -> Prop) (k : Nat) (acc : List PyData) (g : Gh) (σ : Hp) (s : Shared) : Prop where
 E : Ext No g1 g s1.heap s.heap
 I : Inv S fr g σ s.heap
 z : Rest s1 s
 kC : g.κ C = .ot
 kD : g.κ D = .ot
 kI : g.κ it = .ot
 C : ∃ mp, s.heap.Ns C mp
 D : ∃ vs n, s.heap.get? D = some ⟨.type "list", none, .seq vs n, #[]⟩ /\ PVs S.w.params s.heap g.κ vs.toList acc
 it : ItAt s.heap it v x k
 p : P g s.heap
structure Apart3 (h : Heap) (C D it : Addr) : Prop where
 nC : h.get? C = none
 nD : h.get? D = none
 nI : h.get? it = none
 cd : C ≠ D
 ci : C ≠ it
 di : D ≠ it
theorem zcy {g g' : Gh} {h h' : Heap} (E : Ext No g g' h h') {a : Addr} (k : g.κ a = .ot) {o : Obj} (e : h.get? a = some o) : h'.get? a = some o := E.keep a o e id (by rw [k]; decide) (by rw [k]; decide) (by rw [k]; decide) (by rw [k]; decide)
section
variable {S : Sta} {fr : List Env} {g1 g g' : Gh} {s1 s s' : Shared} {C D it : Addr} {v : Value} {x : V} {P : Gh -> Heap -> Prop} {k : Nat} {acc : List PyData} {σ σ' : Hp}
theorem CL.mono (pp : Pres C D it P) (c : CL S fr g1 s1 C D it v x P k acc g σ s) (E : Ext No g g' s.heap s'.heap) (I : Inv S fr g' σ' s'.heap) (z : Rest s s') : CL S fr g1 s1 C D it v x P k acc g' σ' s' := by
 obtain ⟨mp, ns⟩ := c.C
 obtain ⟨vs, n, d1, d2⟩ := c.D
 obtain ⟨o, _, _, hi, _, _, _⟩ := c.it.has
 obtain ⟨oC, _, _, hC, _⟩ := id ns
 exact ⟨c.E.trans E, I, c.z.trans z, (E.kind _ _ hC).trans c.kC, (E.kind _ _ d1).trans c.kD, (E.kind _ _ hi).trans c.kI, ⟨mp, zbd (fun o e => zcy E c.kC e) ns⟩, ⟨vs, n, zcy E c.kD d1, d2.mono E.fz⟩, c.it.at fun o e => zcy E c.kI e, pp.ext E c.p⟩
theorem CL.moved (c : CL S fr g1 s1 C D it v x P k acc g σ s) (ap : Apart3 s1.heap C D it) (pp : Pres C D it P) {h' : Heap} {tk k' : Nat} (sb : Heap.SameBut it s.heap h') (i : ItAt h' it v x k') : CL S fr g1 s1 C D it v x P k' acc g σ { s with heap := h', toks := tk } := by
 obtain ⟨E, I⟩ := zaB c.E c.I ap.nI c.kI sb.extBut
 have U := zbc c.I c.kI sb.extBut
 obtain ⟨mp, ns⟩ := c.C
 obtain ⟨vs, n, d1, d2⟩ := c.D
 exact ⟨E, I, ⟨c.z.1, c.z.2.1, c.z.2.2⟩, c.kC, c.kD, c.kI, ⟨mp, zbd (fun o e => sb.extBut _ o ap.ci e) ns⟩, ⟨vs, n, sb.extBut _ _ ap.di d1, d2.mono U.fz⟩, i, pp.but (.inr (.inr rfl)) c.kI sb.extBut c.p⟩
theorem CL.named (c : CL S fr g1 s1 C D it v x P k acc g σ s) (ap : Apart3 s1.heap C D it) (pp : Pres C D it P) {h' : Heap} {tk : Nat} {mp : Str -> Option Value} (sb : Heap.SameBut C s.heap h') (i : h'.Ns C mp) : CL S fr g1 s1 C D it v x P k acc g σ { s with heap := h', toks := tk } := by
 obtain ⟨E, I⟩ := zaB c.E c.I ap.nC c.kC sb.extBut
 have U := zbc c.I c.kC sb.extBut
 obtain ⟨vs, n, d1, d2⟩ := c.D
 exact ⟨E, I, ⟨c.z.1, c.z.2.1, c.z.2.2⟩, c.kC, c.kD, c.kI, ⟨mp, i⟩, ⟨vs, n, sb.extBut _ _ (Ne.symm ap.cd) d1, d2.mono U.fz⟩, c.it.at fun o e => sb.extBut _ o (Ne.symm ap.ci) e, pp.but (.inl rfl) c.kC sb.extBut c.p⟩
theorem CL.more (c : CL S fr g1 s1 C D it v x P k acc g σ s) (ap : Apart3 s1.heap C D it) (pp : Pres C D it P) {h' : Heap} {w : Value} {d : PyData} {vs : Array Value} {n n' : Nat} (d1 : s.heap.get? D = some ⟨.type "list", none, .seq vs n, #[]⟩) (d2 : PVs S.w.params s.heap g.κ vs.toList acc)
  (sb : Heap.SameBut D s.heap h') (hD : h'.get? D = some ⟨.type "list", none, .seq (vs.push w) n', #[]⟩) (p : PV S.w.params s.heap g.κ w d) : CL S fr g1 s1 C D it v x P k (acc ++ [d]) g σ { s with heap := h' } := by
 obtain ⟨E, I⟩ := zaB c.E c.I ap.nD c.kD sb.extBut
 have U := zbc c.I c.kD sb.extBut
 obtain ⟨mp, ns⟩ := c.C
 exact ⟨E, I, ⟨c.z.1, c.z.2.1, c.z.2.2⟩, c.kC, c.kD, c.kI, ⟨mp, zbd (fun o e => sb.extBut _ o ap.cd e) ns⟩, ⟨_, _, hD, (d2.snoc p).mono U.fz⟩, c.it.at fun o e => sb.extBut _ o (Ne.symm ap.di) e, pp.but (.inr (.inl rfl)) c.kD sb.extBut c.p⟩
theorem CL.fresh (c : CL S fr g1 s1 C D it v x P k acc g σ s) (ap : Apart3 s1.heap C D it) (pp : Pres C D it P) {h' : Heap} (eb : Heap.ExtBut s.heap.objs.size s.heap h') : CL S fr g1 s1 C D it v x P k acc g σ { s with heap := h' } := by
 obtain ⟨I, E⟩ := c.I.keeps (zbg eb)
 exact c.mono pp (s' := { s with heap := h' }) E I ⟨rfl, rfl, rfl⟩
end
noncomputable def McAt (S : Sta) (h : Heap) (g : Gh) (C : Addr) (names : Names) (mc : Fm) : Prop :=
 ∃ mp, h.Ns C mp /\ ∀ x i l, zao names x 0 = some (i, .local) -> mc[i]? = some (some l) -> ∃ v d, mp x = some v /\ l = .v (.pd d) /\ PV S.w.params h g.κ v d
theorem McAt.mono {S : Sta} {h h' : Heap} {g g' : Gh} {C : Addr} {names : Names} {mc : Fm} (f : Fz g.κ g'.κ h h') (e : ∀ o, h.get? C = some o -> h'.get? C = some o) (x : McAt S h g C names mc) : McAt S h' g' C names mc := by
 obtain ⟨mp, ns, r⟩ := x
 exact ⟨mp, zbd e ns, fun x i l h1 h2 => let ⟨v, d, a, b, c⟩ := r x i l h1 h2; ⟨v, d, a, b, c.mono f⟩⟩
theorem McAt.empty {S : Sta} {h : Heap} {g : Gh} {C : Addr} {names : Names} {mp : Str -> Option Value} (ns : h.Ns C mp) : McAt S h g C names mc0 :=
 ⟨mp, ns, fun x i l _ h2 => by rw [List.getElem?_replicate] at h2; split at h2 <;> cases h2⟩
section
variable {S : Sta} {A : Around} {env outer' : Env} {fr : List Env} {g1 g : Gh} {s1 : Shared} {C D it : Addr} {v : Value} {x : V} {P : Gh -> Heap -> Prop} {k : Nat} {acc : List PyData} {σ : Hp}
theorem zfE {cenv : Env} {sc : Scope} (hn : A.handled = none) (ap : Apart3 s1.heap C D it) (pp : Pres C D it P) (hL : cenv.locals = C) (hk : ∀ x i, zao sc.names x 0 = some (i, .local) -> cenv.kindOf x = some .local) (hnc : ∀ x i, zao sc.names x 0 ≠ some (i, .cell)) (hf : cenv.scope.kind = .function) :
  Sto S A g sc.names cenv (fun mc s => CL S fr g1 s1 C D it v x P k acc g σ s /\ McAt S s.heap g C sc.names mc) := by
 refine ⟨hn, fun y i kd w d m s Q Ev hi hkd hlt p r hQ => ?_, fun m s h' p eb => ⟨p.1.fresh ap pp eb, p.2.mono (fun a o k e => ⟨k, zbg eb a o e⟩) fun o e => zbg eb _ o e⟩⟩
 obtain rfl : kd = .local := hkd.resolve_right fun q => hnc y i (q ▸ hi)
 obtain ⟨c, mp, ns, q⟩ := p
 subst hL
 refine wpAny_storeName_local (hk y i hi) ns (fun h' ns' sb => ?_) (by rw [hf]; rfl)
 have c' := c.named (tk := s.toks + 1) ap pp sb ns'
 have U := zbc c.I c.kC sb.extBut
 refine hQ _ ⟨c', _, ns', fun z j l h1 h2 => ?_⟩ U.fz
 by_cases e : z = y
 ·obtain rfl := e.symm
  rw [hi] at h1; cases h1
  rw [zaE hlt] at h2; cases h2
  exact ⟨w, d, if_pos rfl, rfl, r.mono U.fz⟩
 ·have ne : i ≠ j := fun q => e (zaI h1 (q ▸ hi))
  rw [zaG ne] at h2
  obtain ⟨u, d', a, b, c⟩ := q z j l h1 h2
  exact ⟨u, d', (if_neg e).trans a, b, c.mono U.fz⟩
end
theorem zaH {env : Env} {x : Str} : ∀ {names : List (Str × NameKind)},
  (names.map fun (n, k) => if (k == NameKind.free && env.scope.kind == .function && env.kindOf n == some .cell) then (n, NameKind.cell) else (n, k)).lookup x = (names.lookup x).map fun k => if (k == NameKind.free && env.scope.kind == .function && env.kindOf x == some .cell) then NameKind.cell else k
 | [] => rfl
 | (n, k) :: r => by
  have ih := @zaH env x r
  rw [List.map_cons]
  have e : (match ((n, k) : Str × NameKind) with | (n, k) => if (k == NameKind.free && env.scope.kind == .function && env.kindOf n == some .cell) = true then (n, NameKind.cell) else (n, k)) = (n, if (k == NameKind.free && env.scope.kind == .function && env.kindOf n == some .cell) = true then NameKind.cell else k) := by
   dsimp only
   split <;> rfl
  rw [e]
  by_cases q : x = n
  ·subst q
   simp only [List.lookup, beq_self_eq_true, Option.map_some]
  ·have hx : (x == n) = false := by simpa using q
   simp only [List.lookup, hx]
   exact ih
noncomputable abbrev za0 (cx : Cx) (sc : Scope) : Cx := { cx with cs := some sc.names, lam := false }
structure ScOk (fn : Names) (sc : Scope) : Prop where
 kf : sc.kind = .function
 nc : ∀ p ∈ sc.names, p.2 ≠ .cell
 nl : ∀ p ∈ sc.names, p.2 = .local -> sc.names.lookup p.1 = some .local
 nf : ∀ p ∈ sc.names, p.2 = .free -> badN p.1 = false /\ ∃ i, zao fn p.1 0 = some (i, .cell)
theorem scOk {fn : Names} {sc : Scope} (h : zcK fn sc = true) : ScOk fn sc := by
 unfold zcK at h
 simp only [Bool.and_eq_true] at h
 obtain ⟨⟨⟨h1, h2⟩, h3⟩, h4⟩ := h
 refine ⟨by simpa using h1, fun p hp => by simpa using List.all_eq_true.mp h2 p hp, fun p hp hq => ?_, fun p hp hq => ?_⟩
 ·have := List.all_eq_true.mp h3 p hp
  simp only [Bool.or_eq_true, bne_iff_ne, ne_eq, hq, not_true, false_or] at this
  simpa using this
 ·have := List.all_eq_true.mp h4 p hp
  simp only [Bool.or_eq_true, Bool.and_eq_true, bne_iff_ne, ne_eq, hq, not_true, false_or] at this
  refine ⟨by simpa using this.1, ?_⟩
  have := this.2
  split at this
  ·exact ⟨_, by assumption⟩
  ·cases this
section
variable {S : Sta} {G : zaa} {nd : Nat} {hd : Bool} {cx : Cx} {A : Around} {env ev : Env} {outer : List Env} {L C : Addr} {Y : Addr -> Prop} {m mc : Fm} {g : Gh} {h : Heap} {sc : Scope}
theorem zbZ {x : Str} {i : Nat} (e : zao sc.names x 0 = some (i, .local)) : Env.kindOf (compEnvC sc (zbD ev.cells sc.names []) C ev) x = some .local := by
 show List.lookup x (relabel sc ev).names = _
 unfold relabel
 dsimp only
 rw [zaH, zad e]; rfl
theorem zdy (a : Act S cx A env ev outer L nd hd) (hcs : cx.cs = none) (so : ScOk cx.fn sc) : Act S (za0 cx sc) A env (compEnvC sc (zbD ev.cells sc.names []) C ev) outer L nd hd := by
 refine ⟨a.hn, a.frames, a.fL, a.vL, a.guards, a.depth, a.units, so.kf, a.gl, a.bl, fun x hx => ?_, nofun⟩
 show List.lookup x (relabel sc ev).names = _
 unfold relabel
 dsimp only
 rw [zaH]
 obtain ⟨i, k, e, q⟩ := zg3 rfl hx
 cases k with
 | globalImplicit => rw [zad e]; rfl
 | free => exact bd_e q fun p _ q => by cases p with | mk j k => cases k <;> cases q
 | _ => cases q
theorem zeY (r : Rd S cx ev Y h g m mc) (hcs : cx.cs = none) (kf : ev.scope.kind = .function) (so : ScOk cx.fn sc) (kC : g.κ C = .ot) {mc' : Fm} (hm : McAt S h g C sc.names mc') : Rd S (za0 cx sc) (compEnvC sc (zbD ev.cells sc.names []) C ev) Y h g m mc' := by
 refine ⟨fun x i hx l hl => ?_, fun x i hx l hl => ?_, nofun⟩
 ·have hb := zcj hx
  obtain ⟨j, k, e, hx⟩ := zg3 rfl hx
  cases k with
  | free =>
   have hmem : (x, NameKind.free) ∈ sc.names := zay (zad e)
   obtain ⟨_, j', hj⟩ := so.nf _ hmem rfl
   dsimp only at hj
   have hx : (zao cx.fn x 0).bind _ = _ := hx
   rw [hj] at hx
   obtain rfl : j' = i := by cases hx; rfl
   have hn : nmOf cx x = some (.v j') := zmj hb hcs hj
   obtain ⟨v, na, lr⟩ := r.v x j' hn l hl
   obtain ⟨kc, c, o, c1, c2, c3⟩ := r.c hcs x j' hj
   refine ⟨v, ?_, lr⟩
   rcases na with ⟨k, _⟩ | ⟨c', k, l', k', ic⟩
   ·rw [kc] at k; cases k
   ·refine .inr ⟨c', .inl ?_, zeq l' (zad e), k', ic⟩
    show List.lookup x (relabel sc ev).names = _
    unfold relabel
    dsimp only
    rw [zaH, zad e, kf, kc]; rfl
  | _ => cases hx
 ·obtain ⟨j, k, e, hx⟩ := zg3 rfl hx
  cases k with
  | «local» =>
   cases hx
   obtain ⟨mp, ns, q⟩ := hm
   obtain ⟨v, d, a, rfl, p⟩ := q x i l e hl
   exact ⟨v, .inl ⟨zbZ e, .inr kC, mp, ns, a⟩, .v (.pd p)⟩
  | free => exact bd_e hx fun p _ q => by cases p with | mk j k => cases k <;> cases q
  | _ => cases hx
theorem ScOk.nocell (so : ScOk cx.fn sc) (x : Str) (i : Nat) : zao sc.names x 0 ≠ some (i, .cell) := fun e => so.nc _ (zay (zad e)) rfl
theorem zi7 {E : KE} {g1 : Gh} {s1 s s' : Shared} {D it : Addr} {v : Value} {x : V} {P : Gh -> Heap -> Prop} {k : Nat} {acc : List PyData} {σ : Hp} {cenv : Env} {e : Value} {Q : Value -> Shared -> Prop} {dv : Value} (a : Act S cx A env ev outer L nd hd) (ap : Apart3 s1.heap C D it) (pp : Pres C D it P) (c : CL S (env :: outer) g1 s1 C D it v x P k acc g σ s) (hv : cenv.frame = some L)
  (er : Er S (env :: outer) No false g s E e s') : notedBy S.M A cenv (fun e s' => compPost S.M A (Er S (env :: outer) No false g1 s1 E) none Q dv C (.error e) s') e s' := by
 obtain ⟨exc, σ', g', ea, tr, rfl, _, hE, x1, I1, ex, z1⟩ := er
 unfold notedBy
 have c1 := c.mono pp x1 I1 z1
 refine zbn a.frames a.fL hv I1 ex fun g2 h2 I2 x2 ex2 => ?_
 have c2 := c1.mono pp (s' := { s' with heap := h2 }) x2 I2 ⟨rfl, rfl, rfl⟩
 obtain ⟨mp, ns⟩ := c2.C
 refine ⟨mp, ns, fun h3 sb cenv' _ => ?_⟩
 obtain ⟨x3, I3⟩ := zaB c2.E c2.I ap.nC c2.kC sb.extBut
 have kp : ∀ b o, g2.κ b ≠ .ot -> h2.get? b = some o -> h3.get? b = some o := fun b o q e => sb.extBut b o (fun w => q (w ▸ c2.kC)) e
 have ex3 : ExcAt S h3 g2 ea exc true := by
  obtain ⟨kd, oe, vs, dx, mp, h1, h2', h3', h4, h5, h6, h7, ⟨v1, h8, h9⟩, h10, h11⟩ := ex2
  have fz : Fz g2.κ g2.κ h2 h3 := fun b o q e => ⟨q, kp b o (by rw [q]; decide) e⟩
  refine ⟨kd, oe, vs, dx, mp, kp _ _ (by rw [kd]; decide) h1, h2', h3', h4, h5, h6, zbd (fun o e => kp _ o (by rw [h6]; decide) e) h7, ⟨v1, h8, h9.mono fz⟩, fun q => let ⟨w, a, b⟩ := h10 q; ⟨w, a, b.mono fz⟩, ?_⟩
  rcases h11 with ⟨q, _⟩ | ⟨q, T, oT, ts, t1, t2, t3, t4, t5, t6⟩
  ·cases q
  ·exact .inr ⟨rfl, T, oT, ts, t1, t2, kp _ _ (by rw [t6]; decide) t3, t4, t5, t6⟩
 refine zb4 (S := S) (g := g2) (σ := σ') (s := { s' with heap := h3 }) I3 ex3 fun h4 I4 x4 ex4 => ?_
 exact ⟨exc, σ', g2, ea, true, rfl, nofun, hE, x3.trans x4, I4, ex4, c2.z.trans ⟨rfl, rfl, rfl⟩⟩
end
section
variable {S : Sta} {G : zaa} {nd : Nat} {cx : Cx} {A : Around} {env ev : Env} {outer : List Env} {L C D it : Addr} {Y : Addr -> Prop} {m mc : Fm} {g0 g1 g : Gh} {s1 s : Shared} {sc : Scope} {v : Value} {x : V} {P : Gh -> Heap -> Prop} {k : Nat} {acc : List PyData} {σ : Hp} {E : KE} {Q : Value -> Shared -> Prop}
noncomputable abbrev Nv (S : Sta) (A : Around) (R : Result -> Shared -> Prop) (cenv : Env) : Value -> Shared -> Prop := notedBy S.M A cenv (fun e s' => R (.error e) s')
noncomputable abbrev znx (S : Sta) (A : Around) (env : Env) (outer : List Env) (g1 : Gh) (s1 : Shared) (C D it : Addr) (v : Value) (x : V) (P : Gh -> Heap -> Prop) (E : KE) (R : Result -> Shared -> Prop) (cenv : Env) : Prop :=
 ∀ k acc g σ s e s', CL S (env :: outer) g1 s1 C D it v x P k acc g σ s -> Er S (env :: outer) No false g s E e s' -> Nv S A R cenv e s'
structure CEnd (S : Sta) (fr : List Env) (g1 : Gh) (s1 : Shared) (C D : Addr) (P : Gh -> Heap -> Prop) (acc : List PyData) (g : Gh) (σ : Hp) (s : Shared) : Prop where
 E : Ext No g1 g s1.heap s.heap
 I : Inv S fr g σ s.heap
 z : Rest s1 s
 kC : g.κ C = .ot
 kD : g.κ D = .ot
 C : ∃ mp, s.heap.Ns C mp
 D : ∃ vs n, s.heap.get? D = some ⟨.type "list", none, .seq vs n, #[]⟩ /\ PVs S.w.params s.heap g.κ vs.toList acc
 p : P g s.heap
inductive Sealed (S : Sta) (fr : List Env) (g1 : Gh) (s1 : Shared) (C D : Addr) (K : KV) (h : Heap) : Prop
 | mk (d : V) (σ : Hp) (g : Gh) (k : K d σ) (E : Ext No g1 g s1.heap h) (I : Inv S fr g σ h) (r : VR S h g (.ref D) d) (kC : g.κ C = .ot)
theorem CEnd.seal {fr : List Env} {b : Bool} {K : KV} (ok : StaOk S) (ap : Apart3 s1.heap C D it) (c : CEnd S fr g1 s1 C D P acc g σ s) (h : made b acc σ K) : Sealed S fr g1 s1 C D K s.heap := by
 obtain ⟨E, I, z, kC, kD, _, ⟨vs, n, d1, d2⟩, _⟩ := c
 replace h := zat h
 cases b with
 | true =>
  obtain ⟨I3, E3⟩ := Inv.sealMu (o := .list acc) (h2 := s.heap) E I ap.nD kD ⟨_, d1⟩ (fun b o _ e => e) fun u => .list (vs := vs.toList) d1 (d2.mono u.fz)
  refine ⟨_, _, _, h.2, E3, I3, ?_, (if_neg ap.cd).trans kC⟩
  have : (g.mu D).μ σ.length = D := by rw [I.num]; exact if_pos rfl
  conv => lhs; rw [← this]
  exact .ref (by show σ.length < g.n + 1; rw [I.num]; exact Nat.lt_succ_self _)
 | false =>
  obtain ⟨I3, E3, U3⟩ := Inv.seal (k := .fz) (h2 := s.heap) E I ap.nD kD (fun b o _ e => e) d1
  have ns : D ≠ sysModules := fun q => by
   obtain ⟨o, e⟩ := ok.sm
   have := I.bfz _ _ e
   rw [← q, kD] at this; cases this
  exact ⟨_, _, _, h.2, E3, I3, .pd (.list (if_pos rfl) d1 rfl rfl ns (d2.mono U3.fz)), (if_neg ap.cd).trans kC⟩
theorem zhV {b : Bool} {K : KV} (ok : StaOk S) (ap : Apart3 s1.heap C D it) (c : CEnd S (env :: outer) g1 s1 C D P acc g σ s) (hK : made b acc σ K) :
  compPost S.M A (Er S (env :: outer) No false g1 s1 E) none (Ok S (env :: outer) No (RV S) g1 s1 K) (.ref D) C (.ok .next) s := by
 obtain ⟨mp, ns⟩ := c.C
 refine ⟨mp, ns, fun h' sb => ?_⟩
 obtain ⟨d, σ3, g3, k, E3, I3, r, kC⟩ := c.seal ok ap hK
 obtain ⟨E2, I2⟩ := zaB E3 I3 ap.nC kC sb.extBut
 exact ⟨d, σ3, g3, k, E2, I2, r.mono (zbc I3 kC sb.extBut), ⟨c.z.1, c.z.2.1, c.z.2.2⟩⟩
theorem zal {σ σ' : Hp} {x : V} {k : Prop} (h : still σ σ' x k) : zac σ' x = zac σ x /\ k := by
 cases x with
 | ref i => exact ⟨congrArg (fun o => alt ((Option.bind o rdO).bind fun d => alt (za7 d) (tupP d)) none) h.1, h.2⟩
 | _ => exact ⟨rfl, h⟩
theorem zbr {iter : PySem.Expr} (h : zaK iter ≠ 3) (ev : Env) (w : Value) : foldedSetIterable iter ev w = pure w := by
 cases iter <;> first | rfl | exact absurd rfl h
inductive IfsOk (S : Sta) (G : zaa) (nd : Nat) (cx : Cx) : List PySem.Expr -> Option X -> Prop
 | no : IfsOk S G nd cx [] none
 | yes {c : PySem.Expr} {q : X} (h : SndT S G nd false cx c q) : IfsOk S G nd cx [c] (some q)
theorem zhQ {α : Type} {l : List α} {k : Nat} {d : α} (e : l[k]? = some d) : l.drop k = d :: l.drop (k + 1) := by
 obtain ⟨hlt, hd⟩ := List.getElem?_eq_some_iff.mp e
 rw [List.drop_eq_getElem_cons hlt, hd]
theorem less {k n : Nat} (h : k < n) : n + 1 - (k + 1) < n + 1 - k := Nat.sub_lt_sub_left (Nat.lt_succ_of_lt h) (Nat.lt_succ_self _)
noncomputable def zez (S : Sta) (fr : List Env) (g1 : Gh) (s1 : Shared) (C D it : Addr) (names : Names) (v : Value) (x : V) (P : Gh -> Heap -> Prop) (W : (Shared -> Prop) -> Shared -> Prop) (tr : Fm -> List PyData -> Hp -> (List PyData -> Hp -> Prop) -> Prop) : Prop :=
 ∀ {k g acc σ s mc' kk F}, CL S fr g1 s1 C D it v x P k acc g σ s -> McAt S s.heap g C names mc' -> tr mc' acc σ kk -> (∀ g' σ' acc' s', CL S fr g1 s1 C D it v x P k acc' g' σ' s' -> McAt S s'.heap g' C names mc' -> kk acc' σ' -> F s') -> W F s
noncomputable abbrev Turns (S : Sta) (A : Around) (te : PySem.Expr) (it : Addr) (cenv : Env) (R : Result -> Shared -> Prop) (W : (Shared -> Prop) -> Shared -> Prop) (I : Nat -> Shared -> Prop) : Prop :=
 ∀ n s, I n s -> wpAny S.M A (pyNext (.ref it)) (fun r s₁ => match r with
  | none => R (.ok .next) s₁
  | some v => wpAny S.M A (letOwnedTupleGo te (.ref it) v) (fun _ s₀ => wpAny S.M A (assign te cenv v) (fun _ s₂ => W (fun s₅ => ∃ m, m < n /\ I m s₅) s₂) (Nv S A R cenv) s₀) (Nv S A R cenv) s₁) (Nv S A R cenv) s
noncomputable abbrev zjt (S : Sta) (A : Around) (R : Result -> Shared -> Prop) (cenv : Env) (rest : Sem Unit) : (Shared -> Prop) -> Shared -> Prop := fun F s => wpAny S.M A rest (fun _ s' => F s') (Nv S A R cenv) s
theorem zcm {elt te : PySem.Expr} {gens : List Comprehension} {pos tp : Pos} {depth : Nat} {acc : Value} {cenv : Env} {R : Result -> Shared -> Prop} {rest : Sem Unit}
  (hc : compTurn (.ListComp elt gens sc pos) depth (.ref it) acc cenv = (standAt tp >>= fun _ => pyNext (.ref it) >>= fun r => match r with
   | none => pure (.done .next)
   | some v => letOwnedTupleGo te (.ref it) v >>= fun _ => assign te cenv v >>= fun _ => rest >>= fun _ => again (.compLoop (.ListComp elt gens sc pos) depth (.ref it) acc cenv)))
  (I : Nat -> Shared -> Prop) (turn : Turns S A te it cenv R (zjt S A R cenv rest) I) (n : Nat) (s : Shared) (h : I n s) : codeAny S.M A (.compLoop (.ListComp elt gens sc pos) depth (.ref it) acc cenv) R s := by
 refine codeAny_loop rfl I (fun n s hI => ?_) n h
 show wpAny _ A ((compTurn (.ListComp elt gens sc pos) depth (.ref it) acc cenv).onRaise (fun x => do noteFrame x cenv; theTreesLotGoes x)) _ _ s
 refine wpAny_noted ?_
 rw [hc]
 refine wpAny_bind (wpAny_standAt (wpAny_bind (wpAny_mono (turn n s hI) (fun r s₁ h₁ => ?_) fun _ _ h' => h')))
 cases r with
 | none => exact wpAny_pure h₁
 | some v => exact wpAny_bind (wpAny_mono h₁ (fun _ s₀ h₀ => wpAny_bind (wpAny_mono h₀ (fun _ s₂ h₂ => wpAny_bind (wpAny_mono h₂ (fun _ s₅ h₅ => wpAny_pure ⟨rfl, h₅⟩) fun _ _ h' => h')) fun _ _ h' => h')) fun _ _ h' => h')
inductive CLI (S : Sta) (fr : List Env) (g1 : Gh) (s1 : Shared) (C D it : Addr) (names : Names) (mcI : Fm) (v : Value) (x : V) (P : Gh -> Heap -> Prop) (l : List PyData) (F : List PyData -> List PyData -> Hp -> Prop) (n : Nat) (s : Shared) : Prop
 | mk (k : Nat) (g : Gh) (σ : Hp) (acc : List PyData) (hn : n = l.length + 1 - k) (hk : k <= l.length) (c : CL S fr g1 s1 C D it v x P k acc g σ s) (hm : McAt S s.heap g C names mcI) (hl : zac σ x = some l) (h : F (l.drop k) acc σ)
theorem zeo {fr : List Env} {e te : PySem.Expr} {depth : Nat} {names : Names} {t : Tg} {tr : Fm -> List PyData -> Hp -> (List PyData -> Hp -> Prop) -> Prop} {W : (Shared -> Prop) -> Shared -> Prop} {KK : List PyData -> Hp -> Prop} {R : Result -> Shared -> Prop} {l : List PyData} {σ1 : Hp} {mcI : Fm} {cenv : Env}
  (ha : A.handled = none) (ap : Apart3 s1.heap C D it) (pp : Pres C D it P) (sto : ∀ k acc g σ, Sto S A g names cenv (fun mc s => CL S fr g1 s1 C D it v x P k acc g σ s /\ McAt S s.heap g C names mc)) (ht : TgOk S names te t)
  (hmc : ∀ d mc' h g, tgFm mcI t d = some mc' -> McAt S h g C names mc' -> McAt S h g C names mcI) (hW : zez S fr g1 s1 C D it names v x P W tr)
  (hcode : ∀ I, Turns S A te it cenv R W I -> ∀ n s, I n s -> codeAny S.M A (.compLoop e depth (.ref it) (.ref D) cenv) R s)
  (hR : ∀ g σ acc s, CEnd S fr g1 s1 C D P acc g σ s -> McAt S s.heap g C names mcI -> KK acc σ -> R (.ok .next) s)
  (rv : ∀ k acc g σ s, CL S fr g1 s1 C D it v x P k acc g σ s -> VR S s.heap g v x) (hl : zac σ1 x = some l) (c : CL S fr g1 s1 C D it v x P 0 acc g σ1 s) (hm : McAt S s.heap g C names mcI)
  (h : zau (fun d acc σ kk => need (tgFm mcI t d) fun mc' => tr mc' acc σ kk) (fun σ' k => still σ1 σ' x k) KK l acc σ1) : codeAny S.M A (.compLoop e depth (.ref it) (.ref D) cenv) R s := by
 generalize hF : zau (fun d acc σ kk => need (tgFm mcI t d) fun mc' => tr mc' acc σ kk) (fun σ' k => still σ1 σ' x k) KK = F at h
 refine hcode (CLI S fr g1 s1 C D it names mcI v x P l F) (fun n s hI => ?_) _ _ ⟨0, g, σ1, acc, rfl, Nat.zero_le _, c, hm, hl, h⟩
 obtain ⟨k, g, σ, acc, hn, hk, c, hm, hl', h⟩ := hI
 refine zd1 ha c.I (rv _ _ _ _ _ c) hl' c.it hk (fun w d h' tk e p sb i => ?_) (fun h' e eb => ?_)
 ·rw [zhQ e, ← hF] at h
  refine zaj h fun mc' hm' h => ?_
  have U := zbc c.I c.kI sb.extBut
  have p := p.mono U.fz
  have hm := hm.mono U.fz fun o e => sb.extBut _ o ap.ci e
  have c := c.moved (tk := tk) ap pp sb i
  refine zjC c.it (ht (sto _ _ _ _) w d mcI mc' _ _ _ hm' ⟨c, hm⟩ p fun s2 ⟨c2, hm2⟩ fz => ?_)
  have hlt : k < l.length := (List.getElem?_eq_some_iff.mp e).1
  exact hW c2 hm2 h fun g' σ' acc' s' c' hm3 h' => ⟨_, hn ▸ less hlt, k + 1, g', σ', acc', rfl, hlt, c', hmc _ _ _ _ hm' hm3, (zal h').1.trans hl, hF ▸ (zal h').2⟩
 ·subst e
  rw [List.drop_length, ← hF] at h
  obtain ⟨E2, I2⟩ := zaB c.E c.I ap.nI c.kI eb
  have U := zbc c.I c.kI eb
  obtain ⟨mp, ns⟩ := c.C
  obtain ⟨vs, n, d1, d2⟩ := c.D
  exact hR _ _ _ _ ⟨E2, I2, ⟨c.z.1, c.z.2.1, c.z.2.2⟩, c.kC, c.kD, ⟨mp, zbd (fun o e => eb _ o ap.ci e) ns⟩, ⟨vs, n, eb _ _ ap.di d1, d2.mono U.fz⟩, pp.but (.inr (.inr rfl)) c.kI eb c.p⟩ (hm.mono U.fz fun o e => eb _ o ap.ci e) h
noncomputable abbrev zgl (S : Sta) (G : zaa) (m : Fm) (E : KE) (xe : X) : Fm -> List PyData -> Hp -> (List PyData -> Hp -> Prop) -> Prop :=
 fun mc' acc σ kk => when (acc.length <= sizeLine) (evX G S.gc m mc' xe σ (fun v σ' => need (pdV v) fun d' => kk (acc ++ [d']) σ') E)
noncomputable abbrev znu (S : Sta) (A : Around) (R : Result -> Shared -> Prop) (cenv : Env) (elt : PySem.Expr) (D : Addr) : (Shared -> Prop) -> Shared -> Prop :=
 fun F s => wpAny S.M A (eval elt cenv) (fun xv s4 => wpAny S.M A (call (.builtin "list.append") [.ref D, xv]) (fun _ s5 => F s5) (Nv S A R cenv) s4) (Nv S A R cenv) s
noncomputable abbrev zaU (sc : Scope) (C : Addr) (ev : Env) : Env := compEnvC sc (zbD ev.cells sc.names []) C ev
section
variable {R : Result -> Shared -> Prop} (a : Act S cx A env ev outer L nd false) (hcs : cx.cs = none) (so : ScOk cx.fn sc) (pp : Pres C D it P) (hE : znx S A env outer g1 s1 C D it v x P E R (zaU sc C ev)) (rd : Rd S cx ev Y s1.heap g1 m mc)
include a hcs so pp hE rd
theorem zcJ {elt : PySem.Expr} {xe : X} (ap : Apart3 s1.heap C D it) (he : SndX S G nd false (za0 cx sc) elt xe) : zez S (env :: outer) g1 s1 C D it sc.names v x P (znu S A R (zaU sc C ev) elt D) (zgl S G m E xe) := by
 intro k g acc σ s mc' kk F c hm h hF
 obtain ⟨hz, h⟩ := zat h
 refine wpAny_mono (he A env _ outer L Y m mc' σ g s _ E (zdy a hcs so) c.I (zeY (rd.mono c.E) hcs a.kf so c.kC hm) h) (fun xv s4 hok => ?_) fun e s' er => hE _ _ _ _ _ _ _ c er
 obtain ⟨d, σ4, g4, h4, E4, I4, r4, z4⟩ := hok
 refine zaj h4 fun d' hd h4 => ?_
 have c4 := c.mono pp E4 I4 z4
 obtain ⟨vs, n', d1, d2⟩ := c4.D
 have hl4 : vs.size = acc.length := d2.length
 exact append_at d1 (fun h' sb hD => hF g4 σ4 _ _ (c4.more ap pp d1 d2 sb hD (zbu (zbv hd ▸ r4))) ((hm.mono E4.fz fun o e => zcy E4 c.kC e).mono (zbc c4.I c4.kD sb.extBut).fz fun o e => sb.extBut _ o ap.cd e) h4) (hl4 ▸ hz)
theorem zhT {ce : PySem.Expr} {q : X} {W : (Shared -> Prop) -> Shared -> Prop} {tr : Fm -> List PyData -> Hp -> (List PyData -> Hp -> Prop) -> Prop} (hq : SndT S G nd false (za0 cx sc) ce q) (hW : zez S (env :: outer) g1 s1 C D it sc.names v x P W tr) :
  zez S (env :: outer) g1 s1 C D it sc.names v x P (fun F s => wpAny S.M A (isTrue ce (zaU sc C ev) (eval ce (zaU sc C ev))) (fun okb s₃ => if okb = true then W F s₃ else F s₃) (Nv S A R (zaU sc C ev)) s)
   fun mc' acc σ kk => evX G S.gc m mc' q σ (fun v σ' => truth v fun r => brn r (tr mc' acc σ' kk) (kk acc σ')) E := by
 intro k g acc σ s mc' kk F c hm h hF
 refine wpAny_mono (hq A env _ outer L Y m mc' σ g s (fun r σ' => brn r (tr mc' acc σ' kk) (kk acc σ')) E (zdy a hcs so) c.I (zeY (rd.mono c.E) hcs a.kf so c.kC hm) h) (fun r s3 hok => ?_) fun e s' er => hE _ _ _ _ _ _ _ c er
 obtain ⟨r', σ3, g3, h3, E3, I3, e3, z3⟩ := hok
 have c3 := c.mono pp E3 I3 z3
 have hm3 := hm.mono E3.fz fun o e => zcy E3 c.kC e
 cases e3
 cases r with
 | true => rw [if_pos rfl]; exact hW c3 hm3 h3 hF
 | false => rw [if_neg (by decide)]; exact hF g3 σ3 acc s3 c3 hm3 h3
end
theorem zel {elt : PySem.Expr} {R : Result -> Shared -> Prop} {cenv : Env} {F : Shared -> Prop} (h : znu S A R cenv elt D F s) : zjt S A R cenv (eval elt cenv >>= fun x => call (.builtin "list.append") [.ref D, x] >>= fun _ => pure ()) F s :=
 wpAny_bind (wpAny_mono h (fun x s4 h4 => wpAny_bind (wpAny_mono h4 (fun _ s5 h5 => wpAny_pure h5) fun _ _ q => q)) fun _ _ q => q)
noncomputable def zfN (S : Sta) (G : zaa) (nd : Nat) (cx : Cx) (sc : Scope) (e te : PySem.Expr) (tr : Fm -> KE -> Fm -> List PyData -> Hp -> (List PyData -> Hp -> Prop) -> Prop) : Prop :=
 ∀ {A env ev outer L Y m mc g1 s1 C D it v x R E}, Act S cx A env ev outer L nd false -> cx.cs = none -> ScOk cx.fn sc -> Apart3 s1.heap C D it -> znx S A env outer g1 s1 C D it v x Any E R (zaU sc C ev) -> Rd S cx ev Y s1.heap g1 m mc ->
  ∃ W, zez S (env :: outer) g1 s1 C D it sc.names v x Any W (tr m E) /\ ∀ I, Turns S A te it (zaU sc C ev) R W I -> ∀ n s, I n s -> codeAny S.M A (.compLoop e 0 (.ref it) (.ref D) (zaU sc C ev)) R s
theorem ziT {elt te iter : PySem.Expr} {ifs : List PySem.Expr} {pos : Pos} {xe : X} {xc : Option X} (he : SndX S G nd false (za0 cx sc) elt xe) (hc : IfsOk S G nd (za0 cx sc) ifs xc) :
  zfN S G nd cx sc (.ListComp elt [⟨te, iter, ifs, 0⟩] sc pos) te fun m E mc' acc σ kk => evC G S.gc m mc' xc σ (fun r σ3 => brn r (zgl S G m E xe mc' acc σ3 kk) (kk acc σ3)) E := by
 intro A env ev outer L Y m mc g1 s1 C D it v x R E a hcs so ap hE rd
 cases hc with
 | no => exact ⟨zjt S A R (zaU sc C ev) (eval elt (zaU sc C ev) >>= fun x => call (.builtin "list.append") [.ref D, x] >>= fun _ => pure ()), fun c hm h hF => zel (zcJ a hcs so .any hE rd ap he c hm h hF), zcm (compTurn_list1 _ _ _ _ _ _ _ _)⟩
 | yes hq => exact ⟨_, zhT a hcs so .any hE rd hq (zcJ a hcs so .any hE rd ap he), fun I turn n s h => kct_loop I turn n h⟩
theorem zfG {use : Option (Value -> Sem Unit)} {dv e : Value} {s' : Shared} {g : Gh} {s : Shared} (e1 : Ext No g g1 s.heap s1.heap) (z1 : Rest s s1) (q : compPost S.M A (Er S (env :: outer) No false g1 s1 E) none Q dv C (.error e) s') :
  compPost S.M A (Er S (env :: outer) No false g s E) use Q dv C (.error e) s' := by
 obtain ⟨mp, ns, q⟩ := q
 have z : ∃ m, s'.heap.Ns C m /\ ∀ h', Heap.SameBut C s'.heap h' -> ∀ cenv : Env, cenv.locals = C -> wpAny S.M A (passOn "comprehension.variables-let-go" e cenv : Sem Value) (fun _ _ => False) (Er S (env :: outer) No false g s E) { s' with heap := h' } :=
  ⟨mp, ns, fun h' sb cv hv => wpAny_mono (q h' sb cv hv) (fun _ _ x => x) fun _ _ x => x.trans e1 z1⟩
 cases use <;> exact z
theorem zfF {elt te iter : PySem.Expr} {ifs : List PySem.Expr} {gs : List Comprehension} {pos p0 : Pos} {xi : X} {t : Tg} {tr : Fm -> KE -> Fm -> List PyData -> Hp -> (List PyData -> Hp -> Prop) -> Prop} {KK : List PyData -> Hp -> Prop} {use : Option (Value -> Sem Unit)} (hcs : cx.cs = none) (hok : zcK cx.fn sc = true) (hf : ∀ ev w, foldedSetIterable iter ev w = pure w) (ht : TgOk S sc.names te t)
  (hi : SndX S G nd false cx iter xi) (hT : zfN S G nd cx sc (.ListComp elt (⟨te, iter, ifs, 0⟩ :: gs) sc pos) te tr)
  (a : Act S cx A env ev outer L nd false) (I : Inv S (env :: outer) g σ s.heap) (rd : Rd S cx ev Y s.heap g m mc)
  (h : evX G S.gc m mc xi σ (fun x σ1 => need (zac σ1 x) fun l => zau (fun d acc σ kk => need (tgFm mc0 t d) fun mc' => tr m E mc' acc σ kk) (fun σ' k => still σ1 σ' x k) KK l [] σ1) E)
  (hR : ∀ g1 s1 C D it, Ext No g g1 s.heap s1.heap -> Rest s s1 -> Apart3 s1.heap C D it -> ∀ g2 σ2 acc s2, CEnd S (env :: outer) g1 s1 C D Any acc g2 σ2 s2 -> KK acc σ2 ->
   compPost S.M A (Er S (env :: outer) No false g s E) use Q (.ref D) C (.ok .next) s2) :
  wpAny S.M A (comprehension (.ListComp elt (⟨te, iter, ifs, 0⟩ :: gs) sc pos) sc ev p0 (newList []) false (eval iter ev) use) Q (Er S (env :: outer) No false g s E) s := by
 have so := scOk hok
 have hcl : closureFor sc ev = pure (zbD ev.cells sc.names []) := zdA fun p hp hq => by
  obtain ⟨_, i, hi⟩ := so.nf p hp hq
  obtain ⟨_, c, o, h2, _⟩ := rd.c hcs p.1 i hi
  exact ⟨c, h2⟩
 refine wpAny_comprehension_free (use := use) rfl (hf ev) hcl so.kf so.nl (step (hi A env ev outer L Y m mc σ g s _ E a I rd h) fun v x σ1 g1 s1 h1 e1 i1 r1 z1 => ?_)
 refine zaj h1 fun l hl h1 => zb0 i1 r1 hl fun oi hit => ?_
 refine wpAny_newObj_type (wpAny_newFunctionEnv so.nc (by intro y hy; simp at hy) (fun h4 hns hsb => ?_) so.kf)
 dsimp only at hns hsb ⊢
 have z2 : (s1.heap.push oi).objs.size = s1.heap.objs.size + 1 := Heap.size_push ..
 have z3 : ((s1.heap.push oi).push { cls := .type "list", dict := none, data := .seq ([] : List Value).toArray }).objs.size = s1.heap.objs.size + 2 := by rw [Heap.size_push, z2]
 have hat : ((s1.heap.push oi).push { cls := .type "list", dict := none, data := .seq ([] : List Value).toArray }).get? (s1.heap.push oi).objs.size = some { cls := .type "list", dict := none, data := .seq ([] : List Value).toArray } := Heap.get?_push_size _ rfl
 rw [z2] at hat
 have up : ∀ b o, s1.heap.get? b = some o -> ((s1.heap.push oi).push { cls := .type "list", dict := none, data := .seq ([] : List Value).toArray }).get? b = some o := fun b o e => Heap.get?_push_of_some _ (Heap.get?_push_of_some _ e)
 have hit := hit.at (h' := (s1.heap.push oi).push { cls := .type "list", dict := none, data := .seq ([] : List Value).toArray }) fun o e => Heap.get?_push_of_some _ e
 rw [z2]
 generalize (s1.heap.push oi).push { cls := .type "list", dict := none, data := .seq ([] : List Value).toArray } = H at z3 hat up hit hns hsb ⊢
 rw [z3] at hns hsb
 rw [z3]
 have n1 : ∀ b, s1.heap.objs.size <= b -> s1.heap.get? b = none := fun b hb => Heap.get?_none_of_le hb
 have ap : Apart3 s1.heap (s1.heap.objs.size + 2) (s1.heap.objs.size + 1) s1.heap.objs.size :=
  ⟨n1 _ (Nat.le_add_right _ 2), n1 _ (Nat.le_add_right _ 1), n1 _ (Nat.le_refl _), Nat.ne_of_gt (Nat.lt_succ_self _), Nat.ne_of_gt (Nat.lt_add_of_pos_right (by decide)), Nat.ne_of_gt (Nat.lt_succ_self _)⟩
 have kp : ∀ b o, s1.heap.get? b = some o -> h4.get? b = some o := fun b o e => hsb.extBut b o (Nat.ne_of_lt (Nat.lt_of_lt_of_le (Heap.lt_size e) (Nat.le_add_right _ 2))) (Heap.get?_push_of_some _ (up _ _ e))
 obtain ⟨I4, E4⟩ := i1.keeps kp
 have c : CL S (env :: outer) g1 s1 (s1.heap.objs.size + 2) (s1.heap.objs.size + 1) s1.heap.objs.size v x Any 0 [] g1 σ1 { heap := h4, gens := s1.gens, drawn := s1.drawn, toks := s1.toks + ([] : List (Str × Value)).length, os := s1.os } :=
  ⟨E4, I4, ⟨rfl, rfl, rfl⟩, i1.ot _ ap.nC, i1.ot _ ap.nD, i1.ot _ ap.nI, ⟨_, hns⟩, ⟨_, _, hsb.extBut _ _ (Ne.symm ap.cd) (Heap.get?_push_of_some _ hat), .nil⟩, hit.at fun o e => hsb.extBut _ o (Ne.symm ap.ci) (Heap.get?_push_of_some _ e), ⟨⟩⟩
 obtain ⟨W, hW, hcode⟩ := hT (R := compPost S.M A (Er S (env :: outer) No false g s E) use Q (.ref (s1.heap.objs.size + 1)) (s1.heap.objs.size + 2)) a hcs so ap
  (fun k acc g' σ s' e s'' c er => by
   have := zi7 (cenv := zaU sc (s1.heap.objs.size + 2) ev) (Q := Q) (dv := .ref (s1.heap.objs.size + 1)) a ap .any c (by exact a.vL) er
   unfold Nv
   unfold notedBy at this ⊢
   exact wpAny_mono this (fun _ s' q => zfG e1 z1 q) fun _ s' q => zfG e1 z1 q)
  (rd.mono e1)
 have loop := zeo (a.hn rfl) ap .any (fun k acc g σ => zfE (a.hn rfl) ap .any rfl (fun x i e => zbZ e) so.nocell so.kf) ht (fun d mc' h g _ ⟨mp, ns, _⟩ => McAt.empty ns) hW hcode
  (fun g' σ acc s' c _ q => hR g1 s1 _ _ _ e1 z1 ap g' σ acc s' c q) (fun k acc g σ s c => r1.mono c.E.up) hl c (McAt.empty hns) h1
 exact codeAny_compStart_list loop (zd0 c.it loop)
inductive LcW (S : Sta) (G : zaa) (nd : Nat) (cx : Cx) (el : PySem.Expr) (gens : List Comprehension) (sc : Scope) (xe : X) : Prop
 | mk (te iter : PySem.Expr) (ifs : List PySem.Expr) (gs : List Comprehension) (xi : X) (t : Tg) (b : Bool) (tr : Fm -> KE -> Fm -> List PyData -> Hp -> (List PyData -> Hp -> Prop) -> Prop) (e : gens = ⟨te, iter, ifs, 0⟩ :: gs) (hok : zcK cx.fn sc = true) (hf : ∀ ev w, foldedSetIterable iter ev w = pure w) (ht : TgOk S sc.names te t)
  (hi : SndX S G nd false cx iter xi) (hT : ∀ pos, zfN S G nd cx sc (.ListComp el (⟨te, iter, ifs, 0⟩ :: gs) sc pos) te tr)
  (hx : ∀ {m mc σ K E}, evX G S.gc m mc xe σ K E -> evX G S.gc m mc xi σ (fun x σ1 => need (zac σ1 x) fun l => zau (fun d acc σ kk => need (tgFm mc0 t d) fun mc' => tr m E mc' acc σ kk) (fun σ' k => still σ1 σ' x k) (fun ds σ' => made b ds σ' K) l [] σ1) E)
theorem zfg (ok : StaOk S) {elt : PySem.Expr} {gens : List Comprehension} {pos : Pos} {xe : X} (hcs : cx.cs = none) (hc : LcW S G nd cx elt gens sc xe) : SndX S G nd false cx (.ListComp elt gens sc pos) xe := by
 intro A env ev outer L Y m mc σ g s K E a I rd h
 obtain ⟨te, iter, ifs, gs, xi, t, b, tr, rfl, hok, hf, ht, hi, hT, hx⟩ := hc
 rw [eval_ListComp]
 refine zfF hcs hok hf ht hi (hT pos) a I rd (hx h) fun g1 s1 C D it e1 z1 ap g2 σ2 acc s2 c q => ?_
 obtain ⟨mp, ns, q⟩ := zhV (A := A) (E := E) ok ap c q
 exact ⟨mp, ns, fun h' sb => (q h' sb).trans e1 z1⟩
theorem zkP {el te iter : PySem.Expr} {ifs : List PySem.Expr} {t : Tg} {b : Bool} {xe xi : X} {xc : Option X} (hok : zcK cx.fn sc = true) (hf : ∀ ev w, foldedSetIterable iter ev w = pure w) (ht : TgOk S sc.names te t)
  (hi : SndX S G nd false cx iter xi) (he : SndX S G nd false (za0 cx sc) el xe) (hc : IfsOk S G nd (za0 cx sc) ifs xc) : LcW S G nd cx el [⟨te, iter, ifs, 0⟩] sc (.comp b xe t xi xc) :=
 ⟨te, iter, ifs, [], xi, t, b, _, rfl, hok, hf, ht, hi, fun pos => ziT he hc, fun h => zhB h⟩
end
set_option backward.match.sparseCases false
noncomputable def RFl (S : Sta) (h : Heap) (g : Gh) : Flow -> Fl -> Prop
 | .next, .next => True
 | .ret v, .ret x => VR S h g v x
 | _, _ => False
inductive OkS (S : Sta) (env : Env) (outer : List Env) (Y : Addr -> Prop) (names : Names) (g : Gh) (s : Shared) (K : Fl -> Fm -> Hp -> Prop) (fl : Flow) (s' : Shared) : Prop
 | mk (f : Fl) (m' : Fm) (σ' : Hp) (g' : Gh) (k : K f m' σ') (e : Ext Y g g' s.heap s'.heap) (i : Inv S (env :: outer) g' σ' s'.heap) (v : VarsOk S Y s'.heap g' env names m') (r : RFl S s'.heap g' fl f) (z : Rest s s')
noncomputable abbrev zcP (names : Names) : Prop := ∀ x i, zao names x 0 ≠ some (i, .free)
noncomputable def SndS (S : Sta) (G : zaa) (nd : Nat) (hd : Bool) (names : Names) (lam : Bool) (st : Stmt) (x : Mine.Lake.S) : Prop :=
 ∀ A env outer L Y m σ g s K E, Act S (S.at names none lam) A env env outer L nd hd -> zcP names -> Inv S (env :: outer) g σ s.heap -> VarsOk S Y s.heap g env names m -> evS G S.gc x m σ K E ->
  wpAny S.M A (exec st env) (OkS S env outer Y names g s K) (Er S (env :: outer) Y false g s E) s
noncomputable def zcO (S : Sta) (G : zaa) (nd : Nat) (hd : Bool) (names : Names) (lam : Bool) (st : List Stmt) (x : List Mine.Lake.S) : Prop :=
 ∀ A env outer L Y m σ g s K E, Act S (S.at names none lam) A env env outer L nd hd -> zcP names -> Inv S (env :: outer) g σ s.heap -> VarsOk S Y s.heap g env names m -> evSs G S.gc x m σ K E ->
  wpAny S.M A (execs st env) (OkS S env outer Y names g s K) (Er S (env :: outer) Y false g s E) s
section
variable {S : Sta} {fr : List Env} {X Y : Addr -> Prop} {t : Bool} {g g1 : Gh} {s s1 s2 : Shared} {E : Exc -> Hp -> Prop} {a : Value}
theorem Er.wide (i : ∀ a, X a -> Y a) : Er S fr X t g s E a s1 -> Er S fr Y t g s E a s1 := by
 rintro ⟨exc, σ', g', ea, tr, e, f, k, y, i', q, z⟩
 exact ⟨exc, σ', g', ea, tr, e, f, k, y.weaken i, i', q, z⟩
theorem Er.no : Er S fr No t g s E a s1 -> Er S fr Y t g s E a s1 := Er.wide fun _ q => q.elim
end
section
variable {S : Sta} {G : zaa} {nd : Nat} {hd : Bool} {names : Names} {lam : Bool} {env : Env} {outer : List Env} {Y : Addr -> Prop} {g g1 : Gh} {s s1 : Shared} {K : Fl -> Fm -> Hp -> Prop} {E : KE}
theorem OkS.trans {fl : Flow} {s2 : Shared} (x : Ext Y g g1 s.heap s1.heap) (r : Rest s s1) : OkS S env outer Y names g1 s1 K fl s2 -> OkS S env outer Y names g s K fl s2 := by
 rintro ⟨f, m, σ, g', k, e, i, v, q, z⟩
 exact ⟨f, m, σ, g', k, x.trans e, i, v, q, r.trans z⟩
theorem stS {A : Around} {α : Type} {t : Sem α} {Q : α -> Shared -> Prop} (x : Ext Y g g1 s.heap s1.heap) (r : Rest s s1) (h : wpAny S.M A t Q (Er S (env :: outer) Y false g1 s1 E) s1) : wpAny S.M A t Q (Er S (env :: outer) Y false g s E) s1 := wpAny_mono h (fun _ _ x => x) fun _ _ q => q.trans x r
theorem stX {A : Around} {L : Addr} {m : Fm} {σ : Hp} {e : PySem.Expr} {x : X} {K : KV} {P : Value -> Shared -> Prop} (hx : SndX S G nd hd (S.at names none lam) e x) (a : Act S (S.at names none lam) A env env outer L nd hd) (nf : zcP names) (I : Inv S (env :: outer) g σ s.heap) (V : VarsOk S Y s.heap g env names m) (h : evX G S.gc m [] x σ K E)
  (k : ∀ v d σ1 g1 s1, K d σ1 -> Ext No g g1 s.heap s1.heap -> Inv S (env :: outer) g1 σ1 s1.heap -> VR S s1.heap g1 v d -> VarsOk S Y s1.heap g1 env names m -> Rest s s1 -> P v s1) :
  wpAny S.M A (eval e env) P (Er S (env :: outer) Y false g s E) s :=
 wpAny_mono (hx A env env outer L Y m [] σ g s K E a I (V.rd nf) h) (fun v s1 ⟨d, σ1, g1, k1, e1, i1, r1, z1⟩ => k v d σ1 g1 s1 k1 e1 i1 r1 (V.mono e1) z1) fun _ _ q => q.no
theorem zgr : zcO S G nd hd names lam [] [] := fun A env outer L Y m σ g s K E a nf I V h => wpAny_execs_nil ⟨.next, m, σ, g, h, .refl _ _ _, I, V, trivial, .refl _⟩
theorem zde {st : Stmt} {sts : List Stmt} {x : Mine.Lake.S} {xs : List Mine.Lake.S} (hx : SndS S G nd hd names lam st x) (hr : zcO S G nd hd names lam sts xs) : zcO S G nd hd names lam (st :: sts) (x :: xs) := by
 intro A env outer L Y m σ g s K E a nf I V h
 replace h := zei h
 refine wpAny_execs_cons (wpAny_mono (hx A env outer L Y m σ g s _ E a nf I V h) (fun fl s1 ⟨f, m1, σ1, g1, h1, e1, i1, v1, r1, z1⟩ => ?_) fun _ _ x => x)
 cases fl <;> cases f <;> first
  | exact r1.elim
  | exact stS e1 z1 (wpAny_mono (hr A env outer L Y m1 σ1 g1 s1 K E a nf i1 v1 h1) (fun _ _ x => x.trans e1 z1) fun _ _ x => x)
  | exact ⟨_, m1, σ1, g1, h1, e1, i1, v1, r1, z1⟩
theorem zlW {e : PySem.Expr} {x : X} {pos : Pos} (hx : SndX S G nd hd (S.at names none lam) e x) : SndS S G nd hd names lam (.Return (some e) pos) (.ret x) := by
 intro A env outer L Y m σ g s K E a nf I V h
 replace h := zfB h
 rw [arm_exec_Return]
 refine wpAny_bind (wpAny_standAt ?_)
 show wpAny S.M A (do return Flow.ret (← eval e env)) _ _ _
 exact wpAny_bind (stX hx a nf I V h fun v d σ1 g1 s1 h1 e1 i1 r1 v1 z1 => wpAny_pure ⟨.ret d, m, σ1, g1, h1, e1.no, i1, v1, r1, z1⟩)
theorem znY {st : Stmt} : SndS S G nd hd names lam st .bad := fun A env outer L Y m σ g s K E a nf I V h => h.elim
theorem znW {t : PySem.Expr} {p q : List Stmt} {pos : Pos} {x : X} {xp xq : List Mine.Lake.S} (hx : SndT S G nd hd (S.at names none lam) t x) (hp : zcO S G nd hd names lam p xp) (hq : zcO S G nd hd names lam q xq) : SndS S G nd hd names lam (.If t p q pos) (.ite x xp xq) := by
 intro A env outer L Y m σ g s K E a nf I V h
 replace h := zjh h
 rw [arm_exec_If]
 refine wpAny_bind (wpAny_standAt (wpAny_bind (wpAny_mono (hx A env env outer L Y m [] σ g s (fun r σ' => match r with | true => evSs G S.gc xp m σ' K E | false => evSs G S.gc xq m σ' K E) E a I (V.rd nf) h) (fun r s1 ⟨r', σ1, g1, h1, e1, i1, rr, z1⟩ => ?_) fun _ _ q => q.no)))
 subst rr
 have v1 := V.mono e1
 cases r with
 | true => exact stS e1.no z1 (wpAny_mono (hp A env outer L Y m σ1 g1 s1 K E a nf i1 v1 h1) (fun _ _ x => x.trans e1.no z1) fun _ _ x => x)
 | false => exact stS e1.no z1 (wpAny_mono (hq A env outer L Y m σ1 g1 s1 K E a nf i1 v1 h1) (fun _ _ x => x.trans e1.no z1) fun _ _ x => x)
end
set_option backward.match.sparseCases true
section
variable {S : Sta} {g : Gh} {h h' : Heap} {Y : Addr -> Prop} {C : Addr}
theorem LR.kept (k : g.κ C = .ot) (x : Heap.ExtBut C h h') {v : Value} {l : Loc} : LR S Y h g v l -> LR S Y h' g v l := by
 have kp : ∀ b o, g.κ b ≠ .ot -> h.get? b = some o -> h'.get? b = some o := fun b o q e => x b o (fun w => q (w ▸ k)) e
 have fz : Fz1 g h h' := fun b o q e => ⟨q, kp b o (by rw [q]; decide) e⟩
 have U : Up g g h h' := ⟨Nat.le_refl _, fun _ _ => rfl, fz⟩
 intro r
 cases r with
 | v r => exact .v (r.mono U)
 | fault r =>
  obtain ⟨k, nx, oe, vs, dx, mp, h1, h2, h3, h4, h6, h7, ⟨v1, h8, h9⟩, h10⟩ := r
  exact .fault ⟨k, nx, oe, vs, dx, mp, kp _ _ (by rw [k]; decide) h1, h2, h3, h4, h6, zbd (fun o e => kp _ o (by rw [h6]; decide) e) h7, ⟨v1, h8, h9.mono fz⟩, fun y => let ⟨w, a, b⟩ := h10 y; ⟨w, a, b.mono fz⟩⟩
theorem VarsOk.but {env : Env} {names : Names} {m : Fm} (k : g.κ C = .ot) (xb : Heap.ExtBut C h h') (ny : ¬ Y C) (V : VarsOk S Y h g env names m) : VarsOk S Y h' g env names m := by
 have kp : ∀ b o, g.κ b ≠ .ot -> h.get? b = some o -> h'.get? b = some o   := fun b o q e => xb b o (fun w => q (w ▸ k)) e
 obtain ⟨mp, ns, r⟩ := V.loc
 refine ⟨V.len, V.nm, V.kL, V.yL, fun a ya => let ⟨o, e, k⟩ := V.yH a ya; ⟨o, xb a o (fun q => ny (q ▸ ya)) e, k⟩, ⟨mp, zbd (fun o e => kp _ o (by rw [V.kL]; decide) e) ns, fun x i l e1 e2 => let ⟨u, a, b⟩ := r x i l e1 e2; ⟨u, a, b.kept k xb⟩⟩, fun x i e => ?_, V.inj⟩
 obtain ⟨c, c1, c2, c3, c4, ov, ⟨oc, c5, c6⟩, c7⟩ := V.cel x i e
 exact ⟨c, c1, c2, c3, c4, ov, ⟨oc, kp _ _ (by rw [c4]; decide) c5, c6⟩, fun l hl => let ⟨u, a, b⟩ := c7 l hl; ⟨u, a, b.kept k xb⟩⟩
end
section
variable {S : Sta} {G : zaa} {nd : Nat} {hd : Bool} {names : Names} {lam : Bool} {cx : Cx}
theorem zcs {x : Str} {q : Pos} {i : Nat} (h : zbx cx (.Name x q) = some i) : ∃ k, zao cx.fn x 0 = some (i, k) /\ (k = .local \/ k = .cell) := by
 exact zbS h
theorem zbb {e : PySem.Expr} {t : Option PySem.Expr} {line : Nat} {env : Env} (he : zaK e ≠ 1) : swapsWith e t line env = pure false := by
 cases e <;> first | rfl | exact absurd rfl he
theorem zjA {x : Str} {q pos : Pos} {e : PySem.Expr} {xe : X} {i : Nat} (hs : zbx (S.at names none lam) (.Name x q) = some i) (hx : SndX S G nd hd (S.at names none lam) e xe)
  {A : Around} {env : Env} {outer : List Env} {L : Addr} {Y : Addr -> Prop} {m : Fm} {σ : Hp} {g : Gh} {s : Shared} {K : Fl -> Fm -> Hp -> Prop} {E : KE} (a : Act S (S.at names none lam) A env env outer L nd hd) (nf : zcP names) (I : Inv S (env :: outer) g σ s.heap) (V : VarsOk S Y s.heap g env names m) (h : evS G S.gc (.asg i xe) m σ K E)
  (hw : swapsWith e (some (.Name x q)) pos.line env = pure false) : wpAny S.M A (exec (.Assign [.Name x q] e pos) env) (OkS S env outer Y names g s K) (Er S (env :: outer) Y false g s E) s := by
 replace h := zdt h
 obtain ⟨k, hi, hk⟩ := zcs hs
 rw [arm_exec_Assign]
 refine wpAny_bind (wpAny_standAt ?_)
 show wpAny S.M A (swapsWith e (some (.Name x q)) pos.line env >>= _) _ _ _
 rw [hw]
 refine wpAny_bind (wpAny_pure ?_)
 rw [if_neg (by decide)]
 refine wpAny_bind (stX hx a nf I V h fun v d σ1 g1 s1 h1 e1 i1 r1 v1 z1 => ?_)
 refine wpAny_bind (m := swappedStores [.Name x q] e env) (wpAny_pure ?_)
 show wpAny S.M A (do assignAll v [assign (.Name x q) env]; pure Flow.next) _ _ _
 refine wpAny_bind (m := assign (.Name x q) env v) (wpAny_assign_Name (store a.kf v1 i1 hi hk (.v r1) fun h' tk I' E' V' _ => wpAny_pure ⟨.next, _, σ1, g1, (zat h1).2, e1.no.trans E', I', V', trivial, ⟨z1.1, z1.2.1, z1.2.2⟩⟩))
theorem zlZ {x : Str} {q pos : Pos} {e : PySem.Expr} {xe : X} {i : Nat} (he : zaK e ≠ 1) (hs : zbx (S.at names none lam) (.Name x q) = some i) (hx : SndX S G nd hd (S.at names none lam) e xe) : SndS S G nd hd names lam (.Assign [.Name x q] e pos) (.asg i xe) :=
 fun A env outer L Y m σ g s K E a nf I V h => zjA hs hx a nf I V h (zbb he)
theorem zfQ {el : PySem.Expr} {gs : List Comprehension} {sc : Scope} {p q : Pos} {x : Str} {line : Nat} {env : Env} : ∃ b, swapsWith (.ListComp el gs sc p) (some (.Name x q)) line env = pure b := ⟨_, rfl⟩
theorem zfV (ok : StaOk S) {x : Str} {q pos p : Pos} {elt : PySem.Expr} {gens : List Comprehension} {sc : Scope} {i : Nat} {xe : X} (hs : zbx (S.at names none lam) (.Name x q) = some i) (hc : LcW S G nd (S.at names none lam) elt gens sc xe) :
  SndS S G nd false names lam (.Assign [.Name x q] (.ListComp elt gens sc p) pos) (.asg i xe) := by
 intro A env outer L Y m σ g s K E a nf I V h
 obtain ⟨bb, hw⟩ := zfQ (el := elt) (gs := gens) (sc := sc) (p := p) (q := q) (x := x) (line := pos.line) (env := env)
 cases bb with
 | false => exact zjA hs (zfg ok rfl hc) a nf I V h hw
 | true =>
  obtain ⟨te, iter, ifs, gs, xi, t, b, tr, rfl, hok, hf, ht, hi, hT, hx⟩ := hc
  replace h := hx (zdt h)
  obtain ⟨k, hix, hk⟩ := zcs hs
  rw [exec_Assign_Name_used _ _ _ _ hw]
  refine wpAny_bind (wpAny_standAt (wpAny_bind ?_))
  show wpAny S.M A (do let _ ← comprehension (.ListComp elt (⟨te, iter, ifs, 0⟩ :: gs) sc p) sc env _ (newList []) false (eval iter env) (some (assign (.Name x q) env))) _ _ s
  refine wpAny_bind (wpAny_mono (zfF (Q := fun _ s' => OkS S env outer Y names g s K .next s') rfl hok hf ht hi (hT p) a I (V.rd nf) h fun g1 s1 C D it e1 z1 ap g2 σ2 acc s2 c q8 => ?_) (fun _ s' q => wpAny_pure (wpAny_pure q)) fun _ _ q => q.no)
  obtain ⟨d, σ3, g3, hK, E3, I3, rD, kC⟩ := c.seal ok ap q8
  have V3 := V.mono (e1.trans E3)
  show wpAny S.M A (assign (.Name x q) env (.ref D)) _ _ _
  refine wpAny_assign_Name (store a.kf V3 I3 hix hk (.v rD) fun h' tk I' E' V' same => ?_)
  obtain ⟨mp, ns⟩ := c.C
  refine ⟨mp, zbd (fun o e => (same C kC).trans e) ns, fun h'' sb => ?_⟩
  have EY : Ext Y g1 g3 s1.heap h' := E3.no.trans E'
  obtain ⟨E5, I5⟩ := zaB EY I' ap.nC kC sb.extBut
  have ny : ¬ Y C := fun ya => by obtain ⟨o, e, _⟩ := (V.mono e1).yH C ya; rw [ap.nC] at e; cases e
  exact ⟨.next, _, σ3, g3, (zat hK).2, e1.no.trans E5, I5, V'.but kC sb.extBut ny, trivial, z1.trans ⟨c.z.1, c.z.2.1, c.z.2.2⟩⟩
end
set_option backward.match.sparseCases false
theorem zcd {i : Nat} {r : List Nat} {v : V} {q : List V} {m : Fm} : asgN (i :: r) (v :: q) m = if i < m.length then asgN r q (zaw m i (some (.v v))) else none := rfl
theorem zkZ {α β : Type} {F : α -> Option β} {a : α} {ts : List α} {b : Bool} {y : β} {ns : List β} (e : (a :: ts).filterMap F = ns) (hl : ns.length = (a :: ts).length) (hF : F a = if b = true then some y else none) : ∃ ms, ns = y :: ms /\ ts.filterMap F = ms /\ ms.length = ts.length := by
 cases b with
 | true => rw [List.filterMap_cons_some (hF.trans (if_pos rfl))] at e; obtain rfl := e.symm; exact ⟨_, rfl, rfl, Nat.succ.inj hl⟩
 | false => rw [List.filterMap_cons_none (hF.trans (if_neg Bool.false_ne_true))] at e; exact absurd (Nat.le_trans (Nat.le_of_eq hl.symm) (e ▸ List.length_filterMap_le _ ts)) (Nat.lt_irrefl _)
theorem zbN {l : List Nat} : ∀ {ds : List V} {m m' : Fm}, asgN l ds m = some m' -> l.length = ds.length /\ m'.length = m.length := by
 induction l with
 | nil =>
  intro ds m m' h
  cases ds with
  | nil => cases h; exact ⟨rfl, rfl⟩
  | cons => cases h
 | cons i r ih =>
  intro ds m m' h
  cases ds with
  | nil => cases h
  | cons d ds =>
   rw [zcd] at h
   split at h
   ·obtain ⟨h1, h2⟩ := ih h
    exact ⟨congrArg (· + 1) h1, by rw [h2, zaP]⟩
   ·cases h
theorem zfK {i : Nat} {x : Option Loc} {r : List Nat} : ∀ {ds : List V} {m : Fm}, i ∉ r -> asgN r ds (zaw m i x) = (asgN r ds m).map fun m' => zaw m' i x := by
 induction r with
 | nil => intro ds m _; cases ds <;> rfl
 | cons j r ih =>
  intro ds m h
  cases ds with
  | nil => rfl
  | cons d ds =>
   rw [zcd, zcd, zaP]
   rw [List.mem_cons, not_or] at h
   split
   ·rw [zcW h.1, ih h.2]
   ·rfl
theorem ze3 {a b : List Nat} : ∀ {c d : List V} {m : Fm}, a.length = c.length -> asgN (a ++ b) (c ++ d) m = (asgN a c m).bind (asgN b d) := by
 induction a with
 | nil =>
  intro c d m h
  cases c with
  | nil => rfl
  | cons => cases h
 | cons i r ih =>
  intro c d m h
  cases c with
  | nil => cases h
  | cons x c =>
   rw [List.cons_append, List.cons_append, zcd, zcd]
   split
   ·exact ih (Nat.succ.inj h)
   ·rfl
theorem zjs {l : List Nat} : ∀ {ds : List V} {m : Fm}, l.Nodup -> l.length = ds.length -> asgN l.reverse ds.reverse m = asgN l ds m := by
 induction l with
 | nil =>
  intro ds m _ h
  cases ds with
  | nil => rfl
  | cons => cases h
 | cons i r ih =>
  intro ds m hn h
  cases ds with
  | nil => cases h
  | cons d ds =>
   rw [List.nodup_cons] at hn
   have h := Nat.succ.inj h
   rw [List.reverse_cons, List.reverse_cons, ze3 (by rw [List.length_reverse, List.length_reverse]; exact h), ih hn.2 h, zcd]
   cases hm : asgN r ds m with
   | none =>
    simp only [Option.bind_none]
    split
    ·rw [zfK hn.1, hm]; rfl
    ·rfl
   | some m' =>
    have := (zbN hm).2
    rw [Option.bind_some, zcd, this]
    split
    ·rw [zfK hn.1, hm]; rfl
    ·rfl
section
variable {S : Sta} {names : Names} {env : Env} {outer : List Env} {Y : Addr -> Prop} {A : Around} {Ev : Value -> Shared -> Prop}
noncomputable def IsSto (S : Sta) (env : Env) (x : Str) (act : Value -> Sem Unit) : Prop := ∀ (A : Around) (Q : Unit -> Shared -> Prop) (Ev : Value -> Shared -> Prop) (v : Value) (s : Shared), wpAny S.M A (storeName env x v) Q Ev s -> wpAny S.M A (act v) Q Ev s
inductive StoL (S : Sta) (env : Env) (names : Names) : List Nat -> List (Value -> Sem Unit) -> Prop
 | nil : StoL S env names [] []
 | cons {x : Str} {i : Nat} {k : NameKind} {act : Value -> Sem Unit} {l : List Nat} {acts : List (Value -> Sem Unit)} : zao names x 0 = some (i, k) -> (k = .local \/ k = .cell) -> IsSto S env x act -> StoL S env names l acts -> StoL S env names (i :: l) (act :: acts)
theorem StoL.append {l l' : List Nat} {a a' : List (Value -> Sem Unit)} (x : StoL S env names l a) (y : StoL S env names l' a') : StoL S env names (l ++ l') (a ++ a') := by
 induction x with
 | nil => exact y
 | cons h1 h2 h3 _ ih => exact .cons h1 h2 h3 ih
theorem StoL.reverse {l : List Nat} {a : List (Value -> Sem Unit)} (x : StoL S env names l a) : StoL S env names l.reverse a.reverse := by
 induction x with
 | nil => exact .nil
 | cons h1 h2 h3 _ ih => rw [List.reverse_cons, List.reverse_cons]; exact ih.append (.cons h1 h2 h3 .nil)
theorem VRs.reverse {h : Heap} {g : Gh} {vs : List Value} {ds : List V} (r : VRs S h g vs ds) : VRs S h g vs.reverse ds.reverse := by
 induction r with
 | nil => exact .nil
 | cons a _ ih => rw [List.reverse_cons, List.reverse_cons]; exact ih.append (.cons a .nil)
theorem zgq (kf : env.scope.kind = .function) {l : List Nat} {acts : List (Value -> Sem Unit)} (sl : StoL S env names l acts) : ∀ {vs : List Value} {ds : List V} {m m' : Fm} {g : Gh} {σ : Hp} {s : Shared} {Q : Unit -> Shared -> Prop}, asgN l ds m = some m' -> VRs S s.heap g vs ds -> VarsOk S Y s.heap g env names m -> Inv S (env :: outer) g σ s.heap ->
  (∀ s', Inv S (env :: outer) g σ s'.heap -> Ext Y g g s.heap s'.heap -> VarsOk S Y s'.heap g env names m' -> Rest s s' -> Q () s') -> wpAny S.M A (assignInOrder acts vs) Q Ev s := by
 induction sl with
 | nil =>
  intro vs ds m m' g σ s Q h r V I hQ
  cases r with
  | nil =>
   obtain rfl := Option.some.inj h
   exact assignInOrder_nil (hQ s I (.refl _ _ _) V (.refl _))
  | cons => cases h
 | cons h1 h2 h3 _ ih =>
  intro vs ds m m' g σ s Q h r V I hQ
  cases r with
  | nil => cases h
  | cons a r =>
   rw [zcd] at h
   split at h
   ·refine assignInOrder_cons (h3 _ _ _ _ _ (store kf V I h1 h2 (.v a) fun h' tk I' E' V' _ => ?_))
    exact ih h (r.mono E'.up) V' I' fun s' I2 E2 V2 z2 => hQ s' I2 (E'.trans E2) V2 ⟨z2.1, z2.2.1, z2.2.2⟩
   ·cases h
theorem zcp {cx : Cx} (hf : cx.fn = names) : ∀ {ts : List PySem.Expr} {l : List Nat}, zbR cx ts = some l -> StoL S env names l ((assignEach ts env).map (·.2)) /\ (assignEach ts env).length = ts.length /\ (assignEach ts env).findIdx? (·.1) = none /\ l.length = ts.length /\ ts.all (fun t => match t with | .Name .. => true | _ => false) = true
 | [], l, h => by obtain rfl := Option.some.inj h; exact ⟨.nil, rfl, rfl, rfl, rfl⟩
 | t :: ts, l, h => bd_e h fun i h1 h => bd_e h fun l' h2 h => by
  obtain rfl := Option.some.inj h
  obtain ⟨q1, q2, q3, q4, q5⟩ := zcp hf h2
  obtain ⟨x, p, rfl, h3⟩ := zdP h1
  obtain ⟨k, hi, hk⟩ := zbS h3
  rw [hf] at hi
  refine ⟨.cons hi hk (fun A Q Ev v s hh => wpAny_assign_Name hh) q1, congrArg (· + 1) q2, ?_, congrArg (· + 1) q4, q5⟩
  show List.findIdx? _ ((false, assign (.Name x p) env) :: assignEach ts env) = none
  rw [List.findIdx?_cons, q3]; rfl
set_option backward.match.sparseCases true in
theorem zco {cx : Cx} (hf : cx.fn = names) : ∀ {ts : List PySem.Expr} {l : List Nat}, zbR cx ts = some l -> ∀ {line : Nat} {ns : List Str}, (ts.filterMap fun t => match t with | .Name id pos => if env.kindOf id == some .local && pos.line == line then some id else none | _ => none) = ns -> ns.length = ts.length -> StoL S env names l (ns.map fun n => bindName env n)
 | [], l, h => by obtain rfl := Option.some.inj h; intro e _; subst e; exact .nil
 | t :: ts, l, h => by
   refine bd_e h fun i h1 h => bd_e h fun l' h2 h => ?_
   obtain rfl := Option.some.inj h
   obtain ⟨x, p, rfl, h3⟩ := zdP h1
   obtain ⟨k, hi, hk⟩ := zbS h3
   rw [hf] at hi
   intro e hl
   obtain ⟨ms, rfl, e, hl⟩ := zkZ e hl rfl
   exact .cons hi hk (fun A Q Ev v s hh => wpAny_bindName hh) (zco hf h2 e hl)
end
set_option backward.match.sparseCases true
section
variable {S : Sta} {G : zaa} {nd : Nat} {names : Names} {lam : Bool}
theorem zdd {ts es : List PySem.Expr} {k k' : Nat} {tp ep : Pos} {env : Env} (hc : es.all (constantsAlone 8) = false) :
  swappedStores [.Tuple ts k tp] (.Tuple es k' ep) env = pure none \/ ∃ line ns, swappedStores [.Tuple ts k tp] (.Tuple es k' ep) env = pure (some ns) /\ (ts.filterMap fun t => match t with | .Name id pos => if env.kindOf id == some .local && pos.line == line then some id else none | _ => none) = ns /\ ns.length = ts.length := by
 unfold swappedStores
 dsimp only
 split
 ·exact .inl rfl
 ·split
  ·exact .inl rfl
  ·split
   ·exact .inl rfl
   ·rename_i hl
    simp only [Bool.or_eq_true, bne_iff_ne, ne_eq, not_or, Decidable.not_not] at hl
    split
    ·exact .inl rfl
    ·rw [if_neg (by rw [hc]; decide)]
     exact .inr ⟨_, _, rfl, rfl, hl.1⟩
theorem zlY {ts es : List PySem.Expr} {k k' : Nat} {tp ep pos : Pos} {l : List Nat} {xs : List X} (hs : zbR (S.at names none lam) ts = some l) (hl : l.length = es.length) (hn : l.Nodup) (h8 : es.length <= 8) (hc : es.all (constantsAlone 8) = false) (hx : zbF S G nd false (S.at names none lam) es xs) :
  SndS S G nd false names lam (.Assign [.Tuple ts k tp] (.Tuple es k' ep) pos) (.asgs l xs) := by
 intro A env outer L Y m σ g s K E a nf I V h
 replace h := zjl h
 have hv : ∀ {P : Value -> Shared -> Prop}, (∀ t vs ds σ1 g1 s1, (need (asgN l ds m) fun m' => K .next m' σ1) -> Ext No g g1 s.heap s1.heap -> Inv S (env :: outer) g1 σ1 s1.heap -> VRs S s1.heap g1 vs ds -> VarsOk S Y s1.heap g1 env names m -> Rest s s1 -> IsTup s1.heap t vs.toArray -> P (.ref t) s1) ->
   wpAny S.M A (eval (.Tuple es k' ep) env) P (Er S (env :: outer) Y false g s E) s := by
  intro P hP
  rw [arm_eval_Tuple]
  refine wpAny_bind (wpAny_standAt (wpAny_bind (wpAny_mono (hx A env env outer L Y m [] σ g s _ E ep a I (V.rd nf) h) (fun vs s1 ⟨ds, σ1, g1, h1, e1, i1, r1, z1⟩ => ?_) fun _ _ q => q.no)))
  have hlen : vs.length <= sizeLine := by
   obtain ⟨m', hm, _⟩ := zae h1
   have := (zbN hm).1
   rw [r1.length, ← this, hl, sizeLine_eq]; omega
  refine wpAny_newTuple ?_ hlen
  obtain ⟨I2, E2⟩ := i1.keeps (h' := s1.heap.push { cls := .type "tuple", data := .seq vs.toArray }) (fun b o q => Heap.get?_push_of_some _ q)
  exact hP _ vs ds σ1 g1 { s1 with heap := s1.heap.push { cls := .type "tuple", data := .seq vs.toArray } } h1 (e1.trans E2) I2 (r1.mono E2.up) ((V.mono e1).mono E2) ⟨z1.1, z1.2.1, z1.2.2⟩ ⟨_, Heap.get?_push_size _ rfl, rfl, _, rfl⟩
 obtain ⟨sl, q2, q3, q4, q5⟩ := zcp (S := S) (names := names) (env := env) rfl hs
 have done : ∀ {σ1 g1 m'} {s1 : Shared} {acts : List (Value -> Sem Unit)} {l' : List Nat} {vs' : List Value} {ds' : List Mine.Lake.V}, StoL S env names l' acts -> asgN l' ds' m = some m' -> VRs S s1.heap g1 vs' ds' -> K .next m' σ1 -> Ext No g g1 s.heap s1.heap -> Inv S (env :: outer) g1 σ1 s1.heap -> VarsOk S Y s1.heap g1 env names m -> Rest s s1 ->
   wpAny S.M A (assignInOrder acts vs') (fun _ s' => OkS S env outer Y names g s K .next s') (Er S (env :: outer) Y false g s E) s1 := by
  intro σ1 g1 m' s1 acts l' vs' ds' sl hm r k e1 i1 v1 z1
  exact zgq a.kf sl hm r v1 i1 fun s' I' E' V' z' => ⟨.next, m', σ1, g1, k, e1.no.trans E', I', V', trivial, z1.trans z'⟩
 have hlen : ∀ {vs : List Value} {ds : List Mine.Lake.V} {h : Heap} {g1 : Gh} {m'}, VRs S h g1 vs ds -> asgN l ds m = some m' -> vs.length = ts.length := fun r hm => by rw [r.length, ← (zbN hm).1, q4]
 rcases zdd (env := env) (ts := ts) (k := k) (k' := k') (tp := tp) (ep := ep) hc with hw | ⟨line, ns, hw, hf, hnl⟩
 ·refine Assign_Tuple (hv fun t vs ds σ1 g1 s1 h1 e1 i1 r1 v1 z1 ht => ?_) rfl hw
  obtain ⟨m', hm, hk⟩ := zae h1
  refine assign_Tuple_tuple (a.hn rfl) ht (by rw [q2]; simp [hlen r1 hm]) q3 fun h' eb => ?_
  obtain ⟨I2, E2⟩ := i1.keeps (zbg eb)
  have r2 := r1.mono E2.up
  exact done (s1 := { s1 with heap := h' }) sl hm (by simpa using r2) hk (e1.trans E2) I2 (v1.mono E2) ⟨z1.1, z1.2.1, z1.2.2⟩
 ·have sl2 := zco (S := S) (names := names) (env := env) rfl hs hf hnl
  refine Assign_Tuple_swapped (hv fun t vs ds σ1 g1 s1 h1 e1 i1 r1 v1 z1 ht => ?_) rfl hw
  obtain ⟨m', hm, hk⟩ := zae h1
  have e2 : ns.length = vs.toArray.size := by rw [hnl]; simp [hlen r1 hm]
  rw [e2]
  refine unpackItems_tuple (a.hn rfl) ht fun h' eb => ?_
  obtain ⟨I2, E2⟩ := i1.keeps (zbg eb)
  have r2 := r1.mono E2.up
  have hd := (zbN hm).1
  have := done (s1 := { s1 with heap := h' }) (vs' := vs.reverse) sl2.reverse (by rw [zjs hn hd]; exact hm) r2.reverse hk (e1.trans E2) I2 (v1.mono E2) ⟨z1.1, z1.2.1, z1.2.2⟩
  rw [← List.map_reverse] at this
  simpa using this
theorem znU {ts : List PySem.Expr} {e : PySem.Expr} {k : Nat} {tp pos : Pos} {l : List Nat} {x : X} (he : zaK e ≠ 2) (hc : zaK e ≠ 1) (hs : zbR (S.at names none lam) ts = some l) (hx : SndX S G nd false (S.at names none lam) e x) :
  SndS S G nd false names lam (.Assign [.Tuple ts k tp] e pos) (.unp l x) := by
 intro A env outer L Y m σ g s K E a nf I V h
 replace h := zjk h
 obtain ⟨sl, q2, q3, q4, q5⟩ := zcp (S := S) (names := names) (env := env) rfl hs
 have hsw : swapsWithSole [.Tuple ts k tp] e pos.line env = pure false := by
  exact (zbb hc : swapsWith e (some (.Tuple ts k tp)) pos.line env = pure false)
 have hw : swappedStores [.Tuple ts k tp] e env = pure none := by
  cases e <;> first | rfl | exact absurd rfl he
 refine Assign_Tuple (stX hx a nf I V h fun v d σ1 g1 s1 h1 e1 i1 r1 v1 z1 => ?_) hsw hw
 obtain ⟨pd, hp, h1⟩ := zae h1
 obtain ⟨ds, hds, h1⟩ := zae h1
 obtain ⟨m', hm, hk⟩ := zae h1
 have hl := (zbN hm).1
 have pds : ∀ {h : Heap} {vs : List Value} {l : List PyData}, PVs S.w.params h g1.κ vs l -> VRs S h g1 vs (l.map .pd) := by
  intro h vs l p
  induction l generalizing vs with
  | nil => cases p; exact .nil
  | cons d r ih => cases p with | cons a p => exact .cons (.pd a) (ih p)
 have fin : ∀ {vs : Array Value} {h' : Heap}, PVs S.w.params s1.heap g1.κ vs.toList ds -> Heap.ExtBut s1.heap.objs.size s1.heap h' -> wpAny S.M A (assignInOrder ((assignEach ts env).map (·.2)) vs.toList) (fun _ s' => OkS S env outer Y names g s K .next s') (Er S (env :: outer) Y false g s E) { s1 with heap := h' } := by
  intro vs h' p eb
  obtain ⟨I2, E2⟩ := i1.keeps (zbg eb)
  exact zgq a.kf sl hm (pds (p.mono E2.up.fz)) (v1.mono E2) I2 fun s' I' E' V' z' => ⟨.next, m', σ1, g1, hk, (e1.trans E2).no.trans E', I', V', trivial, z1.trans ⟨z'.1, z'.2.1, z'.2.2⟩⟩
 rw [arm_assign_Tuple]
 refine wpAny_bind (wpAny_standAt ?_)
 unfold unpack
 refine zaJ hds (fun hd => ?_) fun hd => ?_
 ·obtain ⟨t, vs, rfl, ht, p⟩ := r1.isList i1 (zbf hd ▸ hp)
  have hlen : (assignEach ts env).length = vs.size := by rw [q2, ← q4, hl, List.length_map]; exact p.length.symm
  rw [hlen, q3]
  exact wpAny_bind (wpAny_holding (kun_itemsOf (a.hn rfl) ht fun h' eb => fin p eb))
 ·obtain ⟨t, vs, rfl, ht, p⟩ := r1.isTup (zcn hd ▸ hp)
  have hlen : (assignEach ts env).length = vs.size := by rw [q2, ← q4, hl, List.length_map]; exact p.length.symm
  rw [hlen, q3]
  exact wpAny_bind (wpAny_holding (unpackItems_tuple (a.hn rfl) ht fun h' eb => fin p eb))
theorem s_ex {e : PySem.Expr} {pos : Pos} {x : X} {hd : Bool} (he : zaK e ≠ 1) (hx : SndX S G nd hd (S.at names none lam) e x) : SndS S G nd hd names lam (.Expr e pos) (.ex x) := by
 intro A env outer L Y m σ g s K E a nf I V h
 replace h := zji h
 rw [PySem.exec_Expr env _ _ (by unfold interactive; rw [a.kf]; rfl) (zbb he)]
 refine wpAny_bind (wpAny_standAt (wpAny_bind (stX hx a nf I V h fun v d σ1 g1 s1 h1 e1 i1 r1 v1 z1 => ?_)))
 exact wpAny_dropValue ⟨.next, m, σ1, g1, h1, e1.no, i1, v1, trivial, z1⟩
end
section
variable {S : Sta} {h h' : Heap} {g g' : Gh}
theorem zjz {k a : Str} {u v : V} {r : List (Str × V)} : setS k v ((a, u) :: r) = match sb a k with | true => (a, v) :: r | false => (a, u) :: setS k v r := rfl
theorem zfW {vs : List (Str × Value)} {xs : List (Str × V)} {k : Str} {v : Value} {x : V} (r : RKv S h g vs xs) (rv : VR S h g v x) (hn : (xs.map (·.1)).Nodup) : RKv S h g (stored vs k v) (setS k x xs) /\ ((setS k x xs).map (·.1)).Nodup := by
 have same : ∀ {vs : List (Str × Value)} {xs : List (Str × V)}, RKv S h g vs xs -> k ∉ xs.map (·.1) -> vs.map (fun kv => if kv.1 = k then (kv.1, v) else kv) = vs := by
  intro vs xs r
  induction r with
  | nil => intro _; rfl
  | cons a _ ih =>
   intro hk
   rw [List.map_cons, List.mem_cons, not_or] at hk
   rw [List.map_cons, ih hk.2, if_neg (fun q => hk.1 q.symm)]
 have keys : ∀ {xs : List (Str × V)} {y : Str}, y ∈ (setS k x xs).map (·.1) -> y = k \/ y ∈ xs.map (·.1) := by
  intro xs
  induction xs with
  | nil => intro y hy; exact .inl (List.mem_singleton.mp hy)
  | cons p r ih =>
   obtain ⟨a, u⟩ := p
   intro y hy
   rw [zjz] at hy
   cases q : sb a k with
   | true => rw [q] at hy; exact .inr hy
   | false =>
    rw [q, List.map_cons, List.mem_cons] at hy
    rw [List.map_cons, List.mem_cons]
    rcases hy with hy | hy
    ·exact .inr (.inl hy)
    ·exact (ih hy).imp id .inr
 induction r with
 | nil => exact ⟨.cons rv .nil, List.nodup_cons.mpr ⟨fun h => (nomatch h), List.nodup_nil⟩⟩
 | @cons k' v' x' vs xs a r ih =>
  rw [List.map_cons, List.nodup_cons] at hn
  obtain ⟨i1, i2⟩ := ih hn.2
  rw [zjz]
  by_cases q : k' = k
  ·subst q
   have hs : sb k' k' = true := by simp [sb]
   rw [hs]
   refine ⟨?_, by rw [List.map_cons, List.nodup_cons]; exact hn⟩
   unfold stored
   rw [if_pos (by simp), List.map_cons, if_pos rfl, same r hn.1]
   exact .cons rv r
  ·have hs : sb k' k = false := by
    cases z : sb k' k with
    | false => rfl
    | true =>
     refine absurd ?_ q
     exact beq_iff_eq.mp ((str_beq k' k).symm.trans z)
   rw [hs]
   refine ⟨?_, ?_⟩
   ·have : stored ((k', v') :: vs) k v = (k', v') :: stored vs k v := by
     unfold stored
     simp only [List.any_cons, List.map_cons, q, decide_false, Bool.false_or, if_false]
     split <;> simp
    rw [this]
    exact .cons a i1
   ·rw [List.map_cons, List.nodup_cons]
    refine ⟨fun hm => ?_, i2⟩
    rcases keys hm with e | e
    ·exact q e
    ·exact hn.1 e
end
section
variable {S : Sta} {G : zaa} {nd : Nat} {names : Names} {lam : Bool} {hd : Bool}
theorem ziA {fr : List Env} {A : Around} {g : Gh} {σ : Hp} {s : Shared} {o kv v : Value} {Ev : Value -> Shared -> Prop} {Q : Unit -> Shared -> Prop} {j : Nat} {l : List PyData} {i : Int} {d : PyData} (I : Inv S fr g σ s.heap) (m : MuList S g s.heap o j l) (rk : VR S s.heap g kv (.pd (.int i))) (rv : VR S s.heap g v (.pd d))
  (hz : i < 0 /\ -(l.length : Int) <= i /\ l.length <= sizeLine) (hQ : ∀ s', Inv S fr g (σ.set j (.list (l.set (i + l.length).toNat d))) s'.heap -> Ext No g g s.heap s'.heap -> Rest s s' -> Q () s') : wpAny S.M A (setItem o kv v) Q Ev s := by
 obtain ⟨ws, n, hi, e, e1, p, hl⟩ := m
 obtain ⟨t, rfl⟩ := zbw rk
 rw [e]
 have hs := szl hz.2.2
 refine ki_setBack e1 hz.1 (by rw [hl]; exact hz.2.1) (by omega) ?_
 obtain ⟨n', he⟩ := zmr (f := fun xs => xs.setIfInBounds (i + ws.size).toNat v) e1
 obtain ⟨I2, E2⟩ := I.upMu (o := .list (l.set (i + l.length).toNat d)) hi (fun b o q e => ((Heap.SameBut.update ..).2 b q).trans e) ⟨_, he⟩ fun u => .list (vs := (ws.setIfInBounds (i + ws.size).toNat v).toList) he (by
  rw [Array.toList_setIfInBounds, ← hl]
  exact ((p.mono u.fz).set _ ((zbu rv).mono u.fz)))
 exact hQ _ I2 E2 ⟨rfl, rfl, rfl⟩
theorem zix (ok : StaOk S) {fr : List Env} {A : Around} {g : Gh} {σ σ' : Hp} {s : Shared} {o kv v : Value} {xo xk xv : V} {Ev : Value -> Shared -> Prop} {Q : Unit -> Shared -> Prop} (I : Inv S fr g σ s.heap) (ro : VR S s.heap g o xo) (rk : VR S s.heap g kv xk) (rv : VR S s.heap g v xv) (h : zhr σ xo xk xv = some σ')
  (hQ : ∀ s', Inv S fr g σ' s'.heap -> Ext No g g s.heap s'.heap -> Rest s s' -> Q () s') : wpAny S.M A (setItem o kv v) Q Ev s := by
 refine zaJ h (fun h => bd_e h fun y hy h => bd_e h fun p hp h => gd_e h fun hz h => ?_) fun h => bd_e h fun i hi h => bd_e h fun p hp h => bd_e h fun d hd h => gd_e h fun hz h => ziA I (ro.muList I hp) (zbz hi ▸ rk) (zbv hd ▸ rv) hz (h ▸ hQ)
 subst h
 obtain ⟨q, e⟩ := zem hp
 obtain ⟨a, es, n, rfl, ea, hi, e1, e2, e3⟩ := (q ▸ ro).refDict ok I e
 obtain ⟨t, rfl⟩ := ze7 (zb6 hy ▸ rk)
 obtain ⟨vs, k1, k2, k3⟩ := zlw e2
 have hd : s.heap.DictOf (zcf S) a vs := ⟨_, _, _, e1, ⟨rfl, rfl, rfl⟩, rfl, fun e he => ze8 e2 e (Array.mem_toList_iff.mpr he), k2, by rw [k1.keys]; exact k3⟩
 have hlen : vs.length = p.2.length := by have := congrArg List.length k1.keys; simpa using this
 refine wpAny_setItem_pairs (knd := zcf S) (k := y) (beq_self_eq_true y) hd (fun h' hd' sb => ?_) (by rw [hlen]; exact hz)
 obtain ⟨⟨oc, od, odt, osl⟩, es', ep, q1, ⟨q2, q3, q4⟩, q5, q6, q7, q8⟩ := hd'
 simp only at q2 q3 q4 q5
 subst q2 q3 q4 q5 ea
 obtain ⟨I2, E2⟩ := I.upMu (h' := h') (o := .dict (setS y xv p.2)) hi (fun b o q e => (sb.2 b q).trans e) ⟨_, q1⟩ fun u => by
  obtain ⟨s1, s2⟩ := zfW (k := y) (k1.mono u) (rv.mono u) k3
  exact .dict (es := es'.toList) q1 (zmD s1 (fun e he => q6 e (Array.mem_toList_iff.mp he)) q7 s2)
 exact hQ _ I2 E2 ⟨rfl, rfl, rfl⟩
theorem zlV (ok : StaOk S) {o k e : PySem.Expr} {p pos : Pos} {xo xk xe : X} (hc : zaK e ≠ 1) (ho : SndX S G nd hd (S.at names none lam) o xo) (hk : SndX S G nd hd (S.at names none lam) k xk) (he : SndX S G nd hd (S.at names none lam) e xe) :
  SndS S G nd hd names lam (.Assign [.Subscript o k p] e pos) (.seti xo xk xe) := by
 intro A env outer L Y m σ g s K E a nf I V h
 replace h := zjj h
 have hw : swapsWith e (some (.Subscript o k p)) pos.line env = pure false := zbb hc
 refine wpAny_Assign_Subscript (stX he a nf I V h fun v d σ1 g1 s1 h1 e1 i1 r1 v1 z1 => ?_) hw
 refine stS e1.no z1 (stX ho a nf i1 v1 h1 fun vo xo' σ2 g2 s2 h2 e2 i2 r2 v2 z2 => ?_)
 refine stS (e1.trans e2).no (z1.trans z2) (stX hk a nf i2 v2 h2 fun vk xk' σ3 g3 s3 h3 e3 i3 r3 v3 z3 => ?_)
 obtain ⟨σ4, h4, h3⟩ := zae h3
 refine zix ok i3 (r2.mono e3.up) r3 ((r1.mono e2.up).mono e3.up) h4 fun s4 i4 e4 z4 => ?_
 exact ⟨.next, m, σ4, g3, h3, (((e1.trans e2).trans e3).trans e4).no, i4, v3.mono e4, trivial, ((z1.trans z2).trans z3).trans z4⟩
end
section
variable {S : Sta} {G : zaa} {nd : Nat} {names : Names} {lam : Bool} {hd : Bool} {A : Around} {env : Env} {outer : List Env} {L : Addr} {Y : Addr -> Prop} {m : Fm} {σ : Hp} {g g1 : Gh} {s s1 s' : Shared} {E : KE}
theorem zjO {cx : Cx} {e : Value} (a : Act S cx A env env outer L nd hd) (er : Er S (env :: outer) Y false g s E e s') : notedBy S.M A env (fun e s' => cameBackBy S.M A env (Er S (env :: outer) Y false g s E) e s') e s' := by
 obtain ⟨exc, σ', g', ea, tr, rfl, _, hE, x1, I1, ex, z1⟩ := er
 unfold notedBy
 refine zbn a.frames a.fL a.fL I1 ex fun g2 h2 I2 x2 ex2 => ?_
 unfold cameBackBy
 have x₀ := ex2
 obtain ⟨kd, oe, vs, dx, mp, h1, h2', h3, h4, h5, h6, h7, ⟨v1, h8, h9⟩, h10, h11⟩ := ex2
 rcases h11 with ⟨q, _⟩ | ⟨hx, T, oT, ts, q1, q2, q3, q4, q5, q6⟩
 ·cases q
 ·refine wpAny_bind (wpAny_field h1 h4 q1 ?_)
  rw [if_neg (show ¬ ((Value.ref T == Value.none) = true) from by simp)]
  refine zar (S := S) (g := g2) (σ := σ') (s := { s' with heap := h2 }) I2 x₀ fun h3 I3 x3 ex3 => ?_
  exact ⟨exc, σ', g2, ea, true, rfl, nofun, hE, (x1.trans x2.no).trans x3.no, I3, ex3, z1.trans ⟨rfl, rfl, rfl⟩⟩
structure FSt (S : Sta) (env : Env) (outer : List Env) (Y : Addr -> Prop) (names : Names) (g1 : Gh) (s1 : Shared) (it : Addr) (v : Value) (x : V) (k : Nat) (g : Gh) (σ : Hp) (m : Fm) (s : Shared) : Prop where
 e : Ext Y g1 g s1.heap s.heap
 i : Inv S (env :: outer) g σ s.heap
 V : VarsOk S Y s.heap g env names m
 z : Rest s1 s
 ko : g.κ it = .ot
 it : ItAt s.heap it v x k
theorem zkY {it : Addr} {v : Value} {x : V} {k : Nat} {cx : Cx} (a : Act S cx A env env outer L nd false) (nm : env.scope.names = names) : Sto S A g names env (FSt S env outer Y names g1 s1 it v x k g σ) := by
 refine ⟨a.hn rfl, fun y i kd w d m s Q Ev hi hkd hlt p r hQ => ?_, fun m s h' p eb => ?_⟩
 ·refine store a.kf p.V p.i hi hkd (.v (.pd r)) fun h' tk I' E' V' same => ?_
  exact hQ _ ⟨p.e.trans E', I', V', ⟨p.z.1, p.z.2.1, p.z.2.2⟩, p.ko, p.it.at fun o e => (same _ p.ko).trans e⟩ E'.fz
 ·obtain ⟨I2, E2⟩ := p.i.keeps (zbg eb)
  exact ⟨p.e.trans E2.no, I2, p.V.mono E2, ⟨p.z.1, p.z.2.1, p.z.2.2⟩, p.ko, p.it.at fun o e => zbg eb _ o e⟩
inductive FLI (S : Sta) (env : Env) (outer : List Env) (Y : Addr -> Prop) (names : Names) (g1 : Gh) (s1 : Shared) (it : Addr) (v : Value) (x : V) (l : List PyData) (F : List PyData -> Fm -> Hp -> Prop) (n : Nat) (s : Shared) : Prop
 | mk (k : Nat) (g : Gh) (σ : Hp) (m : Fm) (hn : n = l.length + 1 - k) (hk : k <= l.length) (p : FSt S env outer Y names g1 s1 it v x k g σ m s) (hl : zac σ x = some l) (h : F (l.drop k) m σ)
theorem znX {te iter : PySem.Expr} {b : List Stmt} {pos : Pos} {t : Tg} {xi : X} {xb : List Mine.Lake.S} (hf : ∀ ev w, foldedSetIterable iter ev w = pure w) (htg : TgOk S names te t) (hi : SndX S G nd false (S.at names none lam) iter xi) (hb : zcO S G nd false names lam b xb) :
  SndS S G nd false names lam (.For te iter b [] pos) (.for t xi xb) := by
 intro A env outer L Y m σ g s K E a nf I V h
 replace h := zjg h
 rw [arm_exec_For]
 refine wpAny_bind (wpAny_standAt (wpAny_bind (stX hi a nf I V h fun v x σ1 g1 s1 h1 e1 i1 r1 v1 z1 => ?_)))
 rw [hf]
 refine wpAny_bind (wpAny_pure (wpAny_bind (wpAny_standAt (wpAny_bind (wpAny_holding ?_)))))
 refine zaj h1 fun l hl h1 => zb0 i1 r1 hl fun oi hit => ?_
 obtain ⟨I2, E2⟩ := i1.keeps (h' := s1.heap.push oi) fun b o q => Heap.get?_push_of_some _ q
 have nI : s1.heap.get? s1.heap.objs.size = none := Heap.get?_none_of_le (Nat.le_refl _)
 generalize s1.heap.objs.size = it at hit nI ⊢
 have ny : ¬ Y it := fun ya => by obtain ⟨o, e, _⟩ := v1.yH _ ya; rw [nI] at e; cases e
 refine wpAny_runOwn (codeAny_forLoop_any (FLI S env outer Y names g1 s1 it v x l (forN (fun d m' σ' k => need (tgFm m' t d) fun m'' => evSs G S.gc xb m'' σ' k E) (fun σ' k => still σ1 σ' x k) K)) (fun n s2 hI => ?_) _
  ⟨0, g1, σ1, m, rfl, Nat.zero_le _, ⟨E2.no, I2, v1.mono E2, ⟨rfl, rfl, rfl⟩, i1.ot _ nI, hit⟩, hl, h1⟩)
 obtain ⟨k, g2, σ2, m2, hn, hk, ⟨e2, i2, v2, z2, kI, hit2⟩, hl2, hF⟩ := hI
 refine zd1 (a.hn rfl) i2 (r1.mono e2.up) hl2 hit2 hk (fun w d h' tk e p sb i => ?_) (fun h' e eb => ?_)
 ·rw [zhQ e] at hF
  refine zaj hF fun m3 hm3 hF => ?_
  obtain ⟨e3, i3⟩ := zaB e2 i2 nI kI sb.extBut
  refine zjC i (htg (zkY a v2.nm) w d m2 m3 _ _ _ hm3 ⟨e3, i3, v2.but kI sb.extBut ny, ⟨z2.1, z2.2.1, z2.2.2⟩, kI, i⟩ (p.mono (zbc i2 kI sb.extBut).fz) fun s4 p4 fz => ?_)
  obtain ⟨e4, i4, v4, z4, k4, hit4⟩ := p4
  refine wpAny_mono (hb A env outer L Y m3 σ2 g2 s4 _ E a nf i4 v4 hF) (fun fl s5 hr => ?_) fun _ _ q => zjO a (q.trans (e1.no.trans e4) (z1.trans z4))
  obtain ⟨f, m5, σ5, g5, h5, e5, i5, v5, r5, z5⟩ := hr
  have EE := e4.trans e5
  have ZZ := z4.trans z5
  obtain ⟨oi', _, _, hoi, _, _, _⟩ := hit4.has
  have kI5 : g5.κ it = .ot := (e5.kind _ _ hoi).trans k4
  have hit5 : ItAt s5.heap it v x (k + 1) := hit4.at fun o e => e5.keep _ o e ny (by rw [k4]; decide) (by rw [k4]; decide) (by rw [k4]; decide) (by rw [k4]; decide)
  have hlt : k < l.length := (List.getElem?_eq_some_iff.mp e).1
  cases fl <;> cases f <;> first
   | exact r5.elim
   | exact ⟨_, hn ▸ less hlt, k + 1, g5, σ5, m5, rfl, hlt, ⟨EE, i5, v5, ZZ, kI5, hit5⟩, (zal h5).1.trans hl, (zal h5).2⟩
   | exact ⟨_, m5, σ5, g5, h5, e1.no.trans EE, i5, v5, r5, z1.trans ZZ⟩
 ·subst e
  rw [List.drop_length] at hF
  obtain ⟨e3, i3⟩ := zaB e2 i2 nI kI eb
  exact wpAny_execs_nil ⟨.next, m2, σ2, g2, hF, e1.no.trans e3, i3, v2.but kI eb ny, trivial, z1.trans ⟨z2.1, z2.2.1, z2.2.2⟩⟩
end
inductive ExcNew (S : Sta) (fr : List Env) (g : Gh) (σ : Hp) (s : Shared) (exc : Exc) (v : Value) (s' : Shared) : Prop
 | mk (ea : Addr) (g' : Gh) (e : v = .ref ea) (x : Ext No g g' s.heap s'.heap) (i : Inv S fr g' σ s'.heap) (a : ExcAt S s'.heap g' ea exc false) (z : Rest s s')
structure ExcMk (S : Sta) (nd : Nat) : Prop where
 new : ∀ {A env outer L g σ s vs ds lim exc Ev}, CallAt A env outer L nd -> Inv S (env :: outer) g σ s.heap -> VRs S s.heap g vs ds -> zf6 lim ds = some exc ->
  wpAny S.M A (call (.ref (S.ec lim)) vs []) (ExcNew S (env :: outer) g σ s exc) Ev s
section
variable {M : Model} {A : Around} {Ev : Value -> Shared -> Prop} {s : Shared} {K : Frag} {C : Addr}
theorem zch (X : K.In s.heap) (h : isClsIn K C = true) : Looks M s.heap (isType (.ref C)) true := by
 unfold isClsIn clsIn at h
 split at h
 ·rename_i ho
  exact (Looks.ld (part := some headPart) (X _ _ ho)).andThen .now
 ·cases h
theorem zbB {a : Addr} {o : Obj} {vs : Array Value} (e : s.heap.get? a = some o) (hd : o.data = .fields vs) : Looks M s.heap (isType (.ref a)) false := by
 refine (Looks.ld (part := some headPart) e).andThen ?_
 rw [hd]; exact .now
theorem zdW (X : K.In s.heap) (h : isClsIn K C = true) (hm : mroIn K C (.type "BaseException") = some true) : Looks M s.heap (isExcClass (.ref C)) true := by
 unfold isExcClass
 exact (zch X h).andThen (looks_mroIn X hm)
end
section
variable {S : Sta} {G : zaa} {nd : Nat} {names : Names} {lam hd : Bool}
theorem zcG (ok : StaOk3 S) (k2 : KOk2 S) {fr : List Env} {A : Around} {g : Gh} {σ : Hp} {s : Shared} {ea : Addr} {e : Exc} {tr b : Bool} {Ev : Value -> Shared -> Prop} {Q : Bool -> Shared -> Prop} (I : Inv S fr g σ s.heap) (x : ExcAt S s.heap g ea e tr) (h : Q (b == e.lim) s) : wpAny S.M A (excMatches (.ref ea) (.ref (S.ec b))) Q Ev s := by
 have X := kIn ok.toStaOk I
 obtain ⟨oe, vs, dx, mp, h1, h2, h3, h4, _⟩ := x.obj
 unfold excMatches
 refine wpAny_bind (m := isInstance (.ref (S.ec b)) (.type "tuple")) ((looks_instIn X (k2.xTu b)).here ?_)
 rw [if_neg (by decide)]
 refine wpAny_bind (wpAny_pure ?_)
 simp only [List.forIn_cons, List.forIn_nil]
 have hty : Looks S.M s.heap (typeOf (.ref ea)) (.ref (S.ec e.lim)) := (Looks.ld (part := some headPart) h1).andThen (by rw [h2]; exact .now)
 refine wpAny_bind (wpAny_bind (wpAny_bind (m := isExcClass (.ref (S.ec b))) ((zdW X (k2.xCl b) (ok.ko.xSub b)).here ?_)))
 rw [if_neg (by decide)]
 refine wpAny_pure (wpAny_pure (wpAny_bind (m := typeOf (.ref ea)) (hty.here (wpAny_bind (wpAny_bind (wpAny_bind (m := isSubtype (.ref (S.ec e.lim)) (.ref (S.ec b))) ((looks_mroIn X (k2.xEq e.lim b)).here ?_)))))))
 have hb : (e.lim == b) = (b == e.lim) := by cases e.lim <;> cases b <;> rfl
 rw [hb]
 cases hq : (b == e.lim) with
 | true => rw [hq] at h; exact wpAny_pure (wpAny_pure (wpAny_pure h))
 | false => rw [hq] at h; exact wpAny_pure (wpAny_pure (wpAny_pure h))
theorem zkr (ok : StaOk3 S) (k2 : KOk2 S) (xm : ExcMk S nd) {x : Str} {q p pos : Pos} {es : List PySem.Expr} {xs : List X} {lim : Bool} (hx : x = Str.ofString (if lim then "LimitFault" else "EvalFault")) (hg : nmOf (S.at names none lam) x = some .g) (hs : es.all (fun e => !zap e) = true) (he : zbF S G nd false (S.at names none lam) es xs) (hn : es = [] -> xs = []) :
  SndS S G nd false names lam (.Raise (some (.Call (.Name x q) es [] p)) none pos) (.raise lim xs) := by
 intro A env outer L Y m σ g s K E a nf I V h
 replace h := zhO h
 rw [arm_exec_Raise]
 refine wpAny_bind (wpAny_standAt ?_)
 show wpAny S.M A (raiseStmt env (some (do let v ← eval (.Call (.Name x q) es [] p) env; standAt pos; pure v)) none) _ _ _
 unfold raiseStmt
 dsimp only
 have hmg : S.mg x = some (.ref (S.ec lim)) := by subst hx; cases lim; exact k2.xF; exact k2.xL
 have main : wpAny S.M A (eval (.Call (.Name x q) es [] p) env) (fun v s' => ∃ ea g' σ' exc, v = .ref ea /\ E exc σ' /\ Ext No g g' s.heap s'.heap /\ Inv S (env :: outer) g' σ' s'.heap /\ ExcAt S s'.heap g' ea exc false /\ Rest s s') (Er S (env :: outer) Y false g s E) s := by
  rw [arm_eval_Call_Name']
  refine wpAny_bind (zaF a ok.toStaOk I.stays hg hmg ?_)
  refine wpAny_mono (zaD (P := S.K.In) hs he a I (V.rd nf) (keeps_K (k2.xKp lim)) h hn fun vs ds σ1 g1 s1 h1 e1 i1 r1 z1 => ⟨kIn ok.toStaOk i1, ?_⟩) (fun _ _ x => x) fun _ _ q => q.no
  obtain ⟨exc, hexc, h1⟩ := zae h1
  refine wpAny_mono (xm.new (Ev := Er S (env :: outer) No false g s E) a.call i1 r1 hexc) (fun v s' ⟨ea, g', hv, e2, i2, x2, z2⟩ => ?_) fun _ _ x => x
  exact ⟨ea, g', σ1, exc, hv, h1, e1.trans e2, i2, x2, z1.trans z2⟩
 refine wpAny_bind (wpAny_bind (wpAny_mono main (fun v s1 hv => ?_) fun _ _ q => q))
 obtain ⟨ea, g1, σ1, exc, hv, hE, e1, i1, x1, z1⟩ := hv
 subst hv
 refine wpAny_bind (wpAny_standAt (wpAny_pure (wpAny_bind (wpAny_pure ?_))))
 have X := kIn ok.toStaOk i1
 have x₀ := x1
 obtain ⟨oe, vs, dx, mp, h1, h2, h3, h4, h5, h6, h7, h8, h9, h10⟩ := x1.obj
 have hty : Looks S.M s1.heap (typeOf (.ref ea)) (.ref (S.ec exc.lim)) := (Looks.ld (part := some headPart) h1).andThen (by rw [h2]; exact .now)
 have hnt : Looks S.M s1.heap (isType (.ref ea)) false := zbB h1 h4
 have hexc : Looks S.M s1.heap (isExcClass (.ref ea)) false := by
  unfold isExcClass
  exact hnt.andThen .now
 have hinst : Looks S.M s1.heap (isInstance (.ref ea) (.type "BaseException")) true := hty.andThen (looks_mroIn X (ok.ko.xSub exc.lim))
 refine wpAny_bind (wpAny_holding ?_)
 unfold excFromValue
 refine wpAny_bind (hexc.here ?_)
 rw [if_neg (by decide)]
 refine wpAny_bind (hinst.here ?_)
 rw [if_pos rfl]
 refine wpAny_pure (wpAny_bind (m := isType (.ref ea)) (hnt.here ?_))
 rw [if_neg (by decide)]
 unfold raisedInstance
 refine wpAny_bind (wpAny_bind (m := typeOf (.ref ea)) (hty.here (wpAny_bind ((looks_typeIn X (k2.xTy exc.lim)).here ?_))))
 rw [if_pos (by decide)]
 refine wpAny_pure (wpAny_bind (zar (S := S) i1 x₀ fun h' I' E' X' => ?_))
 unfold raiseNew
 refine wpAny_bind (wpAny_handled ?_)
 rw [a.hn rfl]
 exact wpAny_bind (wpAny_pure (wpAny_throw ⟨exc, σ1, g1, ea, false, rfl, nofun, hE, (e1.trans E').no, I', X', z1.trans ⟨rfl, rfl, rfl⟩⟩))
end
section
variable {S : Sta} {G : zaa} {nd : Nat} {names : Names} {lam hd : Bool}
noncomputable def SndE (S : Sta) (G : zaa) (nd : Nat) (names : Names) (lam : Bool) (st : Stmt) (x : Mine.Lake.S) : Prop :=
 ∀ A env outer L Y m σ g s K E, Act S (S.at names none lam) A env env outer L nd false -> zcP names -> Inv S (env :: outer) g σ s.heap -> VarsOk S Y s.heap g env names m -> evS G S.gc x m σ K E ->
  wpAny S.M A (exec st env) (OkS S env outer Y names g s K) (Er S (env :: outer) No false g s E) s
theorem zoo {e : PySem.Expr} {x : X} {pos : Pos} (hx : SndX S G nd false (S.at names none lam) e x) : SndE S G nd names lam (.Return (some e) pos) (.ret x) := by
 intro A env outer L Y m σ g s K E a nf I V h
 replace h := zfB h
 rw [arm_exec_Return]
 refine wpAny_bind (wpAny_standAt ?_)
 show wpAny S.M A (do return Flow.ret (← eval e env)) _ _ _
 exact wpAny_bind (wpAny_mono (hx A env env outer L Y m [] σ g s _ E a I (V.rd nf) h) (fun v s1 ⟨d, σ1, g1, h1, e1, i1, r1, z1⟩ => wpAny_pure ⟨.ret d, m, σ1, g1, h1, e1.no, i1, V.mono e1, r1, z1⟩) fun _ _ q => q)
theorem zop {x : Str} {q pos : Pos} {e : PySem.Expr} {xe : X} {i : Nat} (he : zaK e ≠ 1) (hs : zbx (S.at names none lam) (.Name x q) = some i) (hx : SndX S G nd false (S.at names none lam) e xe) : SndE S G nd names lam (.Assign [.Name x q] e pos) (.asg i xe) := by
 intro A env outer L Y m σ g s K E a nf I V h
 replace h := zdt h
 obtain ⟨k, hi, hk⟩ := zcs hs
 rw [arm_exec_Assign]
 refine wpAny_bind (wpAny_standAt ?_)
 show wpAny S.M A (swapsWith e (some (.Name x q)) pos.line env >>= _) _ _ _
 rw [zbb he]
 refine wpAny_bind (wpAny_pure ?_)
 rw [if_neg (by decide)]
 refine wpAny_bind (wpAny_mono (hx A env env outer L Y m [] σ g s _ E a I (V.rd nf) h) (fun v s1 ⟨d, σ1, g1, h1, e1, i1, r1, z1⟩ => ?_) fun _ _ q => q)
 refine wpAny_bind (m := swappedStores [.Name x q] e env) (wpAny_pure ?_)
 show wpAny S.M A (do assignAll v [assign (.Name x q) env]; pure Flow.next) _ _ _
 refine wpAny_bind (m := assign (.Name x q) env v) (wpAny_assign_Name (store a.kf (V.mono e1) i1 hi hk (.v r1) fun h' tk I' E' V' _ => wpAny_pure ⟨.next, _, σ1, g1, (zat h1).2, e1.no.trans E', I', V', trivial, ⟨z1.1, z1.2.1, z1.2.2⟩⟩))
theorem Act.mark {cx : Cx} {A : Around} {env ev : Env} {outer : List Env} {L : Addr} (a : Act S cx A env ev outer L nd hd) (h : Option Value) : Act S cx (A.mark h) env ev outer L nd true :=
 ⟨nofun, a.frames, a.fL, a.vL, a.guards, a.depth, a.units, a.kf, a.gl, a.bl, a.gn, a.lam⟩
theorem unbound {M : Model} {A : Around} {Ev : Value -> Shared -> Prop} {Y : Addr -> Prop} {env : Env} {outer : List Env} {m : Fm} {g : Gh} {σ : Hp} {s : Shared} {x : Str} {i : Nat} {l : Loc} {Q : Unit -> Shared -> Prop}
  (kf : env.scope.kind = .function) (V : VarsOk S Y s.heap g env names m) (I : Inv S (env :: outer) g σ s.heap) (hi : zao names x 0 = some (i, .local)) (hm : m[i]? = some (some l))
  (hQ : ∀ h', Inv S (env :: outer) g σ h' -> Ext Y g g s.heap h' -> VarsOk S Y h' g env names (zaw m i none) -> Q () { s with heap := h' }) : wpAny M A (unbindName env x) Q Ev s := by
 have hkind : env.kindOf x = some .local := by unfold Env.kindOf; rw [V.nm]; exact zad hi
 obtain ⟨mp, ns, lr⟩ := V.loc
 obtain ⟨v, hv, _⟩ := lr x i l hi hm
 have ilt : i < m.length := (List.getElem?_eq_some_iff.mp hm).1
 refine wpAny_unbindName_local hkind ns hv (by rw [kf]; rfl) fun h' u ns' sb => ?_
 obtain ⟨I', E'⟩ := I.own V.yL (.inl V.kL) sb (ziQ ns')
 refine hQ h' I' E' ⟨by rw [zaP]; exact V.len, V.nm, V.kL, V.yL, fun a ya => let ⟨o, e, k⟩ := V.yH a ya; let ⟨o', e'⟩ := E'.still a o e; ⟨o', e', k⟩, ⟨_, ns', fun y j l' e1 e2 => ?_⟩, fun y j e => ?_, V.inj⟩
 ·by_cases z : y = x
  ·obtain rfl := z.symm
   rw [hi] at e1; cases e1
   rw [zaE ilt] at e2; cases e2
  ·have ne : i ≠ j := fun q => z (zaI e1 (q ▸ hi))
   rw [zaG ne] at e2
   obtain ⟨u, a, b⟩ := lr y j l' e1 e2
   exact ⟨u, (if_neg z).trans a, b.mono E'⟩
 ·obtain ⟨c, c1, c2, c3, c4, ov, c5, c7⟩ := V.cel y j e
  refine ⟨c, c1, c2, c3, c4, ov, ?_, fun l' hl => ?_⟩
  ·obtain ⟨oc, a, b⟩ := c5; exact ⟨oc, (sb.2 c c3).trans a, b⟩
  ·have ne : i ≠ j := fun q => by subst q; have := zaI e hi; subst this; rw [hi] at e; cases e
   rw [zaG ne] at hl
   obtain ⟨u, a, b⟩ := c7 l' hl
   exact ⟨u, a, b.mono E'⟩
inductive HsOk (S : Sta) (G : zaa) (nd : Nat) (names : Names) (lam : Bool) : List ExceptHandler -> List (Bool × Option Nat × List Mine.Lake.S) -> Prop
 | nil : HsOk S G nd names lam [] []
 | as {lim : Bool} {x y : Str} {q pos : Pos} {i : Nat} {b : Stmt} {xb : Mine.Lake.S} {hs : List ExceptHandler} {xs : List (Bool × Option Nat × List Mine.Lake.S)} : x = Str.ofString (if lim then "LimitFault" else "EvalFault") -> nmOf (S.at names none lam) x = some .g -> zao names y 0 = some (i, .local) -> zcO S G nd true names lam [b] [xb] -> HsOk S G nd names lam hs xs ->
   HsOk S G nd names lam (.ExceptHandler (some (.Name x q)) (some y) [b] pos :: hs) ((lim, some i, [xb]) :: xs)
 | no {lim : Bool} {x : Str} {q pos : Pos} {b : Stmt} {xb : Mine.Lake.S} {hs : List ExceptHandler} {xs : List (Bool × Option Nat × List Mine.Lake.S)} : x = Str.ofString (if lim then "LimitFault" else "EvalFault") -> nmOf (S.at names none lam) x = some .g -> zcO S G nd true names lam [b] [xb] -> HsOk S G nd names lam hs xs ->
   HsOk S G nd names lam (.ExceptHandler (some (.Name x q)) none [b] pos :: hs) ((lim, none, [xb]) :: xs)
theorem zfz {fr : List Env} {Y : Addr -> Prop} {t : Bool} {g : Gh} {s s' : Shared} {e : Value} (h : Er S fr Y t g s (fun _ _ => False) e s') : False := by
 obtain ⟨exc, σ', g', ea, tr, _, _, f, _⟩ := h
 exact f
theorem zmQ {g g' : Gh} {h h' : Heap} {ea : Addr} {e : Exc} {tr : Bool} (x : ExcAt S h g ea e tr) {Y : Addr -> Prop} (ny : ¬ Y ea) : FaultAt S Y h g ea e := by
 obtain ⟨oe, vs, dx, mp, h1, h2, h3, h4, h5, h6, h7, h8, h9, h10⟩ := x.obj
 exact ⟨x.kd, ny, oe, vs, dx, mp, h1, h2, h3, h4, h6, h7, h8, h9⟩
theorem handle (ok : StaOk3 S) (k2 : KOk2 S) {hs : List ExceptHandler} {xs : List (Bool × Option Nat × List Mine.Lake.S)} (ho : HsOk S G nd names lam hs xs) : ∀ {A env outer L Y m σ g s K E ea e}, Act S (S.at names none lam) A env env outer L nd false -> zcP names -> Inv S (env :: outer) g σ s.heap -> VarsOk S Y s.heap g env names m -> ExcAt S s.heap g ea e true -> evH G S.gc xs e m σ K E ->
  wpAny S.M A (handleBy (.ref ea) env hs) (OkS S env outer Y names g s K) (Er S (env :: outer) Y false g s E) s := by
 have mg : ∀ {lim : Bool} {x : Str}, x = Str.ofString (if lim then "LimitFault" else "EvalFault") -> S.mg x = some (.ref (S.ec lim)) := fun {lim x} hx => by subst hx; cases lim; exact k2.xF; exact k2.xL
 induction ho with
 | nil =>
  intro A env outer L Y m σ g s K E ea e a nf I V x h
  refine wpAny_handleBy_nil (zb4 I x fun h' I' E' x' => ?_)
  exact ⟨e, σ, g, ea, true, rfl, nofun, h, E'.no, I', x', ⟨rfl, rfl, rfl⟩⟩
 | @as lim x y q pos i b xb hs xs hx hg hi hb _ ih =>
  intro A env outer L Y m σ g s K E ea e a nf I V xa h
  have am := a.mark (some (.ref ea))
  refine wpAny_handleBy_cons (codeAny_handlers_test (zaF am ok.toStaOk I.stays hg (mg hx) (zcG ok k2 I xa ?_))) (by intro q; cases q)
  replace h := zfC h
  cases hq : (lim == e.lim) with
  | false =>
   have : lim ≠ e.lim := by simpa using hq
   rw [if_neg this] at h
   exact ih a nf I V xa h
  | true =>
   have : lim = e.lim := by simpa using hq
   rw [if_pos this] at h
   obtain ⟨hlt, h⟩ := zat h
   have ny : ¬ Y ea := fun ya => by
    obtain ⟨o, _, k⟩ := V.yH ea ya
    rw [xa.kd] at k
    rcases k with k | k <;> cases k
   refine codeAny_handlers_suite_as (zar I xa fun h1 I1 E1 x1 => ?_)
   have V1 := V.mono E1
   refine store a.kf V1 I1 hi (.inl rfl) (.fault (zmQ x1 ny (g' := g) (h' := h1))) fun h2 tk I2 E2 V2 _ => ?_
   refine wpAny_mono (hb (A.mark (some (.ref ea))) env outer L Y _ σ g { s with heap := h2, toks := tk } _ _ am nf I2 V2 h) (fun fl s3 ⟨f, m3, σ3, g3, h3, e3, i3, v3, r3, z3⟩ => ?_) fun e' s' q => (zfz q).elim
   show wpAny S.M A (do bindName env y .none; unbindBehindTheSuite env y pos) _ _ s3
   refine wpAny_bind (wpAny_bindName (store a.kf v3 i3 hi (.inl rfl) (.v (.pd .none)) fun h4 tk4 I4 E4 V4 _ => ?_))
   unfold unbindBehindTheSuite
   have ilt : i < m3.length := by rw [v3.len]; exact (List.getElem?_eq_some_iff.mp (by simpa using (zbi hi).2)).1
   refine wpAny_onRaise (wpAny_mono (unbound (Ev := fun _ _ => False) a.kf V4 I4 hi (zaE ilt) (Q := fun _ s' => OkS S env outer Y names g s K fl s') fun h5 I5 E5 V5 => ?_) (fun _ _ q => q) fun _ _ q => q.elim)
   have hset : zaw (zaw m3 i (some (.v (.pd .none)))) i none = zaw m3 i none := by
    have : ∀ {α : Type} {l : List α} {i : Nat} {x y : α}, zaw (zaw l i x) i y = zaw l i y := by
     intro α l
     induction l with
     | nil => intro i x y; rfl
     | cons a r ih => intro i x y; cases i with
      | zero => rfl
      | succ i => exact congrArg (a :: ·) ih
    exact this
   rw [hset] at V5
   have EE : Ext Y g g3 s.heap h5 := (((E1.no.trans E2).trans e3).trans E4).trans E5
   refine ⟨f, _, σ3, g3, h3, EE, I5, V5, ?_, ⟨z3.1, z3.2.1, z3.2.2⟩⟩
   cases fl <;> cases f <;> first | exact r3.elim | trivial | exact (VR.mono E4.up r3).mono E5.up
 | @no lim x q pos b xb hs xs hx hg hb _ ih =>
  intro A env outer L Y m σ g s K E ea e a nf I V xa h
  have am := a.mark (some (.ref ea))
  refine wpAny_handleBy_cons (codeAny_handlers_test (zaF am ok.toStaOk I.stays hg (mg hx) (zcG ok k2 I xa ?_))) (by intro q; cases q)
  replace h := zfC h
  cases hq : (lim == e.lim) with
  | false =>
   have : lim ≠ e.lim := by simpa using hq
   rw [if_neg this] at h
   exact ih a nf I V xa h
  | true =>
   have : lim = e.lim := by simpa using hq
   rw [if_pos this] at h
   refine codeAny_handlers_suite (zar I xa fun h1 I1 E1 x1 => ?_)
   have V1 := V.mono E1
   refine wpAny_mono (hb (A.mark (some (.ref ea))) env outer L Y m σ g { s with heap := h1 } _ _ am nf I1 V1 h) (fun fl s3 ⟨f, m3, σ3, g3, h3, e3, i3, v3, r3, z3⟩ => ?_) fun e' s' q => (zfz q).elim
   exact ⟨f, m3, σ3, g3, h3, E1.no.trans e3, i3, v3, r3, ⟨z3.1, z3.2.1, z3.2.2⟩⟩
theorem znV (ok : StaOk3 S) (k2 : KOk2 S) {b : Stmt} {xb : Mine.Lake.S} {h0 : ExceptHandler} {hs : List ExceptHandler} {xs : List (Bool × Option Nat × List Mine.Lake.S)} {pos : Pos} (hb : SndE S G nd names lam b xb) (ho : HsOk S G nd names lam (h0 :: hs) xs) :
  SndS S G nd false names lam (.Try [b] (h0 :: hs) [] [] pos) (.try [xb] xs) := by
 intro A env outer L Y m σ g s K E a nf I V h
 replace h := zei (zhN h)
 rw [arm_exec_Try]
 refine wpAny_bind (wpAny_standAt (wpAny_tryStmt_except (wpAny_execs_cons (wpAny_mono (hb A env outer L Y m σ g s _ _ a nf I V h) (fun fl s1 ⟨f, m1, σ1, g1, h1, e1, i1, v1, r1, z1⟩ => ?_) fun e s1 ⟨exc, σ1, g1, ea, tr, he, _, hE, e1, i1, x1, z1⟩ => ?_))))
 ·cases fl <;> cases f <;> first
   | exact r1.elim
   | exact wpAny_execs_nil (wpAny_execs_nil ⟨.next, m1, σ1, g1, h1, e1, i1, v1, trivial, z1⟩)
   | exact ⟨_, m1, σ1, g1, h1, e1, i1, v1, r1, z1⟩
 ·subst he
  have v1 := V.mono e1
  refine zbn a.frames a.fL a.fL i1 x1 fun g2 h2 i2 e2 x2 => ?_
  refine zar (S := S) (g := g2) (s := { s1 with heap := h2 }) i2 x2 fun h3 i3 e3 x3 => ?_
  have EE : Ext No g g2 s.heap h3 := (e1.trans e2).trans e3
  have := handle ok k2 ho (s := { s1 with heap := h3 }) a nf i3 ((v1.mono e2).mono e3) x3 hE
  exact wpAny_mono this (fun fl s4 q => OkS.trans (s1 := { s1 with heap := h3 }) EE.no z1 q) fun e s4 q => Er.trans (s1 := { s1 with heap := h3 }) EE.no z1 q
end
theorem zdD {names : Names} {x : Str} : ∀ {n : Nat} {acc : List (Str × Addr)}, (∃ c, acc.lookup x = some c) -> ∃ c, (cellsFrom n names acc).lookup x = some c := by
 induction names with
 | nil => intro n acc h; exact h
 | cons p r ih =>
  obtain ⟨a, k⟩ := p
  intro n acc h
  unfold cellsFrom
  split
  ·refine ih ?_
   by_cases q : x = a
   ·subst q; exact ⟨n, by simp [List.lookup]⟩
   ·have : (x == a) = false := by simpa using q
    obtain ⟨c, hc⟩ := h
    exact ⟨c, by simp [List.lookup, this, hc]⟩
  ·exact ih h
theorem zbM {names : Names} {x : Str} : ∀ {n : Nat} {acc : List (Str × Addr)}, (x, NameKind.cell) ∈ names -> ∃ c, (cellsFrom n names acc).lookup x = some c := by
 induction names with
 | nil => intro n acc h; cases h
 | cons p r ih =>
  obtain ⟨a, k⟩ := p
  intro n acc h
  unfold cellsFrom
  rcases List.mem_cons.mp h with h | h
  ·cases h
   simp only [beq_self_eq_true, if_true]
   exact zdD ⟨n, by simp [List.lookup]⟩
  ·split <;> exact ih h
theorem zer {kf : Str -> Option NameKind} {x : Str} : ∀ {bs : List (Str × Value)} {m : Str -> Option Value}, x ∉ bs.map (·.1) -> bindL kf bs m x = m x
 | [], m, _ => rfl
 | (n, v) :: r, m, h => by
  rw [List.map_cons, List.mem_cons, not_or] at h
  unfold bindL
  rw [zer h.2]
  split
  ·exact if_neg h.1
  ·rfl
theorem zes {kf : Str -> Option NameKind} {x : Str} {v : Value} (hk : kf x = some .local) : ∀ {bs : List (Str × Value)} {m : Str -> Option Value}, (bs.map (·.1)).Nodup -> (x, v) ∈ bs -> bindL kf bs m x = some v
 | (n, u) :: r, m, hn, h => by
  rw [List.map_cons, List.nodup_cons] at hn
  unfold bindL
  rcases List.mem_cons.mp h with h | h
  ·cases h
   rw [zer hn.1, if_pos hk]; exact if_pos rfl
  ·exact zes hk hn.2 h
theorem zet {kf : Str -> Option NameKind} {x : Str} : ∀ {bs : List (Str × Value)} {m : Str -> Option Value}, x ∉ bs.map (·.1) -> bindC kf bs m x = m x
 | [], m, _ => rfl
 | (n, v) :: r, m, h => by
  rw [List.map_cons, List.mem_cons, not_or] at h
  unfold bindC
  rw [zet h.2]
  split
  ·rfl
  ·exact if_neg h.1
theorem zeu {kf : Str -> Option NameKind} {x : Str} {v : Value} (hk : kf x ≠ some .local) : ∀ {bs : List (Str × Value)} {m : Str -> Option Value}, (bs.map (·.1)).Nodup -> (x, v) ∈ bs -> bindC kf bs m x = some v
 | (n, u) :: r, m, hn, h => by
  rw [List.map_cons, List.nodup_cons] at hn
  unfold bindC
  rcases List.mem_cons.mp h with h | h
  ·cases h
   rw [zet hn.1, if_neg hk]; exact if_pos rfl
  ·exact zeu hk hn.2 h
theorem zgL {i : Nat} {r : List Nat} {a : Loc} {q : List Loc} {m : Fm} : zdg (i :: r) (a :: q) m = if i < m.length then zdg r q (zaw m i (some a)) else none := rfl
theorem zdS : ∀ {ps : List Nat} {as : List Loc} {m m' : Fm} {j : Nat} {l : Loc}, zdg ps as m = some m' -> m'[j]? = some (some l) -> m[j]? = some (some l) \/ ∃ t : Nat, ps[t]? = some j /\ as[t]? = some l
 | [], [], m, m', j, l, h, q => by cases h; exact .inl q
 | [], _ :: _, m, m', j, l, h, q => by cases h
 | _ :: _, [], m, m', j, l, h, q => by cases h
 | i :: r, a :: as, m, m', j, l, h, q => by
  rw [zgL] at h
  split at h
  ·rename_i hi
   rcases zdS h q with q | ⟨t, q1, q2⟩
   ·by_cases e : i = j
    ·subst e
     rw [zaE hi] at q; cases q
     exact .inr ⟨0, rfl, rfl⟩
    ·rw [zaG e] at q; exact .inl q
   ·exact .inr ⟨t + 1, q1, q2⟩
  ·cases h
theorem zcu : ∀ {ps : List Nat} {as : List Loc} {m m' : Fm}, zdg ps as m = some m' -> m'.length = m.length /\ ps.length = as.length
 | [], [], m, m', h => by cases h; exact ⟨rfl, rfl⟩
 | [], _ :: _, m, m', h => by cases h
 | _ :: _, [], m, m', h => by cases h
 | i :: r, a :: as, m, m', h => by
  rw [zgL] at h
  split at h
  ·obtain ⟨h1, h2⟩ := zcu h; exact ⟨by rw [h1, zaP], congrArg (· + 1) h2⟩
  ·cases h
noncomputable def psOf (names : Names) : List Str -> Option (List Nat)
 | [] => some []
 | x :: r => (zdf names x).bind fun i => (psOf names r).bind fun l => some (i :: l)
theorem zfk {names : Names} {xs : List Str} : ∀ {l : List Nat}, psOf names xs = some l -> xs.length = l.length /\ ∀ (t i : Nat), l[t]? = some i -> ∃ x k, xs[t]? = some x /\ zao names x 0 = some (i, k) /\ (k = .local \/ k = .cell) := by
 induction xs with
 | nil => intro l h; obtain rfl := Option.some.inj h; exact ⟨rfl, fun t i e => nomatch (List.getElem?_nil (i := t)).symm.trans e⟩
 | cons x r ih =>
  exact fun {l} h => bd_e h fun i hi h => bd_e h fun l' hl h => by
   obtain rfl := Option.some.inj h
   obtain ⟨q1, q2⟩ := ih hl
   refine ⟨congrArg (· + 1) q1, fun t j e => ?_⟩
   cases t with
   | zero => obtain rfl := Option.some.inj e; obtain ⟨k, a, b⟩ := zbS hi; exact ⟨x, k, rfl, a, b⟩
   | succ t => exact q2 t j e
theorem zgM {names : Names} {xs : List Str} : ∀ {l : List Nat}, psOf names xs = some l -> ∀ x ∈ xs, ∃ i k, zao names x 0 = some (i, k) /\ (k = .local \/ k = .cell) := by
 induction xs with
 | nil => exact fun _ x hx => nomatch hx
 | cons y r ih => exact fun {l} h => bd_e h fun i hi h => bd_e h fun l' hl _ x hx => (List.mem_cons.mp hx).elim (fun q => q ▸ ⟨i, zbS hi⟩) (ih hl x)
theorem LRs.length {S : Sta} {h : Heap} {g : Gh} {vs : List Value} {ls : List Loc} (r : LRs S h g vs ls) : vs.length = ls.length := by
 induction r with
 | nil => rfl
 | cons _ _ ih => simp [ih]
theorem LRs.get {S : Sta} {h : Heap} {g : Gh} {vs : List Value} {ls : List Loc} (r : LRs S h g vs ls) : ∀ {t : Nat} {l : Loc}, ls[t]? = some l -> ∃ v, vs[t]? = some v /\ LR S No h g v l := by
 induction r with
 | nil => intro t l e; simp at e
 | cons a _ ih =>
  intro t l e
  cases t with
  | zero => simp at e; subst e; exact ⟨_, rfl, a⟩
  | succ t => simpa using ih (by simpa using e)
noncomputable def zbV (p : Arguments) : Bool := match p with
 | ⟨a, _, c, d, e, f, g⟩ => a.isEmpty && (c.isNone && (d.isEmpty && (e.isEmpty && (f.isNone && g.isEmpty))))
theorem zc0 {p : Arguments} (h : zbV p = true) : p = ⟨[], p.args, none, [], [], none, []⟩ := by
 obtain ⟨a, b, c, d, e, f, g⟩ := p
 obtain ⟨h1, h⟩ := Bool.and_eq_true_iff.mp h
 obtain ⟨h2, h⟩ := Bool.and_eq_true_iff.mp h
 obtain ⟨h3, h⟩ := Bool.and_eq_true_iff.mp h
 obtain ⟨h4, h⟩ := Bool.and_eq_true_iff.mp h
 obtain ⟨h5, h⟩ := Bool.and_eq_true_iff.mp h
 rw [List.isEmpty_iff.mp h1, Option.isNone_iff_eq_none.mp h2, List.isEmpty_iff.mp h3, List.isEmpty_iff.mp h4, Option.isNone_iff_eq_none.mp h5, List.isEmpty_iff.mp h]
theorem zfO {xs : List Str} : ∀ {vs : List Value}, xs.Nodup -> xs.length = vs.length -> (xs.filterMap fun n => ((xs.zip vs).lookup n).map (n, ·)) = xs.zip vs := by
 have gen : ∀ (xs : List Str) (vs : List Value) (L : List (Str × Value)), xs.Nodup -> xs.length = vs.length -> (∀ x v, (x, v) ∈ xs.zip vs -> L.lookup x = some v) -> (xs.filterMap fun n => (L.lookup n).map (n, ·)) = xs.zip vs := by
  intro xs
  induction xs with
  | nil => intro vs L _ _ _; rfl
  | cons x r ih =>
   intro vs L hn hl h
   cases vs with
   | nil => simp at hl
   | cons v vs =>
    rw [List.nodup_cons] at hn
    rw [List.filterMap_cons, h x v (by simp)]
    simp only [Option.map_some, List.zip_cons_cons]
    rw [ih vs L hn.2 (by simpa using hl) fun y w hm => h y w (by simp [hm])]
 have lk : ∀ (xs : List Str) (vs : List Value), xs.Nodup -> ∀ x v, (x, v) ∈ xs.zip vs -> (xs.zip vs).lookup x = some v := by
  intro xs
  induction xs with
  | nil => intro vs _ x v h; simp at h
  | cons a r ih =>
   intro vs hn x v h
   cases vs with
   | nil => simp at h
   | cons b vs =>
    rw [List.nodup_cons] at hn
    rw [List.zip_cons_cons] at h ⊢
    rcases List.mem_cons.mp h with h | hh
    ·cases h; simp [List.lookup]
    ·have : (x == a) = false := by
      simp only [beq_eq_false_iff_ne]
      rintro rfl
      exact hn.1 (List.of_mem_zip hh).1
     simp only [List.lookup, this]
     exact ih vs hn.2 x v hh
 intro vs hn hl
 exact gen xs vs _ hn hl (lk xs vs hn)
theorem zb3 {fd : FuncData} {vs : List Value} (hp : zbV fd.params = true) (hd : fd.defaults = .none) (hn : (fd.params.args.map (·.arg)).Nodup) (hl : fd.params.args.length = vs.length) : bindArgs fd ⟨vs, []⟩ = pure ((fd.params.args.map (·.arg)).zip vs) := by
 obtain ⟨_, _, params, _, _, _, _, defaults, _⟩ := fd
 dsimp only at hp hd hn hl ⊢
 subst hd
 have hp := zc0 hp
 obtain ⟨_, l, _, _, _, _, _⟩ := params
 cases hp
 dsimp only at hn hl
 have hz := zfO hn (by simpa using hl)
 have hmiss : ((l.map (·.arg)).take (l.map (·.arg)).length).filter (fun n => (((l.map (·.arg)).zip vs).lookup n).isNone) = [] := by
  rw [List.filter_eq_nil_iff, List.take_length]
  intro x hx
  have : x ∈ ((l.map (·.arg)).zip vs).map (·.1) := by
   rw [List.map_fst_zip (Nat.le_of_eq ((List.length_map _).trans hl))]; exact hx
  obtain ⟨⟨y, v⟩, h1, rfl⟩ := List.mem_map.mp this
  obtain ⟨v', hv⟩ := zbW h1
  rw [hv]; exact Bool.false_ne_true
 refine (if_neg ?_).trans ?_
 ·show ¬ (decide (vs.length > (l.map (·.arg)).length) && true) = true
  rw [List.length_map, hl, decide_eq_false (Nat.lt_irrefl _)]; exact Bool.false_ne_true
 refine (if_neg ?_).trans ?_
 ·show ¬ (!(((l.map (·.arg)).take ((l.map (·.arg)).length - (List.drop (0 - (l.map (·.arg)).length) ([] : List Value)).length)).filter (fun n => (((l.map (·.arg)).zip vs).lookup n).isNone)).isEmpty) = true
  rw [List.drop_nil]
  show ¬ (!(((l.map (·.arg)).take (l.map (·.arg)).length).filter (fun n => (((l.map (·.arg)).zip vs).lookup n).isNone)).isEmpty) = true
  rw [hmiss]; exact Bool.false_ne_true
 show (forIn (List.zip _ (List.drop _ ([] : List Value))) _ _ >>= _) = _
 rw [List.drop_nil, List.zip_nil_right]
 show (pure (List.filterMap (fun n => Option.map (fun x => (n, x)) (List.lookup n ((l.map (·.arg)).zip vs))) (l.map (·.arg) ++ [])) : Sem (List (Str × Value))) = _
 rw [List.append_nil, hz]
theorem LR.fresh {S : Sta} {Y : Addr -> Prop} {h : Heap} {g : Gh} {v : Value} {l : Loc} (f : ∀ a o, Y a -> h.get? a = some o -> False) (r : LR S No h g v l) : LR S Y h g v l := r.but fun a o e _ y => f a o y e
open Classical in
noncomputable def Gh.frame (g : Gh) (L : Addr) (cs : List (Str × Addr)) : Gh := { g with κ := fun b => if b = L then .fr else if ∃ n, cs.lookup n = some b then .cl else g.κ b }
section
variable {S : Sta} {fr : List Env} {g : Gh} {σ : Hp} {s s1 : Shared} {fd : FuncData} {a : Addr} {ps : List Nat} {as : List Loc} {vs : List Value} {m0 : Fm} {cm mp : Str -> Option Value}
open Classical in
theorem enter (I : Inv S fr g σ s.heap) (x : InCallC s (callEnvC fd s.heap.objs.size a).locals mp (callEnvC fd s.heap.objs.size a).cells cm s1) (kf : fd.scope.kind = .function) :
  Ext No g (g.frame s.heap.objs.size (callEnvC fd s.heap.objs.size a).cells) s.heap s1.heap /\ Inv S (callEnvC fd s.heap.objs.size a :: fr) (g.frame s.heap.objs.size (callEnvC fd s.heap.objs.size a).cells) σ s1.heap /\ Rest s s1 /\
   (∀ b o, (b = s.heap.objs.size \/ ∃ n, (callEnvC fd s.heap.objs.size a).cells.lookup n = some b) -> s.heap.get? b = some o -> False) := by
 have hL : (callEnvC fd s.heap.objs.size a).locals = s.heap.objs.size := rfl
 have kp := x.toInCall.keep
 have old : ∀ b o, s.heap.get? b = some o -> b ≠ s.heap.objs.size /\ ¬ ∃ n, (callEnvC fd s.heap.objs.size a).cells.lookup n = some b := fun b o e => by
  have lt := Heap.lt_size e
  refine ⟨Nat.ne_of_lt lt, fun ⟨n, hn⟩ => ?_⟩
  have := x.above n b (mem_of_lookup hn)
  rw [hL] at this
  exact Nat.lt_irrefl _ (Nat.lt_trans this lt)
 have hk : ∀ b o, s.heap.get? b = some o -> (g.frame s.heap.objs.size (callEnvC fd s.heap.objs.size a).cells).κ b = g.κ b := fun b o e => by
  obtain ⟨h1, h2⟩ := old b o e
  show (if b = s.heap.objs.size then Kd.fr else if ∃ n, (callEnvC fd s.heap.objs.size a).cells.lookup n = some b then Kd.cl else g.κ b) = g.κ b
  rw [if_neg h1, if_neg h2]
 have E : Ext No g (g.frame s.heap.objs.size (callEnvC fd s.heap.objs.size a).cells) s.heap s1.heap := ⟨hk, Nat.le_refl _, fun _ _ => rfl, fun b o q e => ⟨(hk b o e).trans q, kp b o e⟩, fun b o e _ _ _ _ _ => kp b o e, fun b o e _ _ => ⟨o.slots, kp b o e⟩, fun b o vs e _ _ q => ⟨vs, q ▸ kp b o e⟩, fun b o e => ⟨o, kp b o e⟩⟩
 have ns := x.toInCall.ns
 rw [hL] at ns
 obtain ⟨oL, hoL, hdL⟩ := ziQ ns
 refine ⟨E, ⟨fun b o e => kp b o (I.stays b o e), fun b o e => (hk b o (I.stays b o e)).trans (I.bfz b o e), fun b e => ?_, I.num, fun i o e => (I.mu i o e).mono_at E.up fun ob q => kp _ _ q, fun i hi => ?_, I.inj, ?_, I.tb.mono E.fz (let ⟨_, q, _⟩ := I.tb.at_; (hk _ _ q).trans I.tb.k) (kp _)⟩, ?_, fun b o y e => ?_⟩
 ·show (if b = s.heap.objs.size then Kd.fr else if ∃ n, (callEnvC fd s.heap.objs.size a).cells.lookup n = some b then Kd.cl else g.κ b) = .ot
  rw [if_neg (fun q => by rw [q, hoL] at e; cases e), if_neg (fun ⟨n, hn⟩ => by obtain ⟨o, ho, _⟩ := x.cell n b hn; rw [ho] at e; cases e)]
  refine I.ot b ?_
  cases z : s.heap.get? b with
  | none => rfl
  | some o => rw [kp b o z] at e; cases e
 ·obtain ⟨ob, e⟩ := I.muAt hi
  exact (hk _ ob e).trans (I.km i hi)
 ·refine ⟨⟨(by show fd.scope.kind ≠ _; rw [kf]; decide), ⟨s.heap.objs.size, oL, rfl, Heap.get?_none_of_le (Nat.zero_le _), hoL, hdL⟩, (I.fr.mono E).1⟩, fun L hm => ?_⟩
  rw [List.filterMap_cons] at hm
  rcases List.mem_cons.mp hm with rfl | hm
  ·exact if_pos rfl
  ·exact (I.fr.mono E).2 L hm
 ·obtain ⟨h, tk, e⟩ := x.toInCall.same
  rw [e]; exact ⟨rfl, rfl, rfl⟩
 ·obtain ⟨h1, h2⟩ := old b o e
  exact y.elim h1 h2
open Classical in
theorem entered {names : Names} (hnm : fd.scope.names = names) (I : Inv S fr g σ s.heap) (r : LRs S s.heap g vs as) (hps : psOf names (fd.params.args.map (·.arg)) = some ps) (hn : (fd.params.args.map (·.arg)).Nodup) (hl : fd.params.args.length = vs.length) (hm : zdg ps as (List.replicate names.length none) = some m0) (kf : fd.scope.kind = .function)
  (x : InCallC s (callEnvC fd s.heap.objs.size a).locals (bindL (callEnvC fd s.heap.objs.size a).kindOf ((fd.params.args.map (·.arg)).zip vs) fun _ => none) (callEnvC fd s.heap.objs.size a).cells (bindC (callEnvC fd s.heap.objs.size a).kindOf ((fd.params.args.map (·.arg)).zip vs) fun _ => none) s1) :
  VarsOk S (fun b => b = s.heap.objs.size \/ ∃ n, (callEnvC fd s.heap.objs.size a).cells.lookup n = some b) s1.heap (g.frame s.heap.objs.size (callEnvC fd s.heap.objs.size a).cells) (callEnvC fd s.heap.objs.size a) names m0 := by
 obtain ⟨E, I1, z, fresh⟩ := enter I x kf
 have hkind : ∀ {y : Str} {i : Nat} {k : NameKind}, zao names y 0 = some (i, k) -> (callEnvC fd s.heap.objs.size a).kindOf y = some k := fun e => by
  show List.lookup _ fd.scope.names = _
  rw [hnm]; exact zad e
 obtain ⟨q1, q2⟩ := zfk hps
 have hzl : (((fd.params.args.map (·.arg)).zip vs).map (·.1)) = fd.params.args.map (·.arg) := List.map_fst_zip (by simpa using Nat.le_of_eq hl)
 have val : ∀ {j : Nat} {l : Loc} {y : Str} {k : NameKind}, zao names y 0 = some (j, k) -> m0[j]? = some (some l) -> ∃ v, (y, v) ∈ (fd.params.args.map (·.arg)).zip vs /\ LR S (fun b => b = s.heap.objs.size \/ ∃ n, (callEnvC fd s.heap.objs.size a).cells.lookup n = some b) s1.heap (g.frame s.heap.objs.size (callEnvC fd s.heap.objs.size a).cells) v l := by
  intro j l y k hy hj
  rcases zdS hm hj with h | ⟨t, h1, h2⟩
  ·rw [List.getElem?_replicate] at h; split at h <;> cases h
  ·obtain ⟨y', k', h3, h4, _⟩ := q2 t j h1
   have : y' = y := zaI h4 hy
   subst this
   obtain ⟨v, h5, h6⟩ := r.get h2
   refine ⟨v, ?_, (h6.fresh fresh).mono E.no⟩
   have : ((fd.params.args.map (·.arg)).zip vs)[t]? = some (y', v) := by rw [List.getElem?_zip_eq_some]; exact ⟨h3, h5⟩
   exact List.mem_of_getElem? this
 have ns := x.toInCall.ns
 refine ⟨by rw [(zcu hm).1]; simp, hnm, if_pos rfl, .inl rfl, fun b yb => ?_, ⟨_, ns, fun y i l e1 e2 => ?_⟩, fun y i e => ?_, fun y z c h1 h2 => name_of_addr x.apart (mem_of_lookup h1) (mem_of_lookup h2)⟩
 ·rcases yb with rfl | ⟨n, hn'⟩
  ·obtain ⟨o, ho, _⟩ := ziQ ns
   exact ⟨o, ho, .inl (if_pos rfl)⟩
  ·obtain ⟨o, ho, _⟩ := x.cell n b hn'
   refine ⟨o, ho, .inr ?_⟩
   have : b ≠ s.heap.objs.size := Nat.ne_of_gt (x.above n b (mem_of_lookup hn'))
   exact (if_neg this).trans (if_pos ⟨n, hn'⟩)
 ·obtain ⟨v, h1, h2⟩ := val e1 e2
  exact ⟨v, zes (hkind e1) (by rw [hzl]; exact hn) h1, h2⟩
 ·obtain ⟨c, hc⟩ := zbM (n := s.heap.objs.size + 1) (acc := []) (zay (zad e))
  have hc : (callEnvC fd s.heap.objs.size a).cells.lookup y = some c := by
   show (cellsFrom (s.heap.objs.size + 1) fd.scope.names []).lookup y = some c
   rw [hnm]; exact hc
  have ne : c ≠ s.heap.objs.size := Nat.ne_of_gt (x.above y c (mem_of_lookup hc))
  refine ⟨c, hc, .inr ⟨y, hc⟩, ne, (if_neg ne).trans (if_pos ⟨y, hc⟩), _, x.cell y c hc, fun l hl => ?_⟩
  obtain ⟨v, h1, h2⟩ := val e hl
  exact ⟨v, zeu (by rw [hkind e]; decide) (by rw [hzl]; exact hn) h1, h2⟩
end
theorem zg1 {b : Bool} (h : (!b) = true) : b = false := by cases b <;> first | rfl | cases h
structure Hy (S : Sta) (nd : Nat) : Prop where
 co : CallOk S (zaM S.tab S.gc nd) nd
 no : NewOk S nd
 xm : ExcMk S nd
noncomputable def GSs (S : Sta) (names : Names) (lam : Bool) (b : List Stmt) (xs : List Mine.Lake.S) : Prop := ∀ nd, Hy S nd -> zcO S (zaM S.tab S.gc nd) nd false names lam b xs
structure FnSt (S : Sta) (fn : Fn) (fd : FuncData) (lam : Bool) : Prop where
 gl : fd.globals = mainGlobals
 bl : fd.builtins = builtinsNs
 cl : fd.closure = []
 kf : fd.scope.kind = .function
 co : fd.scope.isCoroutine = false
 ge : fd.scope.isGenerator = false
 cr : S.B.CodeRec fd.code fd.qualname
 ps : zbV fd.params = true
 df : fd.defaults = .none
 nd : (fd.params.args.map (·.arg)).Nodup
 pn : psOf fd.scope.names (fd.params.args.map (·.arg)) = some fn.ps
 sz : fn.size = fd.scope.names.length
 nf : zcP fd.scope.names
 la : lam = true -> fd.code = .ref S.lc /\ (fd.qualname ++ ".<locals>.") ++ "<lambda>" = S.lq
inductive FnOk (S : Sta) (f : Nat) (fn : Fn) : Prop
 | mk (oc : Value) (od : Option Addr) (fd : FuncData) (osl : Array (Option Value)) (body : List Stmt) (lam : Bool) (at_ : S.B.get? (S.fa f) = some ⟨oc, od, .func fd, osl⟩) (bd : fd.body = .stmts body) (st : FnSt S fn fd lam) (so : GSs S fd.scope.names lam body fn.body)
section
variable {S : Sta} {nd : Nat}
theorem zg2 {cx : Cx} (hcs : cx.cs = none) {x : Str} (h : nmOf cx x = some .g) : ∃ i, zao cx.fn x 0 = some (i, .globalImplicit) := by
 obtain ⟨i, k, e, q⟩ := zg4 hcs h
 cases k <;> cases q
 exact ⟨i, e⟩
theorem zdn {env' : Env} {fr : List Env} {g : Gh} {σ : Hp} {h : Heap} (I : Inv S (env' :: fr) g σ h) : Inv S fr g σ h :=
 ⟨I.stays, I.bfz, I.ot, I.num, I.mu, I.km, I.inj, ⟨I.fr.1.2.2, fun L hm => I.fr.2 L (by
  rw [List.filterMap_cons]
  split
  ·exact hm
  ·exact .tail _ hm)⟩, I.tb⟩
theorem dp0 {d n m r : Nat} (h : d + n + m < r) : d < r := Nat.lt_of_le_of_lt (Nat.le_trans (Nat.le_add_right _ _) (Nat.le_add_right _ _)) h
theorem dp1 {d n m r : Nat} (h : d + (n + 1) + m < r) : d + 1 + n + m < r := by rw [Nat.add_assoc d 1 n, Nat.add_comm 1 n]; exact h
theorem un3 {u n c : Nat} (h : u + 16 * (n + 1) + 300 < c) : u + 3 + 16 * n + 300 < c :=
 Nat.lt_of_le_of_lt (Nat.add_le_add_right (Nat.le_trans (Nat.le_of_eq (by rw [Nat.add_assoc, Nat.add_comm 3])) (Nat.add_le_add_left (Nat.add_le_add_left (by decide : 3 <= 16) (16 * n)) u)) 300) h
theorem zfI (ok : StaOk3 S) (tabs : ∀ f fn, S.tab f = some fn -> FnOk S f fn) (hy : Hy S nd) {f : Nat} {A : Around} {fr : List Env} {g : Gh} {σ : Hp} {s : Shared} {K : KV} {E : KE} {as : List Loc} {vs : List Value}
  (chn : A.handled = none) (cfr : A.frames = some fr) (cgd : A.guards = some []) (cdp : A.depth + (nd + 1) + 10 < recursionLimit) (cun : A.units + 16 * (nd + 1) + 300 < cLine) (I : Inv S fr g σ s.heap) (r : LRs S s.heap g vs as) (f0 : f ≠ 0) (h : zaM S.tab S.gc (nd + 1) f as σ K E) :
  wpAny S.M A (call (.ref (S.fa f)) vs []) (Ok S fr No (RV S) g s K) (Er S fr No false g s E) s := by
 cases f with
 | zero => exact absurd rfl f0
 | succ f =>
 have h : need (S.tab (f + 1)) fun fn => need (zdg fn.ps as (List.replicate fn.size none)) fun m =>
   evSs (zaM S.tab S.gc nd) S.gc fn.body m σ (fun fl _ σ' => match fl with
    | .ret v => K v σ'
    | .next => K (.pd .none) σ') E := h
 obtain ⟨fn, ht, h⟩ := zae h
 obtain ⟨m0, hm, h⟩ := zae h
 obtain ⟨oc, od, fd, osl, body, lam, k1, k2, ⟨k3, k4, k5, k6, k7, k8, k9, k10, k11, k12, k13, k14, k15, k17⟩, k16⟩ := tabs _ _ ht
 have X := kIn ok.toStaOk I
 have hlen : fd.params.args.length = vs.length := by
  have h1 := (zfk k13).1
  have h2 := (zcu hm).2
  have h3 := r.length
  simp only [List.length_map] at h1
  exact h1.trans (h2.trans h3.symm)
 have hkinds : ∀ y ∈ (fd.params.args.map (·.arg)).zip vs, fd.scope.names.lookup y.1 = some .local \/ (fd.scope.names.lookup y.1 = some .cell /\ ((cellsFrom (s.heap.objs.size + 1) fd.scope.names []).lookup y.1).isSome = true) := fun y hy => by
  obtain ⟨i, k, h1, h2⟩ := zgM k13 y.1 (List.of_mem_zip hy).1
  rcases h2 with rfl | rfl
  ·exact .inl (zad h1)
  ·refine .inr ⟨zad h1, ?_⟩
   obtain ⟨cc, hc⟩ := zbM (n := s.heap.objs.size + 1) (acc := []) (zay (zad h1))
   rw [hc]; rfl
 refine wpAny_call (codeAny_call_cells (dp0 cdp) (I.stays _ _ k1) rfl (ok.nolimit.keeps fun b o e => I.stays b o e) (k9.keeps fun b o e => I.stays b o e) k2 (zb3 k10 k11 k12 hlen) k5 hkinds (fun s1 x => ?_) k7 k8 k6)
 rw [k14] at hm
 obtain ⟨E1, I1, z1, fresh⟩ := enter I x k6
 have V1 := entered rfl I r k13 k12 hlen hm k6 x
 generalize hE' : callEnvC fd s.heap.objs.size (S.fa (f + 1)) = env' at E1 I1 V1 fresh x ⊢
 have ekf : env'.scope.kind = .function := by rw [← hE']; exact k6
 have act : Act S (S.at fd.scope.names none lam) (A.deeper env') env' env' fr s.heap.objs.size nd false := by
  refine ⟨fun _ => chn, ?_, ?_, ?_, cgd, ?_, ?_, ekf, by rw [← hE']; exact k3, by rw [← hE']; exact k4, fun y hy => ?_, fun hl => ?_⟩
  ·show A.frames.map (env' :: ·) = _
   rw [cfr]; rfl
  ·rw [← hE']; rfl
  ·rw [← hE']; rfl
  ·exact dp1 cdp
  ·exact un3 cun
  ·obtain ⟨i, hi⟩ := zg2 rfl hy
   unfold Env.kindOf
   rw [V1.nm]; exact zad hi
  ·obtain ⟨h1, h2⟩ := k17 hl
   rw [← hE']; exact ⟨h1, h2⟩
 refine wpAny_mono (k16 nd hy (A.deeper env') env' fr s.heap.objs.size _ m0 σ _ s1 _ E act k15 I1 V1 h) (fun fl s2 hok => ?_) (fun e s2 her => ?_)
 ·obtain ⟨fl', m2, σ2, g2, h2, e2, i2, v2, r2, z2⟩ := hok
  have EE : Ext No g g2 s.heap s2.heap := (E1.no.trans e2).drop fun b o yb e => (fresh b o (by rw [← hE'] at yb ⊢; exact yb) e).elim
  cases fl <;> cases fl' <;> first
   | exact r2.elim
   | exact h2.elim
   | exact ⟨_, σ2, g2, h2, EE, zdn i2, r2, z1.trans z2⟩
   | exact ⟨_, σ2, g2, h2, EE, zdn i2, .pd .none, z1.trans z2⟩
 ·obtain ⟨exc, σ2, g2, ea, tr, rfl, _, hE, e2, i2, x2, z2⟩ := her
  refine zeA act.frames act.fL i2 x2 fun g3 h3 i3 e3 x3 => ?_
  have EE : Ext No g g3 s.heap h3 := ((E1.no.trans e2).trans e3.no).drop fun b o yb e => (fresh b o (by rw [← hE'] at yb ⊢; exact yb) e).elim
  exact ⟨exc, σ2, g3, ea, true, rfl, nofun, hE, EE, zdn i3, x3, z1.trans ⟨z2.1, z2.2.1, z2.2.2⟩⟩
theorem zld (ok : StaOk3 S) (tabs : ∀ f fn, S.tab f = some fn -> FnOk S f fn) (hy : Hy S nd) {f : Nat} {A : Around} {env : Env} {outer : List Env} {L : Addr} {g : Gh} {σ : Hp} {s : Shared} {K : KV} {E : KE} {as : List Loc} {vs : List Value}
  (c : CallAt A env outer L (nd + 1)) (I : Inv S (env :: outer) g σ s.heap) (r : LRs S s.heap g vs as) (f0 : f ≠ 0) (h : zaM S.tab S.gc (nd + 1) f as σ K E) :
  wpAny S.M A (call (.ref (S.fa f)) vs []) (Ok S (env :: outer) No (RV S) g s K) (Er S (env :: outer) No false g s E) s := zfI ok tabs hy c.hn c.frames c.guards c.depth c.units I r f0 h
end
theorem zgb {P : Params} {h : Heap} {κ : Addr -> Kd} {vs : List Value} {l : List PyData} (p : PVs P h κ vs l) : ∀ {ys : List Str}, zfM l = some ys -> StrsAre vs ys :=
 PVs.ind (m := fun vs l => ∀ {ys : List Str}, zfM l = some ys -> StrsAre vs ys) (fun {ys} e => by cases e; exact .nil)
  (fun {v d vs ds} a _ ih ys e => bd_e e fun y hy e => zbH e fun q hq e => by
   subst e
   obtain rfl := zdJ hy
   cases a
   exact .cons _ _ (ih hq)) p
section
variable {S : Sta} {G : zaa} {nd : Nat} {hd : Bool} {cx : Cx}
theorem zin {ap pos : Pos} {oe e : PySem.Expr} {o x : X} (hb : zc8 oe = true) (hp : (ap.endLine == pos.line) = true) (hs : zap e = false) (ho : SndX S G nd hd cx oe o) (hx : SndX S G nd hd cx e x) :
  SndX S G nd hd cx (.Call (.Attribute oe (Str.ofString "join") ap) [e] [] pos) (.join o x) := by
 intro A env ev outer L Y m mc σ g s K E a I rd h
 replace h := zhA h
 have hs' : [e].all (fun e => !zap e) = true := by rw [List.all_cons, hs]; rfl
 rw [zcI hb hs' (Nat.le_of_ble_eq_true rfl) hp]
 refine wpAny_bind (step (ho A env ev outer L Y m mc σ g s _ E a I rd h) fun v d σ1 g1 s1 h1 e1 i1 r1 z1 => ?_)
 refine zaj h1 fun u hu h1 => ?_
 obtain ⟨t, rfl⟩ := ze7 (zb6 hu ▸ r1)
 refine wpAny_bind (wpAny_standAt (wpAny_bind (wpAny_holding (getMethod_builtin (typeIs_str _ _ _) PySem.F.plainAttrs_str PySem.F.slot_str_join PySem.F.type_str_join (fun a e => nomatch e) ?_))))
 refine zaS e1 z1 ?_
 refine zaD hs' (zbp hx zcq hs) a i1 (rd.mono e1) (P := fun _ => True) (zaR (by nofun)) (K := fun vs σ' => one vs fun y => kd (zkS σ' u y) K σ') h1 (by nofun) fun vs ds σ2 g2 s2 h2 e2 i2 r2 z2 => ⟨trivial, ?_⟩
 refine zcv r2 h2 fun v x ev r h => zaj h fun d hd h => ?_
 rw [ev]
 refine bd_e hd fun ys hy hd => gd_e hd fun hz q => bd_e hy fun l hl hy => bd_e hl fun d' hr hl => ?_
 subst q
 refine r.listK (P := fun v => wpAny S.M A (call (.builtin "str.join") ([.str u t] ++ [v]) []) _ _ s2) i2 hr hl fun b ws hb p _ => ?_
 refine join_listW hb (zgb p hy) hz.2 hz.1 fun t' k => ?_
 exact Ok.trans (e1.trans e2) (z1.trans z2) (Is.ok h (zcA i2))
end
theorem zfv : ∀ {m : Fm} {i : Nat}, zd7 m i = true -> i < m.length /\ m[i]? = some none
 | [], _, h => nomatch h
 | none :: _, 0, _ => ⟨Nat.succ_pos _, rfl⟩
 | some _ :: _, 0, h => nomatch h
 | _ :: r, n + 1, h => let ⟨a, b⟩ := zfv (m := r) (i := n) h; ⟨Nat.succ_lt_succ a, b⟩
section
variable {S : Sta} {G : zaa} {nd : Nat} {cx : Cx} {A : Around} {env ev : Env} {outer : List Env} {L C D it : Addr} {Y : Addr -> Prop} {m mc : Fm} {g0 g1 g : Gh} {s1 s : Shared} {sc : Scope} {v : Value} {x : V} {P : Gh -> Heap -> Prop} {k : Nat} {acc : List PyData} {σ : Hp} {E : KE} {Q : Value -> Shared -> Prop}
theorem zeb {fr : List Env} {Y : Addr -> Prop} {t : Bool} {g : Gh} {s s' : Shared} {e : Value} (h : Er S fr Y t g s (fun _ _ => False) e s') : False := by
 obtain ⟨exc, σ', g', ea, tr, _, _, f, _⟩ := h
 exact f
theorem McAt.unset {h : Heap} {names : Names} {i : Nat} {l : Option Loc} {mc : Fm} (hf : mc[i]? = some none) (x : McAt S h g C names (zaw mc i l)) : McAt S h g C names mc := by
 obtain ⟨mp, ns, r⟩ := x
 refine ⟨mp, ns, fun y j l' h1 h2 => r y j l' h1 ?_⟩
 rw [zaG fun q => ?_]
 ·exact h2
 ·subst q; rw [hf] at h2; cases h2
theorem zif {elt : PySem.Expr} {g1 g2 : Comprehension} {pos : Pos} {it : Value} {acc : Value} {env : Env} {R : Result -> Shared -> Prop} (hg : g2.is_async = 0)
  (h0 : codeAny S.M A (.compLoop (.ListComp elt [g1, g2] sc pos) 1 it acc env) R s)
  (h : wpAny S.M A (pyIter it) (fun it' s' => codeAny S.M A (.compLoop (.ListComp elt [g1, g2] sc pos) 1 it' acc env) R s') (notedBy S.M A env fun x s' => R (.error x) s') s) :
  codeAny S.M A (.compStart (.ListComp elt [g1, g2] sc pos) 1 it acc env) R s := by
 obtain ⟨te, iter, ifs, as⟩ := g2
 obtain rfl : as = 0 := hg
 refine codeAny_of_tree ?_
 show wpAny _ _ ((compStart (.ListComp elt [g1, ⟨te, iter, ifs, 0⟩] sc pos) 1 it acc env).onRaise (fun x => do noteFrame x env; standAt theWindowsPlace)) _ _ s
 refine wpAny_notedAt ?_
 unfold compStart
 show wpAny _ _ (ask >>= _) _ _ s
 refine wpAny_bind (wpAny_askSetting (wpAny_ite ?_))
 split
 ·first
   | exact wpAny_bind (wpAny_pure (wpAny_pure (And.intro rfl h0)))
   | exact wpAny_pure (And.intro rfl h0)
 ·first
   | exact wpAny_bind (wpAny_rule (wpAny_bind (wpAny_standAt (wpAny_bind (wpAny_mono h (fun it' s' h' => wpAny_pure (And.intro rfl h')) fun _ _ x => x)))))
   | (refine wpAny_bind (wpAny_rule ?_); show wpAny _ _ (standAt iter.pos >>= _) _ _ s; exact wpAny_bind (wpAny_standAt (wpAny_bind (wpAny_mono h (fun it' s' h' => wpAny_pure (And.intro rfl h')) fun _ _ x => x))))
noncomputable abbrev zeQ (elt te1 it1 te2 it2 : PySem.Expr) (sc : Scope) (pos : Pos) (acc : Value) (env : Env) : Sem Unit := (do
 let x ← eval it2 env
 standAt it2.pos
 let x ← foldedSetIterable it2 env x
 let y ← holding [x] (pyIter x)
 let _ ← runOwn (.compStart (.ListComp elt [⟨te1, it1, [], 0⟩, ⟨te2, it2, [], 0⟩] sc pos) 1 y acc env) env
 pure ())
theorem zep (elt te1 it1 te2 it2 : PySem.Expr) (sc : Scope) (pos : Pos) (it acc : Value) (env : Env) :
  compTurn (.ListComp elt [⟨te1, it1, [], 0⟩, ⟨te2, it2, [], 0⟩] sc pos) 0 it acc env = (standAt it1.pos >>= fun _ => pyNext it >>= fun r => match r with
   | none => pure (.done .next)
   | some v => letOwnedTupleGo te1 it v >>= fun _ => assign te1 env v >>= fun _ => zeQ elt te1 it1 te2 it2 sc pos acc env >>= fun _ => again (.compLoop (.ListComp elt [⟨te1, it1, [], 0⟩, ⟨te2, it2, [], 0⟩] sc pos) 0 it acc env)) := by
 simp only [zeQ, bind_assoc, pure_bind]
 rfl
theorem zeZ (elt te2 it2 : PySem.Expr) (g1 : Comprehension) (sc : Scope) (pos : Pos) (it acc : Value) (env : Env) :
  compTurn (.ListComp elt [g1, ⟨te2, it2, [], 0⟩] sc pos) 1 it acc env = (standAt it2.pos >>= fun _ => pyNext it >>= fun r => match r with
   | none => pure (.done .next)
   | some v => letOwnedTupleGo te2 it v >>= fun _ => assign te2 env v >>= fun _ => (eval elt env >>= fun x => call (.builtin "list.append") [acc, x] >>= fun _ => pure ()) >>= fun _ => again (.compLoop (.ListComp elt [g1, ⟨te2, it2, [], 0⟩] sc pos) 1 it acc env)) := by rfl
theorem Pres.out {i2 : Addr} {w : Value} {y : V} (ap : Apart3 s1.heap C D it) (ni : it ≠ i2) : Pres C D i2 fun g h => g.κ it = .ot /\ ItAt h it v x k /\ VR S h g w y := by
 refine ⟨fun E q => ?_, fun {g h h' z} hz kz eb q => ?_⟩
 ·obtain ⟨k, i, r⟩ := q
  obtain ⟨o, _, _, ho, _, _, _⟩ := i.has
  exact ⟨(E.kind _ _ ho).trans k, i.at fun o e => zcy E k e, r.mono E.up⟩
 ·obtain ⟨k, i, r⟩ := q
  have ne : it ≠ z := by
   rcases hz with rfl | rfl | rfl
   ·exact ap.ci.symm
   ·exact ap.di.symm
   ·exact ni
  exact ⟨k, i.at fun o e => eb it o ne e, r.mono ⟨Nat.le_refl _, fun _ _ => rfl, fun b o q e => ⟨q, eb b o (fun w => by rw [w, kz] at q; cases q) e⟩⟩⟩
noncomputable abbrev znM (S : Sta) (G : zaa) (xe : X) (i : Nat) (xi2 : X) : Fm -> KE -> Fm -> List PyData -> Hp -> (List PyData -> Hp -> Prop) -> Prop :=
 fun m _ mc' acc σ kk => when (zd7 mc' i = true) (evX G S.gc m mc' xi2 σ (fun y σ3 => need (zac σ3 y) fun l2 =>
  zau (fun d2 acc2 σ4 k2 => need (tgFm mc' (.n i) d2) fun mc2 => zgl S G m (fun _ _ => False) xe mc2 acc2 σ4 k2) (fun σ' k' => still σ3 σ' y k') kk l2 acc σ3) fun _ _ => False)
theorem ziS {elt te iter it2 : PySem.Expr} {z : Str} {pz pos : Pos} {xe xi2 : X} {i : Nat} (hf2 : ∀ ev w, foldedSetIterable it2 ev w = pure w) (hz : zdf sc.names z = some i) (hi2 : SndX S G nd false (za0 cx sc) it2 xi2) (he : SndX S G nd false (za0 cx sc) elt xe) :
  zfN S G nd cx sc (.ListComp elt [⟨te, iter, [], 0⟩, ⟨.Name z pz, it2, [], 0⟩] sc pos) te (znM S G xe i xi2) := by
 intro A env ev outer L Y m mc g1 s1 C D it v x R E a hcs so ap hE rd
 refine ⟨zjt S A R (zaU sc C ev) (zeQ elt te iter (.Name z pz) it2 sc pos (.ref D) (zaU sc C ev)), ?_, zcm (zep _ _ _ _ _ _ _ _ _ _)⟩
 intro k g acc σ s mc' kk F c hm h hF
 obtain ⟨hfr, h⟩ := zat h
 obtain ⟨hlt, hno⟩ := zfv hfr
 refine wpAny_bind (wpAny_mono (hi2 A env _ outer L Y m mc' σ g s _ _ (zdy a hcs so) c.I (zeY (rd.mono c.E) hcs a.kf so c.kC hm) h) (fun w s3 hok => ?_) fun e s' er => (zeb er).elim)
 obtain ⟨y, σ3, g3, h3, E3, I3, r3, z3⟩ := hok
 have c3 := c.mono .any E3 I3 z3
 have hm3 := hm.mono E3.fz fun o e => zcy E3 c.kC e
 refine zaj h3 fun l2 hl2 h3 => wpAny_bind (wpAny_standAt (wpAny_bind ?_))
 rw [hf2]
 refine wpAny_pure (wpAny_bind (wpAny_holding (zb0 I3 r3 hl2 fun oi hit => ?_)))
 have up : ∀ b o, s3.heap.get? b = some o -> (s3.heap.push oi).get? b = some o := fun b o q => Heap.get?_push_of_some _ q
 have c4 := c3.fresh (h' := s3.heap.push oi) ap .any fun b o _ q => up b o q
 have hm4 : McAt S (s3.heap.push oi) g3 C sc.names mc' := hm3.mono (fun b o q e => ⟨q, up b o e⟩) fun o e => up _ o e
 have r4 : VR S (s3.heap.push oi) g3 w y := r3.mono ⟨Nat.le_refl _, fun _ _ => rfl, fun b o q e => ⟨q, up b o e⟩⟩
 have n2 : s3.heap.get? s3.heap.objs.size = none := Heap.get?_none_of_le (Nat.le_refl _)
 have k2 := I3.ot _ n2
 generalize s3.heap.objs.size = i2 at hit n2 k2 ⊢
 have ne : ∀ {b o}, s3.heap.get? b = some o -> b ≠ i2 := fun e q => by rw [q, n2] at e; cases e
 obtain ⟨mp, oC, _, _, hC, _⟩ := id c3.C
 obtain ⟨vs, n, hD, _⟩ := id c3.D
 obtain ⟨oI, _, _, hI, _, _, _⟩ := c3.it.has
 have ap2 : Apart3 s1.heap C D i2 := ⟨ap.nC, ap.nD, by
  cases q : s1.heap.get? i2 with
  | none => rfl
  | some o => obtain ⟨o', e⟩ := c3.E.still _ _ q; exact (ne e rfl).elim, ap.cd, ne hC, ne hD⟩
 have c2 : CL S (env :: outer) g1 s1 C D i2 w y (fun g h => g.κ it = .ot /\ ItAt h it v x k /\ VR S h g w y) 0 acc g3 σ3 { s3 with heap := s3.heap.push oi } :=
  ⟨c4.E, c4.I, c4.z, c4.kC, c4.kD, k2, c4.C, c4.D, hit, c4.kI, c4.it, r4⟩
 have pp2 := Pres.out (S := S) (v := v) (x := x) (k := k) (w := w) (y := y) ap (ne hI)
 have loop := fun {R2 : Result -> Shared -> Prop} hR2 => zeo (e := .ListComp elt [⟨te, iter, [], 0⟩, ⟨.Name z pz, it2, [], 0⟩] sc pos) (depth := 1) (R := R2) (KK := kk) (a.hn rfl) ap2 pp2 (fun k acc g σ => zfE (cenv := zaU sc C ev) (a.hn rfl) ap2 pp2 rfl (fun x i e => zbZ e) so.nocell so.kf) (zgn (p := pz) hz)
  (fun d mc2 h g q u => gd_e (c := i < mc'.length) q fun _ e => by subst e; exact u.unset hno)
  (fun c hm h hF => zel (zcJ (E := fun _ _ => False) a hcs so pp2 (fun _ _ _ _ _ _ _ _ er => (zeb er).elim) rd ap2 he c hm h hF))
  (zcm (zeZ _ _ _ _ _ _ _ _ _)) hR2 (fun _ _ _ _ _ c => c.p.2.2) hl2 c2 hm4 h3
 refine wpAny_bind (wpAny_runOwn (zif rfl (loop ?_) (zd0 hit (loop ?_)))) <;>
  exact fun g σ acc s' ce hm q => wpAny_pure (hF g σ acc s' ⟨ce.E, ce.I, ce.z, ce.kC, ce.kD, ce.p.1, ce.C, ce.D, ce.p.2.1, ⟨⟩⟩ hm q)
theorem zkO {el te iter it2 : PySem.Expr} {z : Str} {pz : Pos} {t : Tg} {b : Bool} {xe xi xi2 : X} {i : Nat} (hok : zcK cx.fn sc = true) (hf : ∀ ev w, foldedSetIterable iter ev w = pure w) (hf2 : ∀ ev w, foldedSetIterable it2 ev w = pure w) (ht : TgOk S sc.names te t) (hz : zdf sc.names z = some i)
  (hi : SndX S G nd false cx iter xi) (hi2 : SndX S G nd false (za0 cx sc) it2 xi2) (he : SndX S G nd false (za0 cx sc) el xe) : LcW S G nd cx el [⟨te, iter, [], 0⟩, ⟨.Name z pz, it2, [], 0⟩] sc (.comp2 b xe t xi i xi2) :=
 ⟨te, iter, [], _, xi, t, b, _, rfl, hok, hf, ht, hi, fun pos => ziS hf2 hz hi2 he, fun h => zhy h⟩
end
section
variable {prog : Program} {w : World} {K : Type} [DecidableEq K] {knd : HeapKind prog w K} {A : Around} {E : Value -> Shared -> Prop} {s : Shared} {d : Addr}
inductive CarH : List (Value × Value) -> List (K × Addr × Value) -> Prop
 | nil : CarH [] []
 | cons {k : K} {a : Addr} {v : Value} {vs : List (Value × Value)} {xs : List (K × Addr × Value)} : CarH vs xs -> CarH ((.ref a, v) :: vs) ((k, a, v) :: xs)
theorem zlM {vs : List (Value × Value)} {xs : List (K × Addr × Value)} (c : CarH vs xs) : ∀ {acc : List (K × Addr × Value)} {s : Shared} {Q : PUnit -> Shared -> Prop}, knd.room A -> (∀ x ∈ xs, knd.is s.heap x.1 x.2.1) -> ((acc ++ xs).map (·.1)).Nodup -> s.heap.DictOfH knd d acc -> (acc ++ xs).length <= 100 ->
  (∀ h' tk, h'.DictOfH knd d (acc ++ xs) -> Heap.SameBut d s.heap h' -> Q PUnit.unit { s with heap := h', toks := tk }) ->
  wpAny (model prog w) A (forIn vs PUnit.unit fun (x : Value × Value) (_ : PUnit) => (do dictSet d x.1 x.2; pure (ForInStep.yield PUnit.unit) : Sem (ForInStep PUnit))) Q E s := by
 induction c with
 | nil =>
  intro acc s Q hu hk hn hm hz hQ
  rw [List.forIn_nil]
  rw [List.append_nil] at hQ
  exact wpAny_pure (hQ s.heap s.toks hm (Heap.SameBut.refl _ _))
 | @cons k a v vs xs c ih =>
  intro acc s Q hu hk hn hm hz hQ
  rw [List.forIn_cons]
  have hno : atKey acc k = none := by
   refine atKey_none_of_get fun j p e => ?_
   rw [List.map_append, List.nodup_append] at hn
   exact hn.2.2 k (List.mem_map.mpr ⟨_, List.mem_of_getElem? e, rfl⟩) k (.head _) rfl
  have e : acc ++ (k, a, v) :: xs = (acc ++ [(k, a, v)]) ++ xs := by rw [List.append_assoc]; rfl
  rw [e] at hn hz hQ
  have hm0 := hm
  obtain ⟨o, es, ep, ho, _, hd, _⟩ := hm0
  refine wpAny_bind (wpAny_bind (wpAny_dictSet_heap (hsz := ?_) hu (hk _ (.head _)) hm fun h₁ hm₁ hs₁ => wpAny_pure ?_))
  ·refine ih (s := { s with heap := h₁, toks := s.toks + knd.draws k }) hu (fun x hx => knd.keeps (hk x (.tail _ hx)) ho hd hs₁) hn (storedH_new hno a v ▸ hm₁) hz fun h' tk hm' hs' => hQ h' tk hm' (hs₁.trans hs')
  ·refine Nat.le_trans (Nat.le_trans ?_ hz) (by rw [sizeLine_eq]; decide)
   rw [List.append_assoc, List.length_append]; exact Nat.le_add_right _ _
theorem zow {env : Env} {keys : List (Option PySem.Expr)} {values : List PySem.Expr} {pos : Pos} {Q : Value -> Shared -> Prop} (hall : keys.all (·.isSome) = true) (hl : keys.length = values.length) (h0 : keys ≠ []) (hlen : keys.length <= 15) (hu : knd.room A)
  (h : wpAny (model prog w) A (evalPairs (pairTrees keys values env pos)) (fun vs s₁ => ∃ xs, CarH vs xs /\ (∀ x ∈ xs, knd.is s₁.heap x.1 x.2.1) /\ (xs.map (·.1)).Nodup /\ xs.length <= 100 /\ s₁.heap.DictOfH knd s.heap.objs.size [] /\
   ∀ h' tk, h'.DictOfH knd s.heap.objs.size xs -> Heap.SameBut s.heap.objs.size s₁.heap h' -> Q (.ref s.heap.objs.size) { s₁ with heap := h', toks := tk }) E
   { s with heap := s.heap.push { cls := .type "dict", data := .dict #[] } }) : wpAny (model prog w) A (eval (.Dict keys values pos) env) Q E s := by
 have hn := pairTrees_length keys values env pos hall hl
 rw [arm_eval_Dict, zip_pairTrees keys values env pos hall hl, dictDisplay_pairs _ (fun he => by rw [he] at hn; exact h0 (List.length_eq_zero_iff.mp hn.symm)) (by rw [hn]; exact Nat.lt_succ_of_le (Nat.le_succ_of_le hlen))]
 refine wpAny_bind (wpAny_standAt (wpAny_bind ?_))
 unfold subDict
 refine wpAny_bind (wpAny_alloc ?_)
 refine wpAny_bind (wpAny_holding ?_)
 rw [if_pos (by rw [hn]; exact hlen)]
 refine wpAny_bind (wpAny_mono h (fun vs s₁ h₁ => ?_) fun _ _ e => e)
 obtain ⟨xs, hc, hk, hnd, hz, hm, hQ⟩ := h₁
 refine wpAny_holding ?_
 exact wpAny_bind (zlM (acc := []) hc hu hk hnd hm hz fun h' tk hm' hs' => wpAny_pure (wpAny_pure (wpAny_pure (hQ h' tk hm' hs'))))
end
section
variable {S : Sta} {G : zaa} {nd : Nat} {hd : Bool} {cx : Cx}
noncomputable abbrev tK (S : Sta) : HeapKind S.prog S.w (List Int) := tupleKind (PySem.intKind S.prog S.w)
inductive RowsAt (S : Sta) (h : Heap) (g : Gh) : List (Value × Value) -> List (List Int × Str) -> Prop
 | nil : RowsAt S h g [] []
 | cons {a : Addr} {k : List Int} {x : Str} {t : Tok} {vs : List (Value × Value)} {rows : List (List Int × Str)} : PV S.w.params h g.κ (.ref a) (.tuple (k.map .int)) -> RowsAt S h g vs rows -> RowsAt S h g ((.ref a, .str x t) :: vs) ((k, x) :: rows)
inductive RowsOk (S : Sta) (G : zaa) (nd : Nat) (hd : Bool) (cx : Cx) : List (Option PySem.Expr) -> List PySem.Expr -> List (List Int × Str) -> Prop
 | nil : RowsOk S G nd hd cx [] [] []
 | cons {ke : PySem.Expr} {k : List Int} {x : Str} {n : Nat} {p : Pos} {ks : List (Option PySem.Expr)} {vs : List PySem.Expr} {rows : List (List Int × Str)} : SndX S G nd hd cx ke (.tup (k.map fun i => .c (.int i))) -> k.length <= 8 -> RowsOk S G nd hd cx ks vs rows -> RowsOk S G nd hd cx (some ke :: ks) (.Constant (.str x) n p :: vs) ((k, x) :: rows)
theorem zhp {m mc : Fm} {E : KE} {σ : Hp} : ∀ {k : List Int} {K : List V -> Hp -> Prop}, K (k.map fun i => .pd (.int i)) σ -> evXs G S.gc m mc (k.map fun i => .c (.int i)) σ K E
 | [], _, h => h
 | _ :: r, K, h => zhp (k := r) (K := fun vs σ2 => K (_ :: vs) σ2) h
theorem zgU : ∀ {k : List Int}, zbE (k.map fun i => V.pd (.int i)) = some (k.map .int)
 | [] => rfl
 | i :: r => by
  show ((zbE (r.map fun i => V.pd (.int i))).map (PyData.int i :: ·)) = _
  rw [zgU]; rfl
theorem zgG {ks : List (Option PySem.Expr)} {vs : List PySem.Expr} {rows : List (List Int × Str)} (ro : RowsOk S G nd hd cx ks vs rows) : ∀ {A env ev outer L Y m mc σ g s pos} {E : KE}, Act S cx A env ev outer L nd hd -> Inv S (env :: outer) g σ s.heap -> Rd S cx ev Y s.heap g m mc ->
  wpAny S.M A (evalPairs (pairTrees ks vs ev pos)) (Ok S (env :: outer) No (fun h g v d => RowsAt S h g v d) g s fun r σ' => r = rows /\ σ' = σ) (Er S (env :: outer) No false g s E) s := by
 induction ro with
 | nil =>
  intro A env ev outer L Y m mc σ g s pos E a I rd
  exact pairTrees_nil_walk (Ok.here (K := fun r σ' => r = [] /\ σ' = σ) ⟨rfl, rfl⟩ ⟨I, .refl _ _ _⟩ .nil (.refl _))
 | @cons ke k x n p ks vs rows hk hz _ ih =>
  intro A env ev outer L Y m mc σ g s pos E a I rd
  have hev : evX G S.gc m mc (.tup (k.map fun i => .c (.int i))) σ (fun v σ' => v = .pd (.tuple (k.map .int)) /\ σ' = σ) E := by
   refine zhp (K := fun vs σ' => need (zbE vs) fun ds => when (ds.length <= sizeLine) (V.pd (.tuple ds) = .pd (.tuple (k.map .int)) /\ σ' = σ)) ?_
   show need (zbE _) _
   rw [zgU]
   exact zah (Nat.le_trans (by rw [List.length_map]; exact hz) (by rw [sizeLine_eq]; decide)) ⟨rfl, rfl⟩
  refine pairTrees_cons_walk (step (hk A env ev outer L Y m mc σ g s _ E a I rd hev) fun v d σ1 g1 s1 h1 e1 i1 r1 z1 => ?_)
  obtain ⟨rfl, rfl⟩ := h1
  refine Constant_str ?_
  refine zaS (s1 := { s1 with toks := s1.toks + 1 }) e1 ⟨z1.1, z1.2.1, z1.2.2⟩ (step (ih (s := { s1 with toks := s1.toks + 1 }) a i1 (rd.mono e1)) fun ws ds σ2 g2 s2 h2 e2 i2 r2 z2 => ?_)
  obtain ⟨rfl, rfl⟩ := h2
  have pv := zbu (r1.mono e2.up)
  cases v with
  | ref b => exact ⟨_, _, g2, ⟨rfl, rfl⟩, e1.trans e2, i2, .cons pv r2, z1.trans z2⟩
  | _ => cases pv
theorem zg9 {h : Heap} {g : Gh} {a : Addr} {k : List Int} (p : PV S.w.params h g.κ (.ref a) (.tuple (k.map .int))) : (tK S).is h k a := by
 cases p with
 | @tuple _ o vs n ds _ e c d q =>
  refine ⟨o, vs, n, e, c, d, ?_⟩
  have go : ∀ {vs : List Value} {k : List Int}, PVs S.w.params h g.κ vs (k.map .int) -> ItemsAre (PySem.intKind S.prog S.w) k vs := by
   intro vs k
   induction k generalizing vs with
   | nil => intro q; cases q; exact .nil
   | cons i r ih =>
    intro q
    cases q with
    | cons a q => cases a; exact .cons (beq_self_eq_true i) (ih q)
  exact go q
theorem ziC {h : Heap} {g : Gh} {vs : List (Value × Value)} {rows : List (List Int × Str)} (r : RowsAt S h g vs rows) : ∃ xs : List (List Int × Addr × Value), CarH vs xs /\ (∀ x ∈ xs, PV S.w.params h g.κ (.ref x.2.1) (.tuple (x.1.map .int))) /\ xs.map (·.1) = rows.map (·.1) /\ ∀ k x, zaW rows k = some x -> ∃ a t, atKey xs k = some (a, .str x t) := by
 induction r with
 | nil => exact ⟨[], .nil, fun _ h => (List.not_mem_nil h).elim, rfl, fun k x h => nomatch h⟩
 | @cons a k x t vs rows p _ ih =>
  obtain ⟨xs, c, q, e, f⟩ := ih
  refine ⟨(k, a, .str x t) :: xs, .cons c, List.forall_mem_cons.mpr ⟨p, q⟩, congrArg (k :: ·) e, fun k' x' h => ?_⟩
  unfold atKey
  rw [List.find?_cons]
  by_cases z : k = k'
  ·have h := (if_pos z).symm.trans h
   rw [decide_eq_true z]
   cases h; exact ⟨a, t, rfl⟩
  ·have h := (if_neg z).symm.trans h
   rw [decide_eq_false z]
   exact f k' x' h
theorem allInt_map : ∀ {l : List PyData} {k : List Int}, zbO l = some k -> l = k.map .int
 | [], k, h => by cases h; rfl
 | d :: r, k, h => bd_e h fun i hi h => zbH h fun q hq h => by rw [← h, zc4 hi, allInt_map hq]; rfl
theorem zil {rows : List (List Int × Str)} {ks : List (Option PySem.Expr)} {vs : List PySem.Expr} {i : PySem.Expr} {pd pos : Pos} {a : X} (ro : RowsOk S G nd hd cx ks vs rows) (hall : ks.all (·.isSome) = true) (hl : ks.length = vs.length) (h0 : ks ≠ []) (hlen : ks.length <= 15) (hnd : (rows.map (·.1)).Nodup) (hz : rows.length <= 100)
  (hi : ∀ o j, subscripted i false o j = operate [o, j] (getItem o j)) (ha : SndX S G nd hd cx i a) : SndX S G nd hd cx (.Subscript (.Dict ks vs pd) i pos) (.pick rows a) := by
 intro A env ev outer L Y m mc σ g s K E ac I rd h
 replace h := zhx h
 rw [arm_eval_Subscript]
 have kp : ∀ b o, s.heap.get? b = some o -> (s.heap.push { cls := .type "dict", data := .dict #[] }).get? b = some o := fun b o q => Heap.get?_push_of_some _ q
 have hn : s.heap.get? s.heap.objs.size = none := Heap.get?_none_of_le (Nat.le_refl _)
 have hat : (s.heap.push { cls := .type "dict", data := .dict #[] }).get? s.heap.objs.size = some { cls := .type "dict", data := .dict #[] } := Heap.get?_push_size _ rfl
 have kd0 : g.κ s.heap.objs.size = .ot := I.ot _ hn
 obtain ⟨I0, E0⟩ := I.keeps kp
 refine wpAny_bind (zow (knd := tK S) hall hl h0 hlen (Nat.lt_of_le_of_lt (Nat.le_add_right _ _) (zbT ac.room)) ?_)
 refine zaS (s1 := { s with heap := s.heap.push { cls := .type "dict", data := .dict #[] } }) E0 ⟨rfl, rfl, rfl⟩ (step (zgG ro (s := { s with heap := s.heap.push { cls := .type "dict", data := .dict #[] } }) ac I0 (rd.mono E0)) fun ws rs σ1 g1 s1 h1 e1 i1 r1 z1 => ?_)
 obtain ⟨rfl, rfl⟩ := h1
 generalize s.heap.objs.size = d at hn hat kd0 e1 i1 ⊢
 have keep : ∀ {o : Obj} {g' g'' : Gh} {h' h'' : Heap}, Ext No g' g'' h' h'' -> g'.κ d = .ot -> h'.get? d = some o -> h''.get? d = some o /\ g''.κ d = .ot := fun E k e => ⟨E.keep _ _ e id (by rw [k]; decide) (by rw [k]; decide) (by rw [k]; decide) (by rw [k]; decide), (E.kind _ _ e).trans k⟩
 obtain ⟨hat1, kd1⟩ := keep e1 kd0 hat
 obtain ⟨xs, car, pk, ek, look⟩ := ziC r1
 have hlx : xs.length = rs.length := by have := congrArg List.length ek; simpa using this
 refine ⟨xs, car, fun x hx => zg9 (pk x hx), ek ▸ hnd, hlx ▸ hz, ⟨_, _, _, hat1, ⟨rfl, rfl, rfl⟩, rfl, rfl, fun x hx => (List.not_mem_nil hx).elim, List.nodup_nil⟩, fun h' tk hm sb => ?_⟩
 have E1 : Ext No g g1 s.heap s1.heap := E0.trans e1
 obtain ⟨E2, i2⟩ := zaB E1 i1 hn kd1 sb.extBut
 have U2 := zbc i1 kd1 sb.extBut
 obtain ⟨o, es, ep, ho, hc, hdt, he, _, hnod⟩ := hm
 refine zaS (s1 := { s1 with heap := h', toks := tk }) E2 ⟨z1.1, z1.2.1, z1.2.2⟩ (wpAny_bind (wpAny_holding (step (ha A env ev outer L Y m mc σ1 g1 { s1 with heap := h', toks := tk } _ E ac i2 (rd.mono E2) h) fun w f σ3 g3 s3 h3 e3 i3 r3 z3 => ?_)))
 refine zaj h3 fun dd hp h3 => bd_e hp fun k hk hp => bd_e hk fun l hl hk => bd_e hl fun d0 q1 q2 => zbH hp fun x hx hp => ?_
 subst hp
 have r3 : VR S s3.heap g3 w (.pd (.tuple l)) := by rw [← zcn q2, ← zbv q1]; exact r3
 obtain rfl := allInt_map hk
 have pw := zbu r3
 obtain ⟨ho3, kd3⟩ := keep e3 kd1 ho
 have dh : s3.heap.DictOfH (tK S) d xs := ⟨o, es, ep, ho3, hc, hdt, he, fun x hx => zg9 (((pk x hx).mono U2.fz).mono e3.fz), hnod⟩
 obtain ⟨b, t, hat3⟩ := look k x hx
 obtain ⟨wa, rfl⟩ : ∃ wa, w = .ref wa := by cases pw; exact ⟨_, rfl⟩
 refine wpAny_bind (wpAny_standAt (wpAny_bind (wpAny_mono (zbj (Q := fun b s' => b = false /\ s' = s3) dh.typeIs slot_dict_getitem.lookup ⟨rfl, rfl⟩) (fun p s' hp => ?_) fun _ _ q => q)))
 obtain ⟨rfl, rfl⟩ := hp
 rw [hi]
 refine wpAny_bind (zas (wpAny_getItem_heap (tupleKind_room_in1 (Nat.lt_of_le_of_lt (Nat.add_le_add_left (by decide) _) (zbT ac.room))) (zg9 pw) dh hat3 ?_))
 refine wpAny_bind (wpAny_letTemporaryGo (wpAny_pure ?_))
 exact ⟨_, _, g3, h3, E2.trans e3, i3, .pd (.str _ _), ⟨z3.1.trans z1.1, z3.2.1.trans z1.2.1, z3.2.2.trans z1.2.2⟩⟩
end
set_option backward.match.sparseCases false
section
variable {S : Sta} {G : zaa} {nd : Nat} {hd : Bool} {cx : Cx}
theorem Sn2.plain {es : List PySem.Expr} {xs : List X} (h : Sn2 S G nd hd cx es xs) : es.all (fun e => !zap e) = true /\ (es = [] -> xs = []) /\ es.length = xs.length := by
 induction h with
 | nil => exact ⟨rfl, fun _ => rfl, rfl⟩
 | cons _ _ hs _ ih => exact ⟨by rw [List.all_cons, hs, ih.1]; rfl, nofun, by simp [ih.2.2]⟩
theorem zlR (ok : StaOk3 S) {t : Str} {n : String} {q : Pos} (ht : tyOf t = some n) (hg : nmOf cx t = some .g) : SndX S G nd hd cx (.Name t q) (.ty n) := by
 intro A env ev outer L Y m mc σ g s K E a I rd h
 replace h := zjc h
 obtain ⟨h1, h2⟩ := zlD ok ht
 exact zaT a ok.toStaOk I.stays hg h1 h2 (Ok.here (K := K) h ⟨I, .refl _ _ _⟩ (.ty n) (.refl _))
theorem zkk (ok : StaOk3 S) {q qt pos : Pos} {e : PySem.Expr} {x : X} {t : Str} {n : String} (hg : nmOf cx (Str.ofString "isinstance") = some .g) (ht : tyOf t = some n) (hgt : nmOf cx t = some .g) (hs : zap e = false) (hx : SndX S G nd false cx e x) :
  SndX S G nd false cx (.Call (.Name (Str.ofString "isinstance") q) [e, .Name t qt] [] pos) (.prim .isi [x, .ty n]) := by
 intro A env ev outer L Y m mc σ g s K E a I rd h
 replace h := zec h
 obtain ⟨h1, h2⟩ := zeL ok (x := Str.ofString "isinstance") (v := .builtin "isinstance") (.head _)
 rw [arm_eval_Call_Name']
 refine wpAny_bind (zaT a ok.toStaOk I.stays hg h1 h2 ?_)
 refine zaD (by rw [List.all_cons, hs]; rfl) (zbp hx (zbp (zlR ok ht hgt) zcq rfl) hs) a I rd (P := fun _ => True) (zaR (by nofun)) h (by nofun) fun vs ds σ1 g1 s1 h1 e1 i1 r1 z1 => ⟨trivial, ?_⟩
 exact zaS e1 z1 (wpAny_mono (zgO (p := .isi) ok.toStaOk a.room (a.hn rfl) i1 r1 h1) (fun _ _ x => x.trans e1 z1) fun _ _ x => x)
theorem zoc {ks : List (Option PySem.Expr)} : ∀ {k : List Str} {es : List PySem.Expr} {xs : List X}, zg8 ks = some k -> Sn2 S G nd hd cx es xs -> k.length = xs.length -> zh6 S G nd hd cx ks es (k.zip xs) /\ ks.all (·.isSome) = true /\ ks.length = k.length := by
 induction ks with
 | nil =>
  intro k es xs h s2 hl
  simp [zg8] at h; subst h
  cases s2 with
  | nil => exact ⟨zmE, rfl, rfl⟩
  | cons => simp at hl
 | cons o r ih =>
  intro k es xs h s2 hl
  obtain ⟨c, h0, h1⟩ := Option.bind_eq_some_iff.mp h
  obtain ⟨e, rfl, h3⟩ := Option.bind_eq_some_iff.mp h0
  obtain ⟨_, _, rfl⟩ := zjT h3
  obtain ⟨s, h2, h4⟩ := Option.bind_eq_some_iff.mp h1
  obtain ⟨k', hk, rfl⟩ := Option.map_eq_some_iff.mp h4
  cases c <;> cases h2
  cases s2 with
   | nil => simp at hl
   | cons hx _ _ hr =>
    obtain ⟨i1, i2, i3⟩ := ih hk hr (by simpa using hl)
    exact ⟨zkR hx i1, by simp [i2], by simp [i3]⟩
end
noncomputable def two? {α : Type} (l : List α) : Option {p : α × α // l = [p.1, p.2]} := match l with
 | [a, b] => some ⟨(a, b), rfl⟩
 | _ => none
noncomputable def nil? {α : Type} (l : List α) : Option {u : Unit // l = []} := match l with
 | [] => some ⟨(), rfl⟩
 | _ => none
noncomputable def asM1 (o : Option PySem.Expr) : Option {p : Nat × Pos × Pos // o = some (.UnaryOp .USub (.Constant (.int 1) p.1 p.2.1) p.2.2)} := match o with
 | some (.UnaryOp o (.Constant c k p0) p1) => match o, c with
  | .USub, .int i => if h : i = 1 then some ⟨(k, p0, p1), by rw [h]⟩ else none
  | _, _ => none
 | _ => none
noncomputable def zlj (e : PySem.Expr) : Option {p : Option PySem.Expr × Option PySem.Expr × Option PySem.Expr × Pos // e = .Slice p.1 p.2.1 p.2.2.1 p.2.2.2} := match e with
 | .Slice a b c p => some ⟨(a, b, c, p), rfl⟩
 | _ => none
noncomputable def zh1 (e : PySem.Expr) : Option {p : List PySem.Expr × Nat × Pos // e = .Tuple p.1 p.2.1 p.2.2} := match e with
 | .Tuple a b p => some ⟨(a, b, p), rfl⟩
 | _ => none
noncomputable def asSub (e : PySem.Expr) : Option {p : PySem.Expr × PySem.Expr × Pos // e = .Subscript p.1 p.2.1 p.2.2} := match e with
 | .Subscript a b p => some ⟨(a, b, p), rfl⟩
 | _ => none
noncomputable def asLC (e : PySem.Expr) : Option {p : PySem.Expr × List Comprehension × Scope × Pos // e = .ListComp p.1 p.2.1 p.2.2.1 p.2.2.2} := match e with
 | .ListComp a b c p => some ⟨(a, b, c, p), rfl⟩
 | _ => none
noncomputable def zno (e : PySem.Expr) : Option {p : Str × Nat × Pos // e = .Constant (.str p.1) p.2.1 p.2.2} := match e with
 | .Constant c k p => match c with
  | .str x => some ⟨(x, k, p), rfl⟩
  | _ => none
 | _ => none
noncomputable def zln (e : PySem.Expr) : Option {p : Const × Nat × Pos // e = .Constant p.1 p.2.1 p.2.2} := match e with
 | .Constant c k p => some ⟨(c, k, p), rfl⟩
 | _ => none
noncomputable def asFmt (e : PySem.Expr) : Option {p : PySem.Expr × Pos // e = .FormattedValue p.1 (-1) none p.2} := match e with
 | .FormattedValue v i o p => match o with
  | none => if h : i = -1 then some ⟨(v, p), by rw [h]⟩ else none
  | _ => none
 | _ => none
section
variable (S : Sta)
noncomputable def GX (cx : Cx) (e : PySem.Expr) (x : X) : Prop := ∀ nd, Hy S nd -> SndX S (zaM S.tab S.gc nd) nd false cx e x /\ SndT S (zaM S.tab S.gc nd) nd false cx e x
noncomputable def GXs (cx : Cx) (es : List PySem.Expr) (xs : List X) : Prop := ∀ nd, Hy S nd -> Sn2 S (zaM S.tab S.gc nd) nd false cx es xs
noncomputable def GPs (cx : Cx) (es : List PySem.Expr) (xs : List X) : Prop := ∀ nd, Hy S nd -> Parts S (zaM S.tab S.gc nd) nd false cx es xs
noncomputable def GS (names : Names) (lam : Bool) (s : Stmt) (x : Mine.Lake.S) : Prop := ∀ nd, Hy S nd -> SndS S (zaM S.tab S.gc nd) nd false names lam s x
end
section
variable {S : Sta} {cx : Cx} {e : PySem.Expr} {x : X}
theorem GX.of (h : ∀ nd, Hy S nd -> SndX S (zaM S.tab S.gc nd) nd false cx e x) (ht : ∀ ev whole, isTrue e ev whole = (do let v ← whole; standAt e.pos; holding [v] (truthy v))) : GX S cx e x := fun nd y => ⟨h nd y, zkd (h nd y) ht⟩
theorem GX.dct (ok : StaOk S) {ks : List (Option PySem.Expr)} {es : List PySem.Expr} {k : List Str} {xs : List X} {b : Bool} {pos : Pos} (h1 : zg8 ks = some k) (h2 : GXs S cx es xs) (hl : decide (k.length = xs.length /\ k.length <= 15 /\ 0 < k.length) = true) : GX S cx (.Dict ks es pos) (.dct b (k.zip xs)) :=
 .of (fun nd y => by
  obtain ⟨l1, l2, l3⟩ := of_decide_eq_true hl
  have s2 := h2 nd y
  obtain ⟨i1, i2, i3⟩ := zoc h1 s2 l1
  exact zkl ok i2 (by rw [i3, l1, s2.plain.2.2]) (by rintro rfl; rw [← i3] at l3; exact absurd l3 (Nat.lt_irrefl 0)) (i3 ▸ l2) i1) fun _ _ => rfl
theorem zfb {i : PySem.Expr} (h : zaK i ≠ 5) : ∀ o j, subscripted i false o j = operate [o, j] (getItem o j) := by
 intro o j
 cases i <;> first | rfl | exact absurd rfl h
theorem zd3 {m : Nm} (h : isG m = true) : m = Nm.g := by cases m <;> first | rfl | cases h
theorem zak {a b : Nat} (h : (a != b) = true) : a ≠ b := by simpa using h
end
section
variable {S : Sta} {cx : Cx}
noncomputable def xsOf (f : ∀ e, Option {x : X // GX S cx e x}) : ∀ es, Option {xs : List X // GXs S cx es xs}
 | [] => some ⟨[], fun _ _ => .nil⟩
 | e :: r => chk (!zap e) fun hs => bnd (f e) fun x hx => bnd (xsOf f r) fun xs hr => some ⟨x :: xs, fun nd y => .cons (hx nd y).1 (hx nd y).2 (zg1 hs) (hr nd y)⟩
noncomputable def zl8 (f : ∀ e, Option {x : X // GX S cx e x}) : ∀ es, Option {xs : List X // GPs S cx es xs}
 | [] => some ⟨[], fun _ _ => .nil⟩
 | e :: r => bnd (zl8 f r) fun xs hr => alt
  (bnd (zno e) fun p hp => some ⟨.c (.str p.1) :: xs, fun nd y => hp ▸ .cons zf1 (hr nd y)⟩)
  (bnd (asFmt e) fun p hp => bnd (f p.1) fun x hx => some ⟨x :: xs, fun nd y => hp ▸ .cons (ziL (hx nd y).1) (hr nd y)⟩)
end
section
variable {S : Sta} (ok : StaOk3 S) (k2 : KOk2 S)
noncomputable abbrev FX (S : Sta) := ∀ (fn : Names) (cs : Option Names) (lam : Bool) (e : PySem.Expr), Option {x : X // GX S (S.at fn cs lam) e x}
noncomputable def ifsX (f : FX S) (fn : Names) (ns : Names) (ifs : List PySem.Expr) : Option {xc : Option X // ∀ nd, Hy S nd -> IfsOk S (zaM S.tab S.gc nd) nd (S.at fn (some ns)) ifs xc} := alt
 (bnd (nil? ifs) fun _ h => some ⟨none, h ▸ fun _ _ => .no⟩)
 (bnd (one? ifs) fun c hc => bnd (f fn (some ns) false c) fun q hq => some ⟨some q, hc ▸ fun nd y => .yes (hq nd y).2⟩)
noncomputable abbrev LcX (S : Sta) (fn : Names) (lam : Bool) (el : PySem.Expr) (gs : List Comprehension) (sc : Scope) := Option {xe : X // ∀ nd, Hy S nd -> LcW S (zaM S.tab S.gc nd) nd (S.at fn none lam) el gs sc xe}
noncomputable def zlm (g : Comprehension) : Option {p : PySem.Expr × PySem.Expr × List PySem.Expr // g = ⟨p.1, p.2.1, p.2.2, 0⟩} :=
 match g with
 | ⟨a, b, c, n⟩ => if h : n = 0 then some ⟨(a, b, c), h ▸ rfl⟩ else none
noncomputable def lcOf (f : FX S) (fn : Names) (lam : Bool) (el : PySem.Expr) (gs : List Comprehension) (sc : Scope) (b : Bool) : LcX S fn lam el gs sc := chk (zcK fn sc) fun h1 => bnd (f fn (some sc.names) false el) fun xe h5 => alt
 (bnd (one? gs) fun g hg => bnd (zlm g) fun p hp => chk (zaK p.2.1 != 3) fun h2 => bnd (tgX S sc.names 9 p.1) fun t h3 => bnd (f fn none lam p.2.1) fun xi h4 => bnd (ifsX f fn sc.names p.2.2) fun xc h6 =>
  some ⟨.comp b xe t xi xc, fun nd y => by rw [hg, hp]; exact zkP h1 (fun ev w => zbr (zak h2) ev w) h3 (h4 nd y).1 (h5 nd y).1 (h6 nd y)⟩)
 (bnd (two? gs) fun g hg => bnd (zlm g.1) fun p hp => bnd (zlm g.2) fun q hq => bnd (nil? p.2.2) fun _ e1 => bnd (nil? q.2.2) fun _ e2 => bnd (za1 q.1) fun z hz => opt (zdf sc.names z.1) fun i hi => chk (zaK p.2.1 != 3 && zaK q.2.1 != 3) fun h2 => bnd (tgX S sc.names 9 p.1) fun t h3 => bnd (f fn none lam p.2.1) fun xi h4 => bnd (f fn (some sc.names) false q.2.1) fun xi2 h6 =>
  some ⟨.comp2 b xe t xi i xi2, fun nd y => by
   rw [hg, hp, hq, e1, e2, hz]
   rw [Bool.and_eq_true] at h2
   exact zkO h1 (fun ev w => zbr (zak h2.1) ev w) (fun ev w => zbr (zak h2.2) ev w) h3 hi (h4 nd y).1 (h6 nd y).1 (h5 nd y).1⟩)
noncomputable def asCI (x : X) : Option {i : Int // x = .c (.int i)} := match x with
 | .c d => match d with
  | .int i => some ⟨i, rfl⟩
  | _ => none
 | _ => none
noncomputable def znq : ∀ xs : List X, Option {l : List Int // xs = l.map fun i => .c (.int i)}
 | [] => some ⟨[], rfl⟩
 | x :: r => bnd (asCI x) fun i hi => bnd (znq r) fun l hl => some ⟨i :: l, by rw [hi, hl]; rfl⟩
noncomputable def asCT (x : X) : Option {l : List Int // x = .tup (l.map fun i => .c (.int i))} := match x with
 | .tup xs => bnd (znq xs) fun l hl => some ⟨l, by rw [hl]⟩
 | _ => none
noncomputable def asDict (e : PySem.Expr) : Option {p : List (Option PySem.Expr) × List PySem.Expr × Pos // e = .Dict p.1 p.2.1 p.2.2} := match e with
 | .Dict a b c => some ⟨(a, b, c), rfl⟩
 | _ => none
structure Rows (S : Sta) (fn : Names) (cs : Option Names) (lam : Bool) (ks : List (Option PySem.Expr)) (vs : List PySem.Expr) where
 rows : List (List Int × Str)
 ok : ∀ nd, Hy S nd -> RowsOk S (zaM S.tab S.gc nd) nd false (S.at fn cs lam) ks vs rows
 all : ks.all (·.isSome) = true
 len : ks.length = vs.length
noncomputable def zl1 (f : FX S) (fn : Names) (cs : Option Names) (lam : Bool) : ∀ ks vs, Option (Rows S fn cs lam ks vs)
 | [], [] => some ⟨[], fun _ _ => .nil, rfl, rfl⟩
 | k :: ks, v :: vs => match k with
  | none => none
  | some k => bnd (zno v) fun p hp => bnd (f fn cs lam k) fun x hx => bnd (asCT x) fun l hl => chk (decide (l.length <= 8)) fun h8 => match zl1 f fn cs lam ks vs with
   | none => none
   | some r => some ⟨(l, p.1) :: r.rows, fun nd y => hp ▸ .cons (hl ▸ (hx nd y).1) (of_decide_eq_true h8) (r.ok nd y), r.all, congrArg (· + 1) r.len⟩
 | _, _ => none
noncomputable def zoC (f : FX S) (fn : Names) (cs : Option Names) (lam : Bool) (y : Str) (q : Pos) (args : List PySem.Expr) (p : Pos) : Option {x : X // GX S (S.at fn cs lam) (.Call (.Name y q) args [] p) x} :=
 opt (nmOf (S.at fn cs lam) y) fun m hm => match m, hm with
  | .g, hg => alt (opt (zaW S.cx.funs y) fun f0 hf => bnd (xsOf (f fn cs lam) args) fun xs hx => some ⟨.call f0 xs, .of (fun nd y => zir ok k2 y.co hf hg (hx nd y).plain.1 (hx nd y).xs (hx nd y).plain.2.1) fun _ _ => rfl⟩)
   (alt (chk (decide (y = Str.ofString "Evaluator")) fun he => bnd (one? args) fun a ha => chk (!zap a) fun hs => bnd (f fn cs lam a) fun x hx => some ⟨.new x, ha ▸ .of (fun nd w => by
     have he := of_decide_eq_true he
     subst he
     exact zkh ok k2 w.no hg (zg1 hs) (hx nd w).1) fun _ _ => rfl⟩)
   (alt (chk (decide (y = Str.ofString "isinstance")) fun he => bnd (two? args) fun a ha => bnd (za1 a.2) fun t ht => opt (tyOf t.1) fun n hn => opt (nmOf (S.at fn cs lam) t.1) fun mt hmt => chk (isG mt) fun hgt => chk (!zap a.1) fun hs => bnd (f fn cs lam a.1) fun x hx => some ⟨.prim .isi [x, .ty n], ha ▸ ht ▸ .of (fun nd w => by
     have he := of_decide_eq_true he
     subst he
     exact zkk ok hg hn (zd3 hgt ▸ hmt) (zg1 hs) (hx nd w).1) fun _ _ => rfl⟩)
    (opt (zgR y) fun q0 hq => bnd (xsOf (f fn cs lam) args) fun xs hx => some ⟨.prim q0 xs, .of (fun nd w => zik ok hq hg (hx nd w).plain.1 (hx nd w).xs (hx nd w).plain.2.1) fun _ _ => rfl⟩)))
  | _, _ => none
noncomputable def zn6 (f : FX S) (fn : Names) (cs : Option Names) (lam : Bool) (o : PySem.Expr) (a : Str) (ap : Pos) (args : List PySem.Expr) (p : Pos) : Option {x : X // GX S (S.at fn cs lam) (.Call (.Attribute o a ap) args [] p) x} :=
 chk (zc8 o) fun h1 => chk (ap.endLine == p.line) fun h2 => chk (decide (args.length < 20)) fun h3 => bnd (f fn cs lam o) fun x hx => bnd (xsOf (f fn cs lam) args) fun xs hs =>
  alt (alt (opt (zaW S.cx.meths a) fun f0 hf => some ⟨.meth f0 x xs, .of (fun nd w => zim ok k2 w.co hf h1 h2 (of_decide_eq_true h3) (hs nd w).plain.1 (hx nd w).1 (hs nd w).xs (hs nd w).plain.2.1) fun _ _ => rfl⟩)
   (opt (lmOf a) fun q hq => some ⟨.lm q x xs, .of (fun nd w => zlS ok.toStaOk hq h1 h2 (of_decide_eq_true h3) (hs nd w).plain.1 (hx nd w).1 (hs nd w).xs (hs nd w).plain.2.1) fun _ _ => rfl⟩))
   (chk (decide (a = Str.ofString "join")) fun hj => bnd (one? args) fun e he => chk (!zap e) fun hs => bnd (f fn cs lam e) fun y hy => some ⟨.join x y, he ▸ .of (fun nd w => by
    have hj := of_decide_eq_true hj
    subst hj
    exact zin h1 h2 (zg1 hs) (hx nd w).1 (hy nd w).1) fun _ _ => rfl⟩)
noncomputable def znQ (f : FX S) (fn : Names) (cs : Option Names) (lam : Bool) (e : PySem.Expr) : Option {x : X // GX S (S.at fn cs lam) e x} := match e with
 | .Constant c k p => opt (zhS c) fun x h => some ⟨x, .of (fun _ _ => zdO h) fun _ _ => rfl⟩
 | .Name y p => opt (ziR (S.at fn cs lam) y) fun x h => some ⟨x, .of (fun _ _ => zff ok.toStaOk2 h) fun _ _ => rfl⟩
 | .Tuple es c p => bnd (xsOf (f fn cs lam) es) fun xs h => some ⟨.tup xs, .of (fun nd y => zeE (h nd y).xs) fun _ _ => rfl⟩
 | .List es p => bnd (xsOf (f fn cs lam) es) fun xs h => some ⟨.lst (ziZ S.cx p) xs, .of (fun nd y => zkj ok.sm (h nd y).xs) fun _ _ => rfl⟩
 | .Dict ks vs p => opt (zg8 ks) fun k h1 => bnd (xsOf (f fn cs lam) vs) fun xs h2 => chk (decide (k.length = xs.length /\ k.length <= 15 /\ 0 < k.length)) fun hl => some ⟨.dct (ziZ S.cx p) (k.zip xs), .dct ok.toStaOk h1 h2 hl⟩
 | .BinOp l o r p => opt (opOf o) fun o h => bnd (f fn cs lam l) fun a ha => bnd (f fn cs lam r) fun b hb => some ⟨.op o a b, .of (fun nd y => zkn (zgZ ok.toStaOk) h (ha nd y).1 (hb nd y).1) fun _ _ => rfl⟩
 | .UnaryOp o a p => bnd (f fn cs lam a) fun x h => match o with
  | .Not => some ⟨.not x, fun nd y => ⟨zkg (h nd y).1, zii (h nd y).2⟩⟩
  | .USub => some ⟨.neg x, .of (fun nd y => zki (h nd y).1) fun _ _ => rfl⟩
  | _ => none
 | .BoolOp o es p => bnd (xsOf (f fn cs lam) es) fun xs h => opt (zf3 o xs) fun x hj => some ⟨x, fun nd y => ⟨zfU (h nd y) hj, zeD (h nd y) hj⟩⟩
 | .Compare l os rs p => bnd (f fn cs lam l) fun a ha => alt
  (bnd (one? os) fun o ho => bnd (one? rs) fun r hr => chk (zaK r != 3) fun hk => bnd (f fn cs lam r) fun b hb => some ⟨.op (zcM o) a b, ho ▸ hr ▸ fun nd y => ⟨zkm (zgZ ok.toStaOk) (zbL (zak hk) _) (ha nd y).1 (hb nd y).1, zij (zgZ ok.toStaOk) (zbL (zak hk) _) (ha nd y).1 (hb nd y).1⟩⟩)
  (bnd (two? os) fun o ho => bnd (two? rs) fun r hr => chk (zaK r.2 != 3) fun hk => bnd (f fn cs lam r.1) fun b hb => bnd (f fn cs lam r.2) fun d hd => some ⟨.ch (zcM o.1) (zcM o.2) a b d, ho ▸ hr ▸ fun nd y => ⟨zgA (zgZ ok.toStaOk) (zbL (zak hk) _) (ha nd y).1 (hb nd y).1 (hd nd y).1, zfT (zgZ ok.toStaOk) (zbL (zak hk) _) (ha nd y).1 (hb nd y).1 (hd nd y).1⟩⟩)
 | .IfExp t a b p => bnd (f fn cs lam t) fun xt ht => bnd (f fn cs lam a) fun xa ha => bnd (f fn cs lam b) fun xb hb => some ⟨.ite xt xa xb, fun nd y => ⟨zgz (ht nd y).2 (ha nd y).1 (hb nd y).1, zfS (ht nd y).2 (ha nd y).2 (hb nd y).2⟩⟩
 | .JoinedStr ps p => bnd (zl8 (f fn cs lam) ps) fun xs h => some ⟨.fstr xs, .of (fun nd y => zio (h nd y)) fun _ _ => rfl⟩
 | .Subscript v i p => alt (bnd (asDict v) fun q hq => match zl1 f fn cs lam q.1 q.2.1 with
   | none => none
   | some r => chk (decide (q.1.length <= 15 /\ q.1 ≠ [] /\ (r.rows.map (·.1)).Nodup /\ r.rows.length <= 100)) fun hh => chk (zaK i != 5) fun hk => bnd (f fn cs lam i) fun b hb => some ⟨.pick r.rows b, hq ▸ .of (fun nd y => by
    obtain ⟨h1, h2, h3, h4⟩ := of_decide_eq_true hh
    exact zil (r.ok nd y) r.all r.len h2 h1 h3 h4 (zfb (zak hk)) (hb nd y).1) fun _ _ => rfl⟩) (bnd (f fn cs lam v) fun a ha => alt
  (bnd (zlj i) fun q hq => alt
   (opt (intC q.1) fun lo h1 => opt (intC q.2.1) fun hi h2 => chk q.2.2.1.isNone fun h3 => some ⟨.slice a lo hi, hq ▸ .of (fun nd y => by
    rw [Option.isNone_iff_eq_none] at h3
    rw [h3]
    exact zgx (zeC ok.toStaOk ok.ko) h1 h2 (ha nd y).1) fun _ _ => rfl⟩)
   (chk q.1.isNone fun h3 => alt
   (chk q.2.1.isNone fun h4 => bnd (asM1 q.2.2.1) fun m hm => some ⟨.rev a, hq ▸ .of (fun nd y => by
    rw [Option.isNone_iff_eq_none] at h3 h4
    rw [h3, h4, hm]
    exact zkf (zeC ok.toStaOk ok.ko) (ha nd y).1) fun _ _ => rfl⟩)
   (chk q.2.2.1.isNone fun h4 => opt q.2.1 fun e he => bnd (f fn cs lam e) fun b hb => some ⟨.cutv a b, hq ▸ .of (fun nd y => by
    rw [Option.isNone_iff_eq_none] at h3 h4
    rw [h3, he, h4]
    exact ziq (zeC ok.toStaOk ok.ko) (ha nd y).1 (hb nd y).1) fun _ _ => rfl⟩)))
  (chk (zaK i != 5) fun hk => bnd (f fn cs lam i) fun b hb => some ⟨.sub a b, .of (fun nd y => zke (zeC ok.toStaOk ok.ko) (zfb (zak hk)) (ha nd y).1 (hb nd y).1) fun _ _ => rfl⟩))
 | .Attribute o a p => bnd (za1 o) fun q hq => alt
  (chk (decide (a = Str.ofString "scope")) fun he => opt (ziR (S.at fn cs lam) q.1) fun x h => some ⟨.scope x, hq ▸ .of (fun nd y => by
   have he := of_decide_eq_true he
   subst he
   exact zgy (zeC ok.toStaOk ok.ko) (zff ok.toStaOk2 h)) fun _ _ => rfl⟩)
  (opt (zcF a) fun b h1 => opt (nmOf (S.at fn cs lam) q.1) fun m hm => match m, hm with
   | .v i, hi => some ⟨.fault i b, hq ▸ .of (fun nd y => zdN (zeC ok.toStaOk ok.ko) hi h1) fun _ _ => rfl⟩
   | _, _ => none)
 | .ListComp el gs sc p => match cs with
  | none => bnd (lcOf f fn lam el gs sc (ziZ S.cx p)) fun x h => some ⟨x, .of (fun nd y => zfg ok.toStaOk rfl (h nd y)) fun _ _ => rfl⟩
  | some _ => none
 | .Call g args kws p => bnd (nil? kws) fun _ h0 => alt
  (bnd (za1 g) fun q hq => bnd (zoC ok k2 f fn cs lam q.1 q.2 args p) fun x h => some ⟨x, h0 ▸ hq ▸ h⟩)
  (bnd (zjV g) fun q hq => bnd (zn6 ok k2 f fn cs lam q.1 q.2.1 q.2.2 args p) fun x h => some ⟨x, h0 ▸ hq ▸ h⟩)
 | _ => none
noncomputable def toX : Nat -> FX S
 | 0 => fun _ _ _ _ => none
 | n + 1 => znQ ok k2 (toX n)
end
set_option backward.match.sparseCases true
section
variable {S : Sta} {fr : List Env} {A : Around} {g : Gh} {σ : Hp} {s : Shared} {Ev : Value -> Shared -> Prop}
noncomputable abbrev nx (v : Value) : Sem Value := Builtin.SmallTypes.nextOf v
theorem zkC {T id : String} {b : Builtin} {it : Addr} {Q : Value -> Shared -> Prop} (sl : Slot T "__next__" id) (hT : s.TypeIs (.ref it) T) (hb : entryFor table id = some b) (ha : argsOk id ⟨[.ref it], []⟩)
  (h : wpAny S.M A.in1 (b ⟨[.ref it], []⟩) (fun fin s' => ∃ v, fin = .done (.ret v) /\ Q v s') Ev s) : wpAny S.M A (nx (.ref it)) Q Ev s := by
 show wpAny S.M A (Builtin.SmallTypes.nextOf (.ref it)) Q Ev s
 unfold Builtin.SmallTypes.nextOf
 refine wpAny_bind (wpAny_callSpecial?_slot (name := Str.ofString "__next__") hT sl (wpAny_call_entry sl hT hb (wpAny_mono h (fun fin s' ⟨v, h1, h2⟩ => ⟨v, h1, wpAny_pure h2⟩) fun _ _ x => x) ha))
theorem zmh {it t : Addr} {i : Nat} {items : Array Value} {Q : Value -> Shared -> Prop} (hit : IsTupIter s.heap it t i) (ht : IsTup s.heap t items) (hn : items[i]? = none -> A.handled = none)
  (hQ : ∀ x h', items[i]? = some x -> IsTupIter h' it t (i + 1) -> Heap.SameBut it s.heap h' -> Q x { s with heap := h' })
  (hE : ∀ h' e, items[i]? = none -> Heap.ExtBut it s.heap h' -> (∃ o, h'.get? e = some o /\ o.cls = .type "StopIteration") -> Ev (.ref e) { s with heap := h' }) : wpAny S.M A (nx (.ref it)) Q Ev s := by
 obtain ⟨o, ho, hc, hd⟩ := id hit
 obtain ⟨ol, hol, _, nl, hdl⟩ := ht
 refine zkC slot_tupleiter_next hit.typeIs entry_tupleiter_next (args_tupleiter_next _) ?_
 show wpAny _ _ (field (.ref it) 0 >>= _) _ _ s
 refine wpAny_bind (wpAny_field ho hd (x := .ref t) rfl ?_)
 show wpAny _ _ (if (Value.ref t == Value.none) = true then _ else _) _ _ s
 rw [if_neg (show ¬ ((Value.ref t == Value.none) = true) from Bool.false_ne_true)]
 show wpAny _ _ (field (.ref it) 1 >>= _) _ _ s
 refine wpAny_bind (wpAny_field ho hd (x := .int i 0) rfl ?_)
 show wpAny _ _ (seqItems? (.ref t) >>= _) _ _ s
 refine wpAny_bind (wpAny_seqItems hol hdl ?_)
 cases hx : items[i]? with
 | some x =>
  simp only [Int.toNat_natCast, hx]
  refine wpAny_bind (wpAny_setField ho hd (by simp) (wpAny_pure ⟨x, rfl, hQ x _ hx ?_ (Heap.SameBut.update ..)⟩))
  exact ⟨_, Heap.get?_update_self _ ho (Obj.isFreed_of_fields (Obj.data_mapFields hd _)), (Obj.cls_mapFields ..).trans hc, by rw [Obj.data_mapFields hd]; simp [rawInt]⟩
 | none =>
  simp only [Int.toNat_natCast, hx]
  refine wpAny_bind (wpAny_rule (wpAny_bind (wpAny_setField ho hd (by simp) ?_)))
  show wpAny _ _ (newExc (.type "StopIteration") [] >>= _) _ _ _
  refine wpAny_bind ?_
  simp only [newExc, newTuple]
  refine wpAny_bind (wpAny_newObj_type ?_ (by size_fits))
  refine wpAny_bind (m := firstArgMember _ _) (wpAny_of_eq (a := Value.none) (by first | rfl | (simp only [firstArgMember]; rfl)) ?_)
  refine wpAny_newObj_type ?_ (by size_fits)
  simp only [raiseNew]
  refine wpAny_bind (wpAny_handled ?_)
  first | rw [show A.in1.in1.handled = none from hn hx] | rw [show A.in1.handled = none from hn hx] | rw [hn hx]
  refine wpAny_bind (wpAny_pure (wpAny_throw ?_))
  exact hE _ _ hx (((Heap.SameBut.update ..).extBut.push _).push _) ⟨_, Heap.get?_push_size _ rfl, rfl⟩
theorem zmi {x : V} {l : List PyData} {v : Value} {it : Addr} {k : Nat} {Q : Value -> Shared -> Prop} (hn : A.handled = none) (I : Inv S fr g σ s.heap) (r : VR S s.heap g v x) (hr : zcg x = true) (e : zac σ x = some l) (i : ItAt s.heap it v x k) (hk : k <= l.length)
  (h1 : ∀ w d h', l[k]? = some d -> PV S.w.params s.heap g.κ w d -> Heap.SameBut it s.heap h' -> ItAt h' it v x (k + 1) -> Q w { s with heap := h' })
  (h2 : ∀ h' e, k = l.length -> Heap.ExtBut it s.heap h' -> (∃ o, h'.get? e = some o /\ o.cls = .type "StopIteration") -> Ev (.ref e) { s with heap := h' }) : wpAny S.M A (nx (.ref it)) Q Ev s := by
 cases i with
 | l a q u i =>
  obtain ⟨a', vs, hv', hl, p⟩ := r.isList I (zhd q e)
  rw [u] at hv'; cases hv'
  have hlen : vs.size = l.length := p.length
  rcases Nat.lt_or_ge k l.length with hlt | hge
  ·obtain ⟨w, hw, pw⟩ := p.getA (List.getElem?_eq_getElem hlt)
   exact wpAny_nextOf_list_item i hl hw fun h' i'' sb => h1 w _ h' (List.getElem?_eq_getElem hlt) pw sb (.l a q u i'')
  ·exact wpAny_nextOf_list_end hn i hl (Array.getElem?_eq_none (by rw [hlen]; exact hge)) fun h' e eb he => h2 h' e (Nat.le_antisymm hk hge) eb he
 | t a l' q u i =>
  obtain rfl : l' = l := Option.some.inj (show zac σ (.pd (.tuple l')) = some l from q ▸ e)
  obtain ⟨a', vs, hv', hl, p⟩ := (q ▸ r).isTup (σ := σ) rfl
  rw [u] at hv'; cases hv'
  have hlen : vs.size = l'.length := p.length
  refine zmh i hl (fun _ => hn) (fun w h' hw i'' sb => ?_) fun h' e hw eb he => h2 h' e (Nat.le_antisymm hk (hlen ▸ Array.getElem?_eq_none_iff.mp hw)) eb he
  have hlt : k < l'.length := hlen ▸ (Array.getElem?_eq_some_iff.mp hw).1
  obtain ⟨w', hw', pw⟩ := p.getA (List.getElem?_eq_getElem hlt)
  rw [hw] at hw'; cases hw'
  exact h1 w _ h' (List.getElem?_eq_getElem hlt) pw sb (.t a _ q u i'')
 | r lo hi q i => rw [q] at hr; cases hr
end
theorem Up.trans {g g' g'' : Gh} {h h' h'' : Heap} (x : Up g g' h h') (y : Up g' g'' h' h'') : Up g g'' h h'' := ⟨Nat.le_trans x.num y.num, fun i hi => (y.addr i (Nat.lt_of_lt_of_le hi x.num)).trans (x.addr i hi), fun a o k e => y.fz a o (x.fz a o k e).1 (x.fz a o k e).2⟩
structure ZAt (h : Heap) (z TI TO i1 i2 : Addr) (f0 va : Value) (x : V) (vb : Value) (y : V) (k1 k2 : Nat) : Prop where
 z : IsZip h z TI TO f0
 ti : IsPair h TI (.ref i1) (.ref i2)
 to : ∃ a b, IsPair h TO a b
 a : ItAt h i1 va x k1
 b : ItAt h i2 vb y k2
structure ZDist (z TI TO i1 i2 : Addr) : Prop where
 zTI : z ≠ TI
 zTO : z ≠ TO
 z1 : z ≠ i1
 z2 : z ≠ i2
 tt : TI ≠ TO
 ti1 : TI ≠ i1
 ti2 : TI ≠ i2
 to1 : TO ≠ i1
 to2 : TO ≠ i2
 ii : i1 ≠ i2
structure ZSt (S : Sta) (env : Env) (outer : List Env) (Y : Addr -> Prop) (names : Names) (g1 : Gh) (s1 : Shared) (σ : Hp) (m : Fm) (z TI TO i1 i2 : Addr) (s : Shared) (g : Gh) : Prop where
 e : Ext Y g1 g s1.heap s.heap
 i : Inv S (env :: outer) g σ s.heap
 v : VarsOk S Y s.heap g env names m
 r : Rest s1 s
 ks : ∀ b, b = z \/ b = TI \/ b = TO \/ b = i1 \/ b = i2 -> g.κ b = .ot /\ s1.heap.get? b = none /\ ¬ Y b
section
variable {S : Sta} {A : Around} {env : Env} {outer : List Env} {Y : Addr -> Prop} {names : Names} {g1 g : Gh} {s1 s : Shared} {σ : Hp} {m : Fm} {z TI TO i1 i2 : Addr} {Ev : Value -> Shared -> Prop} {va vb : Value} {x y : V}
theorem ZSt.own (Z : ZSt S env outer Y names g1 s1 σ m z TI TO i1 i2 s g) {b : Addr} {h' : Heap} (hb : b = z \/ b = TI \/ b = TO \/ b = i1 \/ b = i2) (x : Heap.ExtBut b s.heap h') : ZSt S env outer Y names g1 s1 σ m z TI TO i1 i2 { s with heap := h' } g /\ Up g g s.heap h' := by
 obtain ⟨k, n, ny⟩ := Z.ks b hb
 obtain ⟨e, i⟩ := zaB Z.e Z.i n k x
 exact ⟨⟨e, i, Z.v.but k x ny, ⟨Z.r.1, Z.r.2.1, Z.r.2.2⟩, Z.ks⟩, zbc Z.i k x⟩
theorem ZSt.new (Z : ZSt S env outer Y names g1 s1 σ m z TI TO i1 i2 s g) {o : Obj} (hf : o.isFreed = false) (old : ∀ b, b = z \/ b = TI \/ b = TO \/ b = i1 \/ b = i2 -> b ≠ s.heap.objs.size) :
  ZSt S env outer Y names g1 s1 σ m z TI TO i1 i2 { s with heap := s.heap.push o } (g.put s.heap.objs.size .fz) /\ Up g (g.put s.heap.objs.size .fz) s.heap (s.heap.push o) := by
 obtain ⟨I, E⟩ := Z.i.new (k := .fz) (fun b o' e => Heap.get?_push_of_some o e) (Heap.get?_none_of_le (Nat.le_refl _)) (Heap.get?_push_size _ hf)
 exact ⟨⟨Z.e.trans E.no, I, Z.v.mono E, ⟨Z.r.1, Z.r.2.1, Z.r.2.2⟩, fun b hb => ⟨(if_neg (old b hb)).trans (Z.ks b hb).1, (Z.ks b hb).2⟩⟩, E.up⟩
theorem zh8 {l1 l2 : List PyData} {k : Nat} {Q : Option Value -> Shared -> Prop} (hn : A.handled = none) (D : ZDist z TI TO i1 i2) (Z : ZSt S env outer Y names g1 s1 σ m z TI TO i1 i2 s g) (za : ZAt s.heap z TI TO i1 i2 .none va x vb y k k)
  (r1 : VR S s.heap g va x) (r2 : VR S s.heap g vb y) (n1 : zcg x = true) (n2 : zcg y = true) (e1 : zac σ x = some l1) (e2 : zac σ y = some l2) (hk1 : k <= l1.length) (hk2 : k <= l2.length)
  (h1 : ∀ T d1 d2 h' g', l1[k]? = some d1 -> l2[k]? = some d2 -> ZSt S env outer Y names g1 s1 σ m z TI TO i1 i2 { s with heap := h' } g' -> Up g g' s.heap h' -> PV S.w.params h' g'.κ (.ref T) (.tuple [d1, d2]) -> ZAt h' z TI TO i1 i2 (rawInt T) va x vb y (k + 1) (k + 1) -> Q (some (.ref T)) { s with heap := h' })
  (h2 : ∀ h', (k = l1.length \/ k = l2.length) -> ZSt S env outer Y names g1 s1 σ m z TI TO i1 i2 { s with heap := h' } g -> Q none { s with heap := h' }) : wpAny S.M A (pyNext (.ref z)) Q Ev s := by
 have hT : s.TypeIs (.ref z) "zip" := ⟨_, za.z, rfl⟩
 obtain ⟨zz, zti, ⟨ta, tb, zto⟩, zi1, zi2⟩ := za
 have bz : z = z \/ z = TI \/ z = TO \/ z = i1 \/ z = i2 := .inl rfl
 have bo : TO = z \/ TO = TI \/ TO = TO \/ TO = i1 \/ TO = i2 := .inr (.inr (.inl rfl))
 have b1 : i1 = z \/ i1 = TI \/ i1 = TO \/ i1 = i1 \/ i1 = i2 := .inr (.inr (.inr (.inl rfl)))
 have b2 : i2 = z \/ i2 = TI \/ i2 = TO \/ i2 = i1 \/ i2 = i2 := .inr (.inr (.inr (.inr rfl)))
 unfold pyNext
 suffices H : ∀ Q' : Value -> Shared -> Prop, (∀ v s', Q' v s' = Q (some v) s') -> wpAny S.M A.in1 (Builtin.«zip.__next__» ⟨[.ref z], []⟩) (fun fin s' => ∃ v, fin = .done (.ret v) /\ Q' v s') (fun e s' => ∃ a h', e = .ref a /\ s' = { s with heap := h' } /\ (∃ o, h'.get? a = some o /\ o.cls = .type "StopIteration") /\ Q none s') s by
  refine wpAny_bind (wpAny_attempt (wpAny_callSpecial?_slot (name := Str.ofString "__next__") hT F.slot_zip_next
   (wpAny_mono (wpAny_call_entry F.slot_zip_next hT F.entry_zip_next (H _ fun _ _ => rfl) (F.args_zip_next_1 _)) (fun v s' hv => wpAny_pure hv) fun e s' he => ?_)))
  obtain ⟨a, h', rfl, rfl, ⟨o, ho, hc⟩, hq⟩ := he
  refine wpAny_bind (wpAny_isInstance (T := "StopIteration") (b := true) ⟨o, ho, hc⟩ isSubtype_stop ?_)
  exact wpAny_pure hq
 intro Q' hQ'
 show wpAny _ _ (field (.ref z) 2 >>= _) _ _ _
 refine wpAny_bind (wpAny_field zz rfl (x := .bool false) rfl ?_)
 show wpAny _ _ (field (.ref z) 3 >>= _) _ _ _
 refine wpAny_bind (wpAny_field zz rfl (x := .ref TI) rfl ?_)
 refine wpAny_bind (wpAny_seqItems zti rfl ?_)
 show wpAny _ _ (Builtin.SmallTypes.ownedTupleIsFree (.ref z) >>= _) _ _ _
 refine wpAny_bind ?_
 unfold Builtin.SmallTypes.ownedTupleIsFree
 refine wpAny_bind (wpAny_field zz rfl (x := .none) rfl (wpAny_pure ?_))
 simp only [if_true]
 refine wpAny_bind (wpAny_rule ?_)
 refine wpAny_bind (wpAny_field zz rfl (x := .ref TO) rfl ?_)
 refine wpAny_bind (wpAny_setField_rec zz (by simp) fun h₁ hz₁ hs₁ => ?_)
 replace hz₁ : IsZip h₁ z TI TO .ellipsis := hz₁
 have q1 := Z.own bz hs₁.extBut
 have k1 : ∀ c, c ≠ z -> ∀ o, s.heap.get? c = some o -> h₁.get? c = some o := fun c n o e => hs₁.extBut c o n e
 refine wpAny_bind ?_
 simp only [List.zipIdx_cons, List.zipIdx_nil, List.forIn_cons, List.forIn_nil]
 refine wpAny_bind (wpAny_bind (wpAny_onRaise ?_))
 show wpAny _ _ (nx (.ref i1) >>= _) _ _ _
 refine wpAny_bind (zmi (s := { s with heap := h₁ }) hn q1.1.i (r1.mono q1.2) n1 e1 (zi1.at fun o e => k1 _ D.z1.symm o e) hk1 (fun w1 d1 h₂ qa p1 hs₂ it1 => ?_) fun h₂ e q hs₂ he => ?_)
 ·have q2 := q1.1.own (h' := h₂) b1 hs₂.extBut
  have k2 : ∀ c, c ≠ i1 -> ∀ o, h₁.get? c = some o -> h₂.get? c = some o := fun c n o e => hs₂.extBut c o n e
  have hTO₂ : IsPair h₂ TO ta tb := k2 _ D.to1 _ (k1 _ D.zTO.symm _ zto)
  refine wpAny_pure (wpAny_bind (wpAny_seqItems hTO₂ rfl ?_))
  refine wpAny_bind (wpAny_updateSeq_pair hTO₂ fun h₃ hTO₃ hs₃ => ?_)
  replace hTO₃ : IsPair h₃ TO w1 tb := hTO₃
  have q3 := q2.1.own (h' := h₃) bo hs₃.extBut
  have k3 : ∀ c, c ≠ TO -> ∀ o, h₂.get? c = some o -> h₃.get? c = some o := fun c n o e => hs₃.extBut c o n e
  refine wpAny_bind (wpAny_letGo (wpAny_pure ?_))
  refine wpAny_bind (wpAny_bind (wpAny_onRaise ?_))
  show wpAny _ _ (nx (.ref i2) >>= _) _ _ _
  have hz₃ : IsZip h₃ z TI TO .ellipsis := k3 _ D.zTO _ (k2 _ D.z1 _ hz₁)
  refine wpAny_bind (zmi (s := { s with heap := h₃ }) hn q3.1.i (((r2.mono q1.2).mono q2.2).mono q3.2) n2 e2 (zi2.at fun o e => k3 _ D.to2.symm o (k2 _ D.ii.symm o (k1 _ D.z2.symm o e))) hk2 (fun w2 d2 h₄ qb p2 hs₄ it2 => ?_) fun h₄ e q hs₄ he => ?_)
  ·have q4 := q3.1.own (h' := h₄) b2 hs₄.extBut
   have k4 : ∀ c, c ≠ i2 -> ∀ o, h₃.get? c = some o -> h₄.get? c = some o := fun c n o e => hs₄.extBut c o n e
   have hTO₄ : IsPair h₄ TO w1 tb := k4 _ D.to2 _ hTO₃
   refine wpAny_pure (wpAny_bind (wpAny_seqItems hTO₄ rfl ?_))
   refine wpAny_bind (wpAny_updateSeq_pair hTO₄ fun h₅ hTO₅ hs₅ => ?_)
   replace hTO₅ : IsPair h₅ TO w1 w2 := hTO₅
   have q5 := q4.1.own (h' := h₅) bo hs₅.extBut
   have k5 : ∀ c, c ≠ TO -> ∀ o, h₄.get? c = some o -> h₅.get? c = some o := fun c n o e => hs₅.extBut c o n e
   refine wpAny_bind (wpAny_letGo (wpAny_pure (wpAny_pure ?_)))
   refine wpAny_bind (wpAny_seqItems hTO₅ rfl ?_)
   refine wpAny_bind (wpAny_newTuple ?_)
   have hz₅ : IsZip h₅ z TI TO .ellipsis := k5 _ D.zTO _ (k4 _ D.z2 _ hz₃)
   have ti₅ : IsPair h₅ TI (.ref i1) (.ref i2) := k5 _ D.tt _ (k4 _ D.ti2 _ (k3 _ D.tt _ (k2 _ D.ti1 _ (k1 _ D.zTI.symm _ zti))))
   have it1₅ : ItAt h₅ i1 va x (k + 1) := it1.at fun o e => k5 _ D.to1.symm o (k4 _ D.ii o (k3 _ D.to1.symm o e))
   have it2₅ : ItAt h₅ i2 vb y (k + 1) := it2.at fun o e => k5 _ D.to2.symm o e
   have old : ∀ b, b = z \/ b = TI \/ b = TO \/ b = i1 \/ b = i2 -> b ≠ h₅.objs.size := by
    intro b hb h
    rcases hb with e | e | e | e | e
    ·exact Nat.ne_of_lt (Heap.lt_size hz₅) (e.symm.trans h)
    ·exact Nat.ne_of_lt (Heap.lt_size ti₅) (e.symm.trans h)
    ·exact Nat.ne_of_lt (Heap.lt_size hTO₅) (e.symm.trans h)
    ·obtain ⟨o, _, _, q, _, _, _⟩ := it1₅.has; exact Nat.ne_of_lt (Heap.lt_size q) (e.symm.trans h)
    ·obtain ⟨o, _, _, q, _, _, _⟩ := it2₅.has; exact Nat.ne_of_lt (Heap.lt_size q) (e.symm.trans h)
   have q6 := q5.1.new (o := { cls := .type "tuple", data := .seq #[w1, w2] }) rfl old
   show wpAny _ _ (Builtin.SmallTypes.ownedTupleHandOut (.ref z) (.ref h₅.objs.size) >>= _) _ _ _
   refine wpAny_bind ?_
   unfold Builtin.SmallTypes.ownedTupleHandOut
   have k6 : ∀ c o, h₅.get? c = some o -> (h₅.push { cls := .type "tuple", data := .seq #[w1, w2] }).get? c = some o := fun c o e => Heap.get?_push_of_some _ e
   have hz₆ : IsZip (h₅.push { cls := .type "tuple", data := .seq #[w1, w2] }) z TI TO .ellipsis := k6 _ _ hz₅
   have tT : (h₅.push { cls := .type "tuple", data := .seq #[w1, w2] }).get? h₅.objs.size = some { cls := .type "tuple", data := .seq #[w1, w2] } := Heap.get?_push_size _ rfl
   refine wpAny_bind (wpAny_setField_rec hz₆ (by simp) fun h₇ hz₇ hs₇ => ?_)
   replace hz₇ : IsZip h₇ z TI TO (rawInt h₅.objs.size) := hz₇
   have q7 := q6.1.own (h' := h₇) bz hs₇.extBut
   refine wpAny_setField_rec hz₇ (by simp) fun h₈ hz₈ hs₈ => ?_
   replace hz₈ : IsZip h₈ z TI TO (rawInt h₅.objs.size) := hz₈
   have q8 := q7.1.own (h' := h₈) bz hs₈.extBut
   have k8 : ∀ c, c ≠ z -> ∀ o, h₅.get? c = some o -> h₈.get? c = some o := fun c n o e => hs₈.extBut c o n (hs₇.extBut c o n (k6 c o e))
   refine wpAny_pure ⟨_, rfl, ?_⟩
   show Q' (.ref h₅.objs.size) _
   rw [hQ']
   have nT : h₅.objs.size ≠ z := (old z bz).symm
   have pv1 := (((p1.mono q2.2.fz).mono q3.2.fz).mono q4.2.fz).mono q5.2.fz
   have pv2 := (p2.mono q4.2.fz).mono q5.2.fz
   have UU := (((((q1.2.trans q2.2).trans q3.2).trans q4.2).trans q5.2).trans q6.2).trans (q7.2.trans q8.2)
   refine h1 h₅.objs.size d1 d2 h₈ _ qa qb q8.1 UU ?_ ⟨hz₈, k8 _ D.zTI.symm _ ti₅, ⟨w1, w2, k8 _ D.zTO.symm _ hTO₅⟩, it1₅.at fun o e => k8 _ D.z1.symm o e, it2₅.at fun o e => k8 _ D.z2.symm o e⟩
   exact .tuple (if_pos rfl) (hs₈.extBut _ _ nT (hs₇.extBut _ _ nT tT)) rfl rfl (.cons (((pv1.mono q6.2.fz).mono q7.2.fz).mono q8.2.fz) (.cons (((pv2.mono q6.2.fz).mono q7.2.fz).mono q8.2.fz) .nil))
  ·have q4 := q3.1.own (h' := h₄) b2 hs₄
   obtain ⟨oe, hoe, hce⟩ := he
   have hz₄ : IsZip h₄ z TI TO .ellipsis := hs₄ _ _ D.z2 hz₃
   have hez : e ≠ z := fun q => by subst q; rw [hz₄] at hoe; cases hoe; simp at hce
   refine wpAny_setField_rec hz₄ (by simp) fun h₅ _ hs₅ => ⟨e, h₅, rfl, rfl, ⟨oe, hs₅.extBut _ _ hez hoe, hce⟩, h2 h₅ (.inr q) (q4.1.own (h' := h₅) bz hs₅.extBut).1⟩
 ·have q2 := q1.1.own (h' := h₂) b1 hs₂
  obtain ⟨oe, hoe, hce⟩ := he
  have hz₂ : IsZip h₂ z TI TO .ellipsis := hs₂ _ _ D.z1 hz₁
  have hez : e ≠ z := fun q => by subst q; rw [hz₂] at hoe; cases hoe; simp at hce
  refine wpAny_setField_rec hz₂ (by simp) fun h₃ _ hs₃ => ⟨e, h₃, rfl, rfl, ⟨oe, hs₃.extBut _ _ hez hoe, hce⟩, h2 h₃ (.inl q) (q2.1.own (h' := h₃) bz hs₃.extBut).1⟩
end
noncomputable def LorT (h : Heap) (t : Bool) (a : Addr) (xs : Array Value) : Prop := match t with | true => IsTup h a xs | false => h.IsList a xs
noncomputable def zeP (t : Bool) (a : Addr) : Obj := match t with | true => { cls := .type "tuple_iterator", data := .fields #[.ref a, .int 0 0] } | false => { cls := .type "list_iterator", data := .fields #[.ref a, .int 0 0] }
theorem zhc {prog : Program} {w : World} {A : Around} {E : Value -> Shared -> Prop} {s : Shared} {t : Bool} {a : Addr} {xs : Array Value} {Q : Value -> Shared -> Prop} (hl : LorT s.heap t a xs) (h : Q (.ref s.heap.objs.size) { s with heap := s.heap.push (zeP t a) }) : wpAny (model prog w) A (pyIter (.ref a)) Q E s := by
 cases t with
 | true => exact iter_tuple hl h
 | false => exact wpAny_pyIter_list hl h
theorem LorT.push {h : Heap} {t : Bool} {a : Addr} {xs : Array Value} (hl : LorT h t a xs) (o : Obj) : LorT (h.push o) t a xs := by
 cases t with
 | true => obtain ⟨ob, e, r⟩ := hl; exact ⟨ob, Heap.get?_push_of_some o e, r⟩
 | false => exact Heap.IsList.push hl o
noncomputable abbrev zH1 (h : Heap) (t1 : Bool) (l1 : Addr) : Heap := h.push (zeP t1 l1)
noncomputable abbrev zH2 (h : Heap) (t1 t2 : Bool) (l1 l2 : Addr) : Heap := (zH1 h t1 l1).push (zeP t2 l2)
noncomputable abbrev zH3 (h : Heap) (t1 t2 : Bool) (l1 l2 : Addr) : Heap := (zH2 h t1 t2 l1 l2).push { cls := .type "tuple", data := .seq #[.ref h.objs.size, .ref (zH1 h t1 l1).objs.size] }
noncomputable abbrev zH4 (h : Heap) (t1 t2 : Bool) (l1 l2 : Addr) : Heap := (zH3 h t1 t2 l1 l2).push { cls := .type "tuple", data := .seq #[.none, .none] }
noncomputable abbrev zH5 (h : Heap) (t1 t2 : Bool) (l1 l2 : Addr) : Heap := (zH4 h t1 t2 l1 l2).push { cls := .type "zip", data := .fields #[.none, .bool false, .bool false, .ref (zH2 h t1 t2 l1 l2).objs.size, .ref (zH3 h t1 t2 l1 l2).objs.size] }
theorem zg5 (t1 t2 : Bool) (l1 l2 : Addr) (xs ys : Array Value) :
  Meets (Builtin.«zip.__new__» ⟨[.type "zip", .ref l1, .ref l2], []⟩) (fun _ R s => LorT s.heap t1 l1 xs /\ LorT s.heap t2 l2 ys /\
   R (.ok (.ret (.ref (zH4 s.heap t1 t2 l1 l2).objs.size))) { s with heap := zH5 s.heap t1 t2 l1 l2 }) :=
 .of_wp fun prog w A R s h => by
  obtain ⟨hp, g, d, tk, os⟩ := s; obtain ⟨hl1, hl2, h⟩ := h
  have hsub := sub_zip
  have hL1 : LorT (Shared.heap ⟨hp, g, d, tk, os⟩) t1 l1 xs := hl1
  have hL2 : LorT (Shared.heap ⟨hp.push (zeP t1 l1), g, d, tk, os⟩) t2 l2 ys := LorT.push hl2 _
  wp_walk using zhc hL1, zhc hL2
  exact ⟨_, rfl, h⟩
section
variable {S : Sta} {fr : List Env} {A : Around} {g : Gh} {σ : Hp} {s : Shared} {Ev : Value -> Shared -> Prop}
theorem zmv {x : V} {l : List PyData} {v : Value} (I : Inv S fr g σ s.heap) (r : VR S s.heap g v x) (n : zcg x = true) (e : zac σ x = some l) :
  ∃ t a xs, v = .ref a /\ LorT s.heap t a xs /\ ∀ (h' : Heap) it, h'.get? it = some (zeP t a) -> ItAt h' it v x 0 := by
 refine zcz e (fun q e => ?_) (fun q => ?_) fun lo hi q _ _ => by rw [q] at n; cases n
 ·obtain ⟨a, vs, rfl, hl, p⟩ := r.isList I e
  exact ⟨false, a, vs, rfl, hl, fun h' it z => .l a q rfl ⟨_, z, rfl, rfl⟩⟩
 ·obtain ⟨a, vs, rfl, hl, p⟩ := (q ▸ r).isTup (σ := σ) rfl
  exact ⟨true, a, vs, rfl, hl, fun h' it z => .t a l q rfl ⟨_, z, rfl, rfl⟩⟩
theorem zh9 {x y : V} {l1 l2 : List PyData} {va vb : Value} {Q : Value -> Shared -> Prop} (I : Inv S fr g σ s.heap) (r1 : VR S s.heap g va x) (r2 : VR S s.heap g vb y) (n1 : zcg x = true) (n2 : zcg y = true) (e1 : zac σ x = some l1) (e2 : zac σ y = some l2)
  (hQ : ∀ h', ZAt h' (s.heap.objs.size + 4) (s.heap.objs.size + 2) (s.heap.objs.size + 3) s.heap.objs.size (s.heap.objs.size + 1) .none va x vb y 0 0 -> (∀ c o, s.heap.get? c = some o -> h'.get? c = some o) -> Q (.ref (s.heap.objs.size + 4)) { s with heap := h' }) :
  wpAny S.M A (call (.type "zip") [va, vb]) Q Ev s := by
 obtain ⟨t1, a1, xs, rfl, L1, B1⟩ := zmv I r1 n1 e1
 obtain ⟨t2, a2, ys, rfl, L2, B2⟩ := zmv I r2 n2 e2
 refine callType_new F.called_zip (by decide) (F.typeCall_zip_2 _ _) (F.newCall_zip_2 _ _) (fun obj => F.args_object_init_3 obj _ _) F.entry_zip_new (zg5 t1 t2 a1 a2 xs ys) ⟨L1, L2, ?_⟩
 have f1 : (zeP t1 a1).isFreed = false := by cases t1 <;> rfl
 have f2 : (zeP t2 a2).isFreed = false := by cases t2 <;> rfl
 have z1 : (zH1 s.heap t1 a1).objs.size = s.heap.objs.size + 1 := Heap.size_push ..
 have z2 : (zH2 s.heap t1 t2 a1 a2).objs.size = s.heap.objs.size + 2 := by rw [Heap.size_push, z1]
 have z3 : (zH3 s.heap t1 t2 a1 a2).objs.size = s.heap.objs.size + 3 := by rw [Heap.size_push, z2]
 have z4 : (zH4 s.heap t1 t2 a1 a2).objs.size = s.heap.objs.size + 4 := by rw [Heap.size_push, z3]
 have g5 : (zH5 s.heap t1 t2 a1 a2).get? (zH4 s.heap t1 t2 a1 a2).objs.size = some _ := Heap.get?_push_size _ rfl
 have g4 : (zH5 s.heap t1 t2 a1 a2).get? (zH3 s.heap t1 t2 a1 a2).objs.size = some _ := Heap.get?_push_of_some _ (Heap.get?_push_size _ rfl)
 have g3 : (zH5 s.heap t1 t2 a1 a2).get? (zH2 s.heap t1 t2 a1 a2).objs.size = some _ := Heap.get?_push_of_some _ (Heap.get?_push_of_some _ (Heap.get?_push_size _ rfl))
 have g2 : (zH5 s.heap t1 t2 a1 a2).get? (zH1 s.heap t1 a1).objs.size = some _ := Heap.get?_push_of_some _ (Heap.get?_push_of_some _ (Heap.get?_push_of_some _ (Heap.get?_push_size _ f2)))
 have g1 : (zH5 s.heap t1 t2 a1 a2).get? s.heap.objs.size = some _ := Heap.get?_push_of_some _ (Heap.get?_push_of_some _ (Heap.get?_push_of_some _ (Heap.get?_push_of_some _ (Heap.get?_push_size _ f1))))
 show _ /\ _
 rw [z2, z3, z4] at g5
 rw [z1, z2] at g3
 rw [z3] at g4
 rw [z1] at g2
 rw [z4]
 exact ⟨⟨_, g5, rfl⟩, hQ _ ⟨g5, g3, ⟨_, _, g4⟩, B1 _ _ g1, B2 _ _ g2⟩ fun c o x => Heap.get?_push_of_some _ (Heap.get?_push_of_some _ (Heap.get?_push_of_some _ (Heap.get?_push_of_some _ (Heap.get?_push_of_some _ x))))⟩
end
section
variable {S : Sta} {G : zaa} {nd : Nat} {A : Around} {env : Env} {outer : List Env} {L : Addr} {Y : Addr -> Prop} {names : Names} {lam : Bool} {g1 g : Gh} {s1 s : Shared} {σ : Hp} {m : Fm} {z TI TO i1 i2 : Addr} {va vb : Value} {x y : V}
theorem ZAt.at {h h' : Heap} {f0 : Value} {k1 k2 : Nat} (za : ZAt h z TI TO i1 i2 f0 va x vb y k1 k2) (kp : ∀ b, b = z \/ b = TI \/ b = TO \/ b = i1 \/ b = i2 -> ∀ o, h.get? b = some o -> h'.get? b = some o) : ZAt h' z TI TO i1 i2 f0 va x vb y k1 k2 := by
 obtain ⟨a, b, ⟨u, v, c⟩, d, e⟩ := za
 exact ⟨kp _ (.inl rfl) _ a, kp _ (.inr (.inl rfl)) _ b, ⟨u, v, kp _ (.inr (.inr (.inl rfl))) _ c⟩, d.at (kp _ (.inr (.inr (.inr (.inl rfl))))), e.at (kp _ (.inr (.inr (.inr (.inr rfl)))))⟩
theorem ZAt.got {h : Heap} {f0 : Value} {k1 k2 : Nat} (za : ZAt h z TI TO i1 i2 f0 va x vb y k1 k2) : ∀ b, b = z \/ b = TI \/ b = TO \/ b = i1 \/ b = i2 -> ∃ o, h.get? b = some o := by
 obtain ⟨a, b, ⟨u, v, c⟩, d, e⟩ := za
 intro q hq
 rcases hq with r | r | r | r | r
 ·exact ⟨_, r ▸ a⟩
 ·exact ⟨_, r ▸ b⟩
 ·exact ⟨_, r ▸ c⟩
 ·obtain ⟨o, _, _, w, _, _, _⟩ := d.has; exact ⟨o, r ▸ w⟩
 ·obtain ⟨o, _, _, w, _, _, _⟩ := e.has; exact ⟨o, r ▸ w⟩
theorem zi4 {f0 : Value} {k : Nat} {cx : Cx} (a : Act S cx A env env outer L nd false) (nm : env.scope.names = names) :
  Sto S A g names env (fun m s => ZSt S env outer Y names g1 s1 σ m z TI TO i1 i2 s g /\ ZAt s.heap z TI TO i1 i2 f0 va x vb y k k) := by
 refine ⟨a.hn rfl, fun w i kd v d m s Q Ev hi hkd hlt p r hQ => ?_, fun m s h' p eb => ?_⟩
 ·obtain ⟨Z, za⟩ := p
  refine store a.kf Z.v Z.i hi hkd (.v (.pd r)) fun h' tk I' E' V' same => ?_
  exact hQ _ ⟨⟨Z.e.trans E', I', V', ⟨Z.r.1, Z.r.2.1, Z.r.2.2⟩, Z.ks⟩, za.at fun b hb o e => (same _ (Z.ks b hb).1).trans e⟩ E'.fz
 ·obtain ⟨Z, za⟩ := p
  obtain ⟨I2, E2⟩ := Z.i.keeps (zbg eb)
  exact ⟨⟨Z.e.trans E2.no, I2, Z.v.mono E2, ⟨Z.r.1, Z.r.2.1, Z.r.2.2⟩, Z.ks⟩, za.at fun b hb o e => zbg eb _ o e⟩
end
section
variable {S : Sta} {G : zaa} {nd : Nat} {names : Names} {lam : Bool}
theorem zjW {l1 l2 : List PyData} {k : Nat} {d1 d2 : PyData} (h1 : l1[k]? = some d1) (h2 : l2[k]? = some d2) : (zipT l1 l2).drop k = .tuple [d1, d2] :: (zipT l1 l2).drop (k + 1) := by
 have hk : (zipT l1 l2)[k]? = some (.tuple [d1, d2]) := by
  unfold zipT
  rw [List.getElem?_map, (List.getElem?_zip_eq_some (z := (d1, d2))).mpr ⟨h1, h2⟩]; rfl
 obtain ⟨hlt, hv⟩ := List.getElem?_eq_some_iff.mp hk
 rw [List.drop_eq_getElem_cons hlt, hv]
inductive ZMade (S : Sta) (env : Env) (outer : List Env) (g : Gh) (s : Shared) (F : V -> V -> List PyData -> Hp -> Prop) (v : Value) (s' : Shared) : Prop
 | mk (x y : V) (l1 l2 : List PyData) (σ1 : Hp) (g1 : Gh) (s1 : Shared) (va vb : Value) (h' : Heap) (q1 : zac σ1 x = some l1) (q2 : zac σ1 y = some l2) (n1 : zcg x = true) (n2 : zcg y = true) (f : F x y (zipT l1 l2) σ1) (e : Ext No g g1 s.heap s1.heap) (i : Inv S (env :: outer) g1 σ1 s1.heap)
  (ra : VR S s1.heap g1 va x) (rb : VR S s1.heap g1 vb y) (z : Rest s s1) (ev : v = .ref (s1.heap.objs.size + 4)) (es : s' = { s1 with heap := h' })
  (za : ZAt h' (s1.heap.objs.size + 4) (s1.heap.objs.size + 2) (s1.heap.objs.size + 3) s1.heap.objs.size (s1.heap.objs.size + 1) .none va x vb y 0 0) (kp : ∀ c o, s1.heap.get? c = some o -> h'.get? c = some o)
inductive ZLI (S : Sta) (env : Env) (outer : List Env) (Y : Addr -> Prop) (names : Names) (g1 : Gh) (s1 : Shared) (N : Addr) (va vb : Value) (x y : V) (l1 l2 : List PyData) (F : List PyData -> Fm -> Hp -> Prop) (n : Nat) (s : Shared) : Prop
 | mk (k : Nat) (g : Gh) (σ : Hp) (m : Fm) (hn : n = l1.length + 1 - k) (k1 : k <= l1.length) (k2 : k <= l2.length) (Z : ZSt S env outer Y names g1 s1 σ m (N + 4) (N + 2) (N + 3) N (N + 1) s g) (za : ZAt s.heap (N + 4) (N + 2) (N + 3) N (N + 1) .none va x vb y k k) (w1 : zac σ x = some l1) (w2 : zac σ y = some l2) (h : F ((zipT l1 l2).drop k) m σ)
theorem ndist (N : Nat) : ZDist (N + 4) (N + 2) (N + 3) N (N + 1) := by
 constructor <;> (first | exact Nat.ne_of_gt (by omega) | exact Nat.ne_of_lt (by omega))
theorem zjX {l1 l2 : List PyData} {k : Nat} (h : k = l1.length \/ k = l2.length) : (zipT l1 l2).drop k = [] := by
 rw [List.drop_eq_nil_iff]
 unfold zipT
 rw [List.length_map, List.length_zip]
 omega
theorem zlX (ok : StaOk3 S) {ts as : List PySem.Expr} {k : Nat} {tp q p pos : Pos} {b : List Stmt} {t : Tg} {xs : List X} {xb : List Mine.Lake.S} (h2 : as.length = 2) (hg : nmOf (S.at names none lam) (Str.ofString "zip") = some .g) (htg : TgOk S names (.Tuple ts k tp) t)
  (hs : as.all (fun e => !zap e) = true) (hx : zbF S G nd false (S.at names none lam) as xs) (hb : zcO S G nd false names lam b xb) :
  SndS S G nd false names lam (.For (.Tuple ts k tp) (.Call (.Name (Str.ofString "zip") q) as [] p) b [] pos) (.forz t xs xb) := by
 intro A env outer L Y m σ g s K E a nf I V h
 replace h := zhM h
 rw [arm_exec_For]
 refine wpAny_bind (wpAny_standAt (wpAny_bind ?_))
 rw [arm_eval_Call_Name']
 refine wpAny_bind (zaT (v := .type "zip") a ok.toStaOk I.stays hg (ok.free _ (by decide +kernel)) ((ok.builtins _ (by decide)).trans (by decide +kernel)) ?_)
 refine wpAny_mono (zaD (Q := ZMade S env outer g s fun x y l σ1 => forN (fun d m' σ' k => need (tgFm m' t d) fun m'' => evSs G S.gc xb m'' σ' k E) (fun σ' k => still σ1 σ' x (still σ1 σ' y k)) K l m σ1) (P := fun _ => True)
  hs hx a I (V.rd nf) (zaR (by nofun)) h (by rintro rfl; cases h2) fun vs ds σ1 g1 s1 h1 e1 i1 r1 z1 => ⟨trivial, ?_⟩) (fun v s' hv => ?_) fun _ _ q => q.no
 ·refine zia r1 h1 fun va vb x y ev ra rb h1 => zaj (zat h1).2 fun l1 q1 h2 => zaj h2 fun l2 q2 h2 => ?_
  rw [ev]
  replace h1 := zat h1
  exact zh9 i1 ra rb h1.1.1 h1.1.2 q1 q2 fun h' za kp => ⟨x, y, l1, l2, σ1, g1, s1, va, vb, h', q1, q2, h1.1.1, h1.1.2, h2, e1, i1, ra, rb, z1, rfl, rfl, za, kp⟩
 ·obtain ⟨x, y, l1, l2, σ1, g1, s1, va, vb, h', q1, q2, n1, n2, hF, e1, i1, ra, rb, z1, rfl, rfl, za, kp⟩ := hv
  have v1 := V.mono e1
  have hf : foldedSetIterable (.Call (.Name (Str.ofString "zip") q) as [] p) env (.ref (s1.heap.objs.size + 4)) = pure (.ref (s1.heap.objs.size + 4)) := rfl
  rw [hf]
  refine wpAny_bind (wpAny_pure (wpAny_bind (wpAny_standAt (wpAny_bind (wpAny_holding (wpAny_pyIter_zip za.z ?_))))))
  obtain ⟨I2, E2⟩ := i1.keeps kp
  generalize hn : s1.heap.objs.size = N at za ⊢
  have D := ndist N
  have none : ∀ b, b = N + 4 \/ b = N + 2 \/ b = N + 3 \/ b = N \/ b = N + 1 -> s1.heap.get? b = none := fun b hb => Heap.get?_none_of_le (by rw [hn]; rcases hb with rfl | rfl | rfl | rfl | rfl <;> first | exact Nat.le_refl _ | exact Nat.le_add_right _ _)
  have Z0 : ZSt S env outer Y names g1 s1 σ1 m (N + 4) (N + 2) (N + 3) N (N + 1) { s1 with heap := h' } g1 :=
   ⟨E2.no, I2, v1.mono E2, ⟨rfl, rfl, rfl⟩, fun b hb => ⟨i1.ot _ (none b hb), none b hb, fun ya => by obtain ⟨o, e, _⟩ := v1.yH _ ya; rw [none b hb] at e; cases e⟩⟩
  refine wpAny_runOwn (codeAny_forLoop_any (ZLI S env outer Y names g1 s1 N va vb x y l1 l2 (forN (fun d m' σ' k => need (tgFm m' t d) fun m'' => evSs G S.gc xb m'' σ' k E) (fun σ' k => still σ1 σ' x (still σ1 σ' y k)) K)) (fun n s2 hI => ?_) _ ⟨0, g1, σ1, m, rfl, Nat.zero_le _, Nat.zero_le _, Z0, za, q1, q2, hF⟩)
  obtain ⟨k, g2, σ2, m2, hn2, hk1, hk2, Z2, za2, w1, w2, hF⟩ := hI
  refine zh8 (a.hn rfl) D Z2 za2 (ra.mono Z2.e.up) (rb.mono Z2.e.up) n1 n2 w1 w2 hk1 hk2 (fun T d1 d2 h3 g3 p1 p2 Z3 U3 pT za3 => ?_) fun h3 hend Z3 => ?_
  ·rw [zjW p1 p2] at hF
   refine zaj hF fun m3 hm3 hF => wpAny_letOwnedTupleGo_zip za3.z fun h4 hz4 sb => ?_
   obtain ⟨Z4, U4⟩ := Z3.own (h' := h4) (.inl rfl) sb.extBut
   have za4 : ZAt h4 (N + 4) (N + 2) (N + 3) N (N + 1) .none va x vb y (k + 1) (k + 1) := by
    obtain ⟨_, c2, ⟨u, w, c3⟩, c4, c5⟩ := za3
    exact ⟨hz4, sb.extBut _ _ D.zTI.symm c2, ⟨u, w, sb.extBut _ _ D.zTO.symm c3⟩, c4.at fun o e => sb.extBut _ o D.z1.symm e, c5.at fun o e => sb.extBut _ o D.z2.symm e⟩
   refine htg (zi4 (f0 := .none) (g1 := g1) (s1 := s1) (Y := Y) (outer := outer) (σ := σ2) (va := va) (vb := vb) (x := x) (y := y) (z := N + 4) (TI := N + 2) (TO := N + 3) (i1 := N) (i2 := N + 1) (k := k + 1) a Z4.v.nm) (.ref T) (.tuple [d1, d2]) m2 m3 _ _ _ hm3 ⟨Z4, za4⟩ (pT.mono U4.fz) fun s4 p4 fz => ?_
   obtain ⟨Z5, za5⟩ := p4
   refine wpAny_mono (hb A env outer L Y m3 σ2 g3 s4 _ E a nf Z5.i Z5.v hF) (fun fl s5 hr => ?_) fun _ _ q => zjO a (q.trans (e1.no.trans Z5.e) (z1.trans Z5.r))
   obtain ⟨f, m5, σ5, g5, h5, e5, i5, v5, r5, z5⟩ := hr
   have EE := Z5.e.trans e5
   have ZZ := Z5.r.trans z5
   have Z6 : ZSt S env outer Y names g1 s1 σ5 m5 (N + 4) (N + 2) (N + 3) N (N + 1) s5 g5 := ⟨EE, i5, v5, ZZ, fun c hc => by obtain ⟨o, ho⟩ := za5.got c hc; exact ⟨(e5.kind _ _ ho).trans (Z5.ks c hc).1, (Z5.ks c hc).2⟩⟩
   have za6 : ZAt s5.heap (N + 4) (N + 2) (N + 3) N (N + 1) .none va x vb y (k + 1) (k + 1) := za5.at fun c hc o e => e5.keep _ o e (Z5.ks c hc).2.2 (by rw [(Z5.ks c hc).1]; decide) (by rw [(Z5.ks c hc).1]; decide) (by rw [(Z5.ks c hc).1]; decide) (by rw [(Z5.ks c hc).1]; decide)
   have hlt1 : k < l1.length := (List.getElem?_eq_some_iff.mp p1).1
   have hlt2 : k < l2.length := (List.getElem?_eq_some_iff.mp p2).1
   cases fl <;> cases f <;> first
    | exact r5.elim
    | exact ⟨_, hn2 ▸ less hlt1, k + 1, g5, σ5, m5, rfl, hlt1, hlt2, Z6, za6, (zal h5).1.trans q1, (zal (zal h5).2).1.trans q2, (zal (zal h5).2).2⟩
    | exact ⟨_, m5, σ5, g5, h5, e1.no.trans EE, i5, v5, r5, z1.trans ZZ⟩
  ·rw [zjX hend] at hF
   exact wpAny_execs_nil ⟨.next, m2, σ2, g2, hF, e1.no.trans Z3.e, Z3.i, Z3.v, trivial, z1.trans Z3.r⟩
end
set_option backward.match.sparseCases false
noncomputable def znp (s : Stmt) : Option {p : PySem.Expr × Pos // s = .Return (some p.1) p.2} := match s with
 | .Return e p => match e with
  | some e => some ⟨(e, p), rfl⟩
  | none => none
 | _ => none
noncomputable def znr (s : Stmt) : Option {p : PySem.Expr × PySem.Expr × Pos // s = .Assign [p.1] p.2.1 p.2.2} := match s with
 | .Assign ts e p => bnd (one? ts) fun t ht => some ⟨(t, e, p), ht ▸ rfl⟩
 | _ => none
section
variable {S : Sta} (ok : StaOk3 S) (k2 : KOk2 S)
noncomputable def simX (fn : Names) (lam : Bool) (e : PySem.Expr) : Option {x : X // ∀ nd, SndX S (zaM S.tab S.gc nd) nd true (S.at fn none lam) e x} := alt
 (bnd (zln e) fun p hp => opt (zhS p.1) fun x h => some ⟨x, hp ▸ fun _ => zdO h⟩)
 (bnd (zjV e) fun a ha => bnd (za1 a.1) fun q hq => opt (zcF a.2.1) fun b h1 => opt (nmOf (S.at fn none lam) q.1) fun m hm => match m, hm with
  | .v i, hi => some ⟨.fault i b, by rw [ha, hq]; exact fun _ => zdN (zeC ok.toStaOk ok.ko) hi h1⟩
  | _, _ => none)
noncomputable def zko (fn : Names) (lam : Bool) : ∀ es, Option {xs : List X // ∀ nd, zbF S (zaM S.tab S.gc nd) nd true (S.at fn none lam) es xs}
 | [] => some ⟨[], fun _ => zcq⟩
 | e :: r => chk (!zap e) fun hs => bnd (simX ok fn lam e) fun x hx => bnd (zko fn lam r) fun xs hr => some ⟨x :: xs, fun nd => zbp (hx nd) (hr nd) (zg1 hs)⟩
noncomputable def zoG (fn : Names) (lam : Bool) (b : Stmt) : Option {x : Mine.Lake.S // ∀ nd, zcO S (zaM S.tab S.gc nd) nd true fn lam [b] [x]} := alt
 (bnd (znp b) fun p hp => bnd (zh1 p.1) fun q hq => bnd (zko ok fn lam q.1) fun xs hx => some ⟨.ret (.tup xs), by rw [hp, hq]; exact fun nd => zde (zlW (zeE (hx nd))) zgr⟩)
 (bnd (znr b) fun p hp => bnd (za1 p.1) fun y hy => bnd (zh1 p.2.1) fun q hq => opt (zbx (S.at fn none lam) (.Name y.1 y.2)) fun i hi => bnd (zko ok fn lam q.1) fun xs hx =>
  some ⟨.asg i (.tup xs), by rw [hp, hy, hq]; exact fun nd => zde (zlZ (show (2 : Nat) ≠ 1 by decide) hi (zeE (hx nd))) zgr⟩)
noncomputable def zmz (x : Str) : Option {b : Bool // x = Str.ofString (if b then "LimitFault" else "EvalFault")} :=
 if h : x = Str.ofString "EvalFault" then some ⟨false, h⟩ else if h : x = Str.ofString "LimitFault" then some ⟨true, h⟩ else none
noncomputable def zlk (e : Option PySem.Expr) : Option {p : Str × Pos // e = some (.Name p.1 p.2)} := match e with
 | some e => bnd (za1 e) fun p hp => some ⟨p, by rw [hp]⟩
 | none => none
noncomputable def zll (e : Option PySem.Expr) : Option {p : PySem.Expr × List PySem.Expr × Pos // e = some (.Call p.1 p.2.1 [] p.2.2)} := match e with
 | some e => bnd (zjU e) fun p hp => some ⟨p, by rw [hp]⟩
 | none => none
noncomputable def hsOf (fn : Names) (lam : Bool) : ∀ hs, Option {xs : List (Bool × Option Nat × List Mine.Lake.S) // ∀ nd, HsOk S (zaM S.tab S.gc nd) nd fn lam hs xs}
 | [] => some ⟨[], fun _ => .nil⟩
 | .ExceptHandler t nm bs p :: r => bnd (hsOf fn lam r) fun xs hr => bnd (zlk t) fun y hy => bnd (one? bs) fun b hb => bnd (zmz y.1) fun lim hl => opt (nmOf (S.at fn none lam) y.1) fun m hm => chk (isG m) fun hg => bnd (zoG ok fn lam b) fun xb hx => match nm with
  | none => some ⟨(lim, none, [xb]) :: xs, by rw [hy, hb]; exact fun nd => .no hl (zd3 hg ▸ hm) (hx nd) (hr nd)⟩
  | some z => opt (zao fn z 0) fun k hk => match k, hk with
   | (i, .local), hk => some ⟨(lim, some i, [xb]) :: xs, by rw [hy, hb]; exact fun nd => .as hl (zd3 hg ▸ hm) hk (hx nd) (hr nd)⟩
   | _, _ => none
noncomputable abbrev FS (S : Sta) := ∀ (names : Names) (lam : Bool) (s : Stmt), Option {x : Mine.Lake.S // GS S names lam s x}
noncomputable def ssOf (f : FS S) (names : Names) (lam : Bool) : ∀ b, Option {xs : List Mine.Lake.S // GSs S names lam b xs}
 | [] => some ⟨[], fun _ _ => zgr⟩
 | s :: r => bnd (ssOf f names lam r) fun xs hr => alt (bnd (f names lam s) fun x hx => some ⟨x :: xs, fun nd y => zde (hx nd y) (hr nd y)⟩) (some ⟨.bad :: xs, fun nd y => zde znY (hr nd y)⟩)
noncomputable def tryE (fx : FX S) (names : Names) (lam : Bool) (s : Stmt) : Option {x : Mine.Lake.S // ∀ nd, Hy S nd -> SndE S (zaM S.tab S.gc nd) nd names lam s x} := alt
 (bnd (znp s) fun p hp => bnd (fx names none lam p.1) fun x hx => some ⟨.ret x, hp ▸ fun nd y => zoo (hx nd y).1⟩)
 (bnd (znr s) fun p hp => bnd (za1 p.1) fun q hq => chk (zaK p.2.1 != 1) fun hk => opt (zbx (S.at names none lam) (.Name q.1 q.2)) fun i hi => bnd (fx names none lam p.2.1) fun x hx => some ⟨.asg i x, by rw [hp, hq]; exact fun nd y => zop (zak hk) hi (hx nd y).1⟩)
noncomputable def asgX (fx : FX S) (names : Names) (lam : Bool) (t e : PySem.Expr) (p : Pos) : Option {x : Mine.Lake.S // GS S names lam (.Assign [t] e p) x} := alt
 (bnd (za1 t) fun q hq => opt (zbx (S.at names none lam) (.Name q.1 q.2)) fun i hi => alt
  (chk (zaK e != 1) fun hk => bnd (fx names none lam e) fun x hx => some ⟨.asg i x, hq ▸ fun nd y => zlZ (zak hk) hi (hx nd y).1⟩)
  (bnd (asLC e) fun c hc => bnd (lcOf fx names lam c.1 c.2.1 c.2.2.1 (ziZ S.cx c.2.2.2)) fun x h => some ⟨.asg i x, by rw [hq, hc]; exact fun nd y => zfV ok.toStaOk hi (h nd y)⟩))
 (alt (bnd (zh1 t) fun q hq => opt (zbR (S.at names none lam) q.1) fun l hl => alt
  (bnd (zh1 e) fun r hr => bnd (xsOf (fx names none lam) r.1) fun xs hx => chk (decide (l.length = r.1.length /\ l.Nodup /\ r.1.length <= 8 /\ r.1.all (constantsAlone 8) = false)) fun hh => some ⟨.asgs l xs, by
   rw [hq, hr]
   have hh := of_decide_eq_true hh
   exact fun nd y => zlY hl hh.1 hh.2.1 hh.2.2.1 hh.2.2.2 (hx nd y).xs⟩)
  (chk (zaK e != 2) fun h2 => chk (zaK e != 1) fun h1 => bnd (fx names none lam e) fun x hx => some ⟨.unp l x, hq ▸ fun nd y => znU (zak h2) (zak h1) hl (hx nd y).1⟩))
 (bnd (asSub t) fun q hq => chk (zaK e != 1) fun hk => bnd (fx names none lam q.1) fun o ho => bnd (fx names none lam q.2.1) fun k hk' => bnd (fx names none lam e) fun x hx => some ⟨.seti o k x, hq ▸ fun nd y => zlV ok.toStaOk (zak hk) (ho nd y).1 (hk' nd y).1 (hx nd y).1⟩))
noncomputable def znR (fx : FX S) (f : FS S) (names : Names) (lam : Bool) (s : Stmt) : Option {x : Mine.Lake.S // GS S names lam s x} := match s with
 | .Assign ts e p => bnd (one? ts) fun t ht => bnd (asgX ok fx names lam t e p) fun x hx => some ⟨x, ht ▸ hx⟩
 | .Expr e p => chk (zaK e != 1) fun hk => bnd (fx names none lam e) fun x hx => some ⟨.ex x, fun nd y => s_ex (zak hk) (hx nd y).1⟩
 | .Return e p => match e with
  | some e => bnd (fx names none lam e) fun x hx => some ⟨.ret x, fun nd y => zlW (hx nd y).1⟩
  | none => none
 | .If t a b p => bnd (fx names none lam t) fun x hx => bnd (ssOf f names lam a) fun xa ha => bnd (ssOf f names lam b) fun xb hb => some ⟨.ite x xa xb, fun nd y => znW (hx nd y).2 (ha nd y) (hb nd y)⟩
 | .For t it b e p => bnd (nil? e) fun _ h0 => bnd (tgX S names 9 t) fun tg htg => bnd (ssOf f names lam b) fun xb hb =>
  alt (bnd (zh1 t) fun q hq => bnd (zjU it) fun c hc => bnd (za1 c.1) fun z hz => chk (decide (z.1 = Str.ofString "zip" /\ c.2.1.length = 2)) fun hh => opt (nmOf (S.at names none lam) z.1) fun m hm => chk (isG m) fun hg => bnd (xsOf (fx names none lam) c.2.1) fun xs hx => some ⟨.forz tg xs xb, by
   have hh := of_decide_eq_true hh
   rw [zd3 hg, hh.1] at hm
   rw [hq] at htg
   rw [h0, hq, hc, hz, hh.1]
   exact fun nd y => zlX ok hh.2 hm htg (hx nd y).plain.1 (hx nd y).xs (hb nd y)⟩)
  (chk (zaK it != 3) fun hk => bnd (fx names none lam it) fun x hx => some ⟨.for tg x xb, h0 ▸ fun nd y => znX (fun ev w => zbr (zak hk) ev w) htg (hx nd y).1 (hb nd y)⟩)
 | .Raise e c p => match c with
  | none => bnd (zll e) fun q hq => bnd (za1 q.1) fun z hz => bnd (zmz z.1) fun lim hl => opt (nmOf (S.at names none lam) z.1) fun m hm => chk (isG m) fun hg => bnd (xsOf (fx names none lam) q.2.1) fun xs hx => some ⟨.raise lim xs, by
    rw [hq, hz]
    exact fun nd y => zkr ok k2 y.xm hl (zd3 hg ▸ hm) (hx nd y).plain.1 (hx nd y).xs (hx nd y).plain.2.1⟩
  | some _ => none
 | .Try b hs e g p => bnd (one? b) fun b hb => bnd (nil? e) fun _ h0 => bnd (nil? g) fun _ h1 => bnd (tryE fx names lam b) fun x hx => match hs with
  | [] => none
  | h :: hs => bnd (hsOf ok names lam (h :: hs)) fun xs ho => some ⟨.try [x] xs, by
    rw [hb, h0, h1]
    exact fun nd y => znV ok k2 (hx nd y) (ho nd)⟩
 | _ => none
noncomputable def toS (fx : FX S) : Nat -> FS S
 | 0 => fun _ _ _ => none
 | n + 1 => znR ok k2 fx (toS fx n)
noncomputable def toSs (names : Names) (lam : Bool) (b : List Stmt) : Option {xs : List Mine.Lake.S // GSs S names lam b xs} := ssOf (toS ok k2 (toX ok k2 20) 12) names lam b
theorem zaf {names : Names} {lam : Bool} {b : List Stmt} {xs : List Mine.Lake.S} (h : (toSs ok k2 names lam b).map (·.1) = some xs) : GSs S names lam b xs := by
 obtain ⟨a, _, rfl⟩ := Option.map_eq_some_iff.mp h
 exact a.2
end
set_option backward.match.sparseCases true
section
variable {prog : Program} {w : World} {A : Around} {s : Shared} {K : Frag} {x C dx : Addr} {R : Result -> Shared -> Prop}
open PySem.Builtin PySem.Builtin.ObjectAttr
theorem zgW {ox od od' : Obj} {name : Str} {tk : Tok} {v : Value} {es : List DictEntry} {n : Nat} (X : K.In s.heap) (I : InstAt s.heap x ox C (some od)) (hd : ox.dict = some dx) (D : s.heap.get? dx = some od) (hp : plainOver K C = true) (ht : takerIn K C name = some none) (hh : (clsIn K C).any (·.hasDict) = true)
  (hl : (lookIn name od).isSome = true) (e : Obj.putName name (PyData.keyHash w.params name) (.str name s.toks) v od = od') (e' : od'.data = .dict es.toArray n) (hz : es.length <= 1000)
  (h : ∀ h', h'.get? dx = some od' -> (∀ b, b ≠ dx -> h'.get? b = s.heap.get? b) -> R (.ok (.ret .none)) { s with heap := h', toks := s.toks + 1 }) :
  codeAny (model prog w) A (.call (.builtin "object.__setattr__") ⟨[.ref x, .str name tk, v], []⟩) R s := by
 refine osa_open X I hp ht fun b => ?_
 obtain ⟨cd, hc, hd'⟩ := any_some hh
 have D' : (s.heap.update dx (Obj.putName name (PyData.keyHash w.params name) (.str name s.toks) v)).get? dx = some od' := e ▸ Heap.get?_update_self _ D (by rw [e]; obtain ⟨_, _, dd, _⟩ := od'; cases e'; rfl)
 have U2 : ∀ b, b ≠ dx -> (s.heap.update dx (Obj.putName name (PyData.keyHash w.params name) (.str name s.toks) v)).get? b = s.heap.get? b := fun b q => Heap.get?_update_ne _ _ _ _ q
 obtain ⟨hx, hcl, hn, -⟩ := I
 obtain ⟨oc, odi, oda, osl⟩ := ox
 dsimp only at hcl hd
 subst hcl hd
 refine wpAny_bind (wpAny_pure (wpAny_bind (wpAny_bind (wpAny_loadPart hx (wpAny_bind ((looks_clsIn X hc).here ?_))))))
 rw [hd']
 refine wpAny_pure (a := some dx) (wpAny_bind (wpAny_pure (wpAny_bind ?_)))
 unfold nsSet
 refine wpAny_bind (wpAny_bind (wpAny_askSetting (wpAny_pure (wpAny_bind (wpAny_mkText (wpAny_bind (wpAny_loadPart D ?_)))))))
 unfold lookIn at hl
 split at hl
 ·rename_i es₀ n₀ q
  rw [q]
  dsimp only
  have c : (!es₀.any (·.key.isStr name) && es₀.any (·.refKey)) = false := by
   rw [← Array.any_toList, ← Array.any_toList]
   split at hl
   ·rename_i en he
    rw [List.any_eq_true.mpr ⟨en, List.mem_of_find?_eq_some he, List.find?_some he⟩]; rfl
   ·split at hl
    ·cases hl
    ·rename_i z; rw [Bool.not_eq_true] at z; rw [z, Bool.and_false]
  rw [aRefKeyMayBeTheName_at, c]
  refine wpAny_updatePart D ?_
  refine wpAny_bind (wpAny_lookBehind D' (by rw [e']; exact pastItsLine_dict (by rw [List.size_toArray, sizeLine_eq]; omega)) ?_)
  exact wpAny_pure (h _ D' U2)
 ·cases hl
end
inductive NewIn (S : Sta) : Prop
 | mk (f : Addr) (oc : Value) (od : Option Addr) (fd : FuncData) (osl : Array (Option Value)) (a b : Str) (q1 q2 q3 q4 : Pos) (h1 : makesIn S.K S.cev = true) (h2 : plainOver S.K S.cev = true) (h3 : (clsIn S.K S.cev).any (·.hasDict) = true) (h4 : takerIn S.K S.cev (Str.ofString "scope") = some none) (h5 : findIn S.K (.ref S.cev) "__setattr__" = some (some (.builtin "object.__setattr__")))
  (k1 : findIn S.K (.ref S.cev) "__init__" = some (some (.ref f))) (k2 : typeIn S.K (.ref f) = some (.type "function")) (k3 : S.K.lookup f = some ⟨oc, od, .func fd, osl⟩) (k4 : fd.scope.kind = .function) (k5 : fd.scope.isCoroutine = false) (k6 : fd.scope.isGenerator = false) (k7 : codeIn S.K fd.code fd.qualname = true)
  (k8 : zbV fd.params = true) (k9 : fd.closure = []) (k10 : fd.defaults = .none) (k11 : fd.params.args.map (·.arg) = [a, b]) (k12 : fd.body = .stmts [.Assign [.Attribute (.Name a q1) (Str.ofString "scope") q2] (.Name b q3) q4]) (k13 : a ≠ b) (k14 : fd.scope.names.lookup a = some .local) (k15 : fd.scope.names.lookup b = some .local) (k16 : badN a = false) (k17 : badN b = false)
section
variable {S : Sta} {nd : Nat}
theorem zfP (A : Around) (C : Addr) (l : List Value) : A.under (.builtin "type.__call__" ⟨.ref C :: l, []⟩) = { A with depth := A.depth + 1, units := A.units + 1 } := by
 obtain ⟨a, b, c, d, e⟩ := A
 rfl
theorem zjG (ok : StaOk S) (hn : NewIn S) : NewOk S nd := by
 obtain ⟨f, oc, od, fd, osl, na, nb, q1, q2, q3, q4, h1, h2, h3, h4, h5, k1, k2, k3, k4, k5, k6, k7, k8, k9, k10, k11, k12, k13, k14, k15, k16, k17⟩ := hn
 refine ⟨fun {A env outer L g σ s sc v Ev} c I r hk => ?_⟩
 have X := kIn ok I
 obtain ⟨h, gs, d, t, os⟩ := s
 refine wpAny_call ?_
 refine make_core (makes_of X h1) (looks_findIn X k1) (fun self => bind_fn X self k2) (.inl rfl) ?_
 rw [zfP]
 have kp0 : ∀ b o, h.get? b = some o -> ((h.push emptyDict).push (instObj S.cev h.objs.size)).get? b = some o := fun b o e => Heap.get?_push_of_some _ (Heap.get?_push_of_some _ e)
 have gx : ((h.push emptyDict).push (instObj S.cev h.objs.size)).get? (h.objs.size + 1) = some (instObj S.cev h.objs.size) := by heap_get
 have gd : ((h.push emptyDict).push (instObj S.cev h.objs.size)).get? h.objs.size = some emptyDict := Heap.get?_push_of_some _ (Heap.get?_push_at rfl rfl)
 generalize hH : (h.push emptyDict).push (instObj S.cev h.objs.size) = H at kp0 gx gd ⊢
 have X1 : S.K.In H := fun b o e => kp0 b o (X b o e)
 have hlen : fd.params.args.length = 2 := by have := congrArg List.length k11; simpa using this
 have hbs : (fd.params.args.map (·.arg)).zip [Value.ref (h.objs.size + 1), v] = [(na, .ref (h.objs.size + 1)), (nb, v)] := by rw [k11]; rfl
 have hbind := zb3 (vs := [.ref (h.objs.size + 1), v]) k8 k10 (by rw [k11]; simp [k13]) hlen
 rw [hbs] at hbind
 refine codeAny_call_cells (by have := c.depth; show A.depth + 1 < _; omega) (X1 _ _ k3) rfl (ok.nolimit.keeps fun b o e => kp0 _ _ (I.stays b o e)) (codeRec_of X1 k7) k12 hbind k9 (fun y hy => ?_) (fun s1 x => ?_) k5 k6 k4
 ·simp only [List.mem_cons, List.not_mem_nil, or_false] at hy
  rcases hy with rfl | rfl
  ·exact .inl k14
  ·exact .inl k15
 generalize hE : callEnvC fd H.objs.size f = ev at x ⊢
 have ekf : ev.scope.kind = .function := by rw [← hE]; exact k4
 have ea : ev.kindOf na = some .local := by rw [← hE]; exact k14
 have eb : ev.kindOf nb = some .local := by rw [← hE]; exact k15
 have X2 : S.K.In s1.heap := fun b o e => x.toInCall.keep b o (X1 b o e)
 have va : bindL ev.kindOf [(na, .ref (h.objs.size + 1)), (nb, v)] (fun _ => none) na = some (.ref (h.objs.size + 1)) := by
  simp only [bindL, ea, eb, if_true]
  rw [if_neg k13]
 have vb : bindL ev.kindOf [(na, .ref (h.objs.size + 1)), (nb, v)] (fun _ => none) nb = some v := by
  simp only [bindL, ea, eb, if_true]
 refine wpAny_execs_cons (plainObj_wpAny_Assign_Attribute (NameLC x ekf eb vb (NameLC x ekf ea va ?_ (by unfold badN at k16; exact (Bool.or_eq_false_iff.mp k16).1)) (by unfold badN at k17; exact (Bool.or_eq_false_iff.mp k17).1)))
 have gx2 := x.toInCall.keep _ _ gx
 have gd2 := x.toInCall.keep _ _ gd
 have II : InstAt s1.heap (h.objs.size + 1) (instObj S.cev h.objs.size) S.cev (some emptyDict) := ⟨gx2, rfl, rfl, gd2⟩
 refine set_plain X2 II h5 (zgW (s := { s1 with toks := s1.toks + 1 }) (od' := dictOf [⟨PyData.keyHash S.w.params (Str.ofString "scope"), .str (Str.ofString "scope") (s1.toks + 1), v⟩] 1) X2 II rfl gd2 h2 h4 h3 rfl rfl rfl (by show 1 <= 1000; decide) fun h' g1 g2 => ?_)
 refine wpAny_execs_nil ⟨rfl, ?_⟩
 obtain ⟨hs, ts, es⟩ := x.toInCall.same
 have ndx : h.get? h.objs.size = none := Heap.get?_none_of_le (Nat.le_refl _)
 have nx : h.get? (h.objs.size + 1) = none := Heap.get?_none_of_le (Nat.le_succ _)
 have kp : ∀ b o, h.get? b = some o -> h'.get? b = some o := fun b o e => (g2 b (Nat.ne_of_lt (Heap.lt_size e))).trans (x.toInCall.keep b o (kp0 b o e))
 obtain ⟨I1, E1⟩ := I.keeps kp
 obtain ⟨I2, E2, U2⟩ := Inv.seal (k := .fz) E1 I1 ndx (I.ot _ ndx) (fun _ _ _ e => e) g1
 have gx3 : h'.get? (h.objs.size + 1) = some (instObj S.cev h.objs.size) := (g2 _ (Nat.succ_ne_self _)).trans gx2
 obtain ⟨I3, E3, U3⟩ := Inv.seal (k := .fz) E2 I2 nx ((if_neg (Nat.succ_ne_self _)).trans (I.ot _ nx)) (fun _ _ _ e => e) gx3
 refine ⟨.evr sc, σ, _, ⟨rfl, rfl⟩, E3, I3, ?_, ?_⟩
 ·exact .evr (if_pos rfl) ((if_neg (Nat.ne_of_lt (Nat.lt_succ_self _))).trans (if_pos rfl)) gx3 g1 rfl rfl (r.mono E3.up)
 ·rw [es]; exact ⟨rfl, rfl, rfl⟩
end
theorem slot_wd_get : Slot "wrapper_descriptor" "__get__" "wrapper_descriptor.__get__" := .of (owner := "wrapper_descriptor") (n := "__get__") (by rw [typeLookup_type, builtinLookup_eq_fast]; kernel_rfl) (by decide +kernel) (by decide +kernel) (by decide +kernel)
 (by first | exact .inl (by decide +kernel) | exact .inr (by decide +kernel)) (by rw [isSubtype_type]; kernel_rfl)
theorem zek : entryFor table "wrapper_descriptor.__get__" = some Builtin.«wrapper_descriptor.__get__» := entryFor_of_tree (by kernel_rfl)
theorem ze4 (a b c : Value) : argsOk "wrapper_descriptor.__get__" ⟨[a, b, c], []⟩ := by unfold argsOk; kernel_rfl
theorem zdb : typeOf (.builtin "Exception.__init__") = pure (.type "wrapper_descriptor") := by kernel_rfl
section
variable {prog : Program} {w : World} {A : Around} {E : Value -> Shared -> Prop} {h : Heap} {g : Array GenState} {d : Drawn} {t : Nat} {os : OsState}
theorem zkz : ".".intercalate ("Exception.__init__".cutAt '.').dropLast = "Exception" := by decide +kernel
theorem zlt {x C C' : Addr} {ox : Obj} {Q : Fin -> Shared -> Prop} (hx : h.get? x = some ox) (hc : ox.cls = .ref C) (hs : Looks (model prog w) h (isSubtype (.ref C) (.type "Exception")) true)
  (hq : Q (.done (.ret (.ref h.objs.size))) ⟨h.push { cls := .type "method-wrapper", data := .fields #[.builtin "Exception.__init__", .ref x] }, g, d, t, os⟩) :
  wpAny (model prog w) A (Builtin.«wrapper_descriptor.__get__» ⟨[.builtin "Exception.__init__", .ref x, .ref C'], []⟩) Q E ⟨h, g, d, t, os⟩ := by
 have e := zkz
 unfold Builtin.«wrapper_descriptor.__get__»
 repeat (first | (with_reducible refine wpAny_loadPart_at hx ?_; rw [hc]) | (with_reducible refine Looks.at hs ?_) | rw [e] | wp_step)
 all_goals exact hq
theorem zdI {ox : Obj} {so D x C : Addr} {l₀ l : List Value} {K : Frag} {name : Str} {tk : Tok} {Q : Fin -> Shared -> Prop}
  (hso : h.get? so = some { cls := .type "super", dict := none, data := .fields #[.ref D, .ref x, .ref C], slots := #[] }) (hno : Looks (model prog w) h (opaqueClassAbove (.ref C)) none)
  (hC : Looks (model prog w) h (mroOf (.ref C)) l₀) (hl : (l₀.dropWhile (· != .ref D)).drop 1 = l) (X : K.In h)
  (hf : alongIn K name l = some (some (.builtin "Exception.__init__"))) (hx : h.get? x = some ox) (hc : ox.cls = .ref C) (hs : Looks (model prog w) h (isSubtype (.ref C) (.type "Exception")) true) (hxC : x ≠ C) (hn : (name == ("__class__" : Str)) = false)
  (hq : Q (.done (.ret (.ref h.objs.size))) ⟨h.push { cls := .type "method-wrapper", data := .fields #[.builtin "Exception.__init__", .ref x] }, g, d, t, os⟩) :
  wpAny (model prog w) A (Builtin.«super.__getattribute__» ⟨[.ref so, .str name tk], []⟩) Q E ⟨h, g, d, t, os⟩ := by
 have hlk := slot_wd_get.lookup
 have hty := zdb
 have hne : (Value.ref x == Value.ref C) = false := by simp [hxC]
 have hT : (⟨h, g, d, t, os⟩ : Shared).TypeIs (.builtin "Exception.__init__") "wrapper_descriptor" := hty
 have hdt : ({ cls := .type "super", dict := none, data := .fields #[.ref D, .ref x, .ref C], slots := #[] } : Obj).data = .fields #[.ref D, .ref x, .ref C] := rfl
 have f0 : (#[.ref D, .ref x, .ref C] : Array Value)[0]? = some (.ref D) := rfl
 have f1 : (#[.ref D, .ref x, .ref C] : Array Value)[1]? = some (.ref x) := rfl
 have f2 : (#[.ref D, .ref x, .ref C] : Array Value)[2]? = some (.ref C) := rfl
 unfold Builtin.«super.__getattribute__»
 repeat (first
  | (with_reducible refine wpAny_field hso hdt f0 ?_) | (with_reducible refine wpAny_field hso hdt f1 ?_) | (with_reducible refine wpAny_field hso hdt f2 ?_)
  | (with_reducible refine ks_wpAny_notOpaque hno ?_)
  | (with_reducible refine Looks.at hC ?_; rw [hl])
  | (refine ks_forIn_along X (fun _ _ => rfl) rfl ?_ hf)
  | (with_reducible refine wpAny_typeOf hT ?_)
  | (with_reducible refine wpAny_call_entry slot_wd_get hT zek ?_ (ze4 _ _ _))
  | (with_reducible refine ⟨_, rfl, ?_⟩)
  | (with_reducible refine zlt hx hc hs ?_)
  | (simp only [hn, hne, Bool.or_false, Bool.false_eq_true, if_false])
  | wp_step
  | dsimp only)
 all_goals exact hq
end
section
variable {prog : Program} {w : World} {A : Around} {E : Value -> Shared -> Prop} {h : Heap} {g : Array GenState} {d : Drawn} {t : Nat} {os : OsState}
theorem zdp {ox : Obj} {so D x C : Addr} {l₀ l : List Value} {K : Frag} {name : Str} {pl : Sem Bool} {Q : Value × List Value -> Shared -> Prop}
  (hso : h.get? so = some { cls := .type "super", dict := none, data := .fields #[.ref D, .ref x, .ref C], slots := #[] }) (hno : Looks (model prog w) h (opaqueClassAbove (.ref C)) none)
  (hC : Looks (model prog w) h (mroOf (.ref C)) l₀) (hl : (l₀.dropWhile (· != .ref D)).drop 1 = l) (X : K.In h)
  (hf : alongIn K name l = some (some (.builtin "Exception.__init__"))) (hx : h.get? x = some ox) (hc : ox.cls = .ref C) (hs : Looks (model prog w) h (isSubtype (.ref C) (.type "Exception")) true) (hxC : x ≠ C) (hn : (name == ("__class__" : Str)) = false)
  (hq : Q (.ref h.objs.size, []) ⟨h.push { cls := .type "method-wrapper", data := .fields #[.builtin "Exception.__init__", .ref x] }, g, d, t + 1, os⟩) :
  wpAny (model prog w) A (getMethod (.ref so) name pl) Q E ⟨h, g, d, t, os⟩ := by
 have hlk := F.ks_slot_super_ga.lookup
 have hcan := F.ks_canon_super_ga
 have hT : ∀ t', (⟨h, g, d, t', os⟩ : Shared).TypeIs (.ref so) "super" := fun _ => ⟨_, hso, rfl⟩
 unfold getMethod
 refine wpAny_bind (wpAny_specialOf (hT _) hlk ?_)
 show wpAny _ _ (if (Manifest.canonical "super.__getattribute__" != "object.__getattribute__") = true then _ else _) _ _ _
 rw [if_pos hcan]
 unfold getAttr getAttrBy
 refine wpAny_bind (wpAny_bind (wpAny_mkText (wpAny_holding (wpAny_bind (wpAny_typeOf (hT _) (wpAny_bind (wpAny_of_eq hlk ?_)))))))
 show wpAny _ _ (getAttrByItsOwn (.ref so) (.str name t) (.type "super") (.builtin "super.__getattribute__") true false) _ _ _
 unfold getAttrByItsOwn hookBefore callGetattribute boundAndCalled
 refine wpAny_bind (wpAny_of_eq (show (if onTheHeap (.type "super") then typeLookup (.type "super") "__getattr__" else pure none) = pure none from rfl) ?_)
 refine wpAny_bind (wpAny_attempt (wpAny_holding ?_))
 show wpAny _ _ (bindSpecial (.builtin "super.__getattribute__") (.ref so) >>= _) _ _ _
 refine wpAny_bind (wpAny_of_eq (F.ks_slot_super_ga.bind _) ?_)
 refine wpAny_mono (Q := fun v s' => v = .ref h.objs.size /\ s' = ⟨h.push { cls := .type "method-wrapper", data := .fields #[.builtin "Exception.__init__", .ref x] }, g, d, t + 1, os⟩) (E := fun _ _ => False)
  (wpAny_call_entry F.ks_slot_super_ga (hT _) F.ks_entry_super_ga (zdI hso hno hC hl X hf hx hc hs hxC hn ⟨_, rfl, rfl, rfl⟩) (F.ks_gaArgs_super _ _)) (fun v s' hv => ?_) fun _ _ z => z.elim
 obtain ⟨rfl, rfl⟩ := hv
 exact wpAny_pure (wpAny_pure hq)
theorem zh0 {M : Model} {x C : Addr} {b : Value} {ox oC : Obj} {cd : ClassData} {Q : Unit -> Shared -> Prop} (hx : h.get? x = some ox) (hc : ox.cls = .ref C) (hC : h.get? C = some oC) (hcd : oC.data = .cls cd) (hq : Q () ⟨h, g, d, t, os⟩) : wpAny M A (checkBoundCall "Exception.__init__" ⟨[.ref x, b], []⟩) Q E ⟨h, g, d, t, os⟩ := by
 have F := PySem.F.excCall_Exception
 obtain ⟨oc, od, oda, osl⟩ := oC
 dsimp only at hcd
 subst hcd
 simp only [checkBoundCall, F.initKind, F.initRow]
 repeat (first | (with_reducible refine wpAny_loadPart_at hx ?_; rw [hc]) | (with_reducible refine wpAny_loadPart_at hC ?_) | wp_step)
 all_goals exact hq
theorem zk2 {x t0 : Addr} {ox : Obj} {vs : Array Value} {v : Value} {Q : Fin -> Shared -> Prop} (hx : h.get? x = some ox) (hd : ox.data = .fields vs) (h0 : vs[0]? = some (.ref t0))
  (hq : ∀ h', h'.get? x = some { ox with data := .fields (vs.setIfInBounds 0 (.ref h.objs.size)) } -> (∀ b o, b ≠ x -> h.get? b = some o -> h'.get? b = some o) -> Q (.done (.ret .none)) ⟨h', g, d, t, os⟩) :
  wpAny (model prog w) A (Builtin.«BaseException.__init__» ⟨[.ref x, v], []⟩) Q E ⟨h, g, d, t, os⟩ := by
 unfold Builtin.«BaseException.__init__»
 dsimp only
 rw [if_neg (by simp)]
 unfold newTuple Builtin.BaseException.bexcPut
 have hsz : 0 < vs.size := (Array.getElem?_eq_some_iff.mp h0).1
 have hx₁ := Heap.get?_push_of_some (h := h) { cls := .type "tuple", data := .seq #[v] } hx
 refine wpAny_bind (wpAny_newObj_type (wpAny_bind (wpAny_bind (wpAny_field hx₁ hd h0 (wpAny_bind (wpAny_setField hx₁ hd hsz ?_))))) (by size_fits))
 refine wpAny_letGo (wpAny_pure (hq _ ?_ fun b o hb e => ?_))
 ·rw [Heap.get?_update_self _ hx₁ (Obj.isFreed_of_fields (Obj.data_mapFields hd _)), zcb hd]
 ·rw [Heap.get?_update_other _ _ (Ne.symm hb)]
  exact Heap.get?_push_of_some _ e
theorem zjp {x t0 m C : Addr} {ox oC : Obj} {cd : ClassData} {vs : Array Value} {v : Value} {Q : Value -> Shared -> Prop} (hm : h.get? m = some { cls := .type "method-wrapper", data := .fields #[.builtin "Exception.__init__", .ref x] }) (hx : h.get? x = some ox) (hc : ox.cls = .ref C) (hC : h.get? C = some oC) (hcd : oC.data = .cls cd) (hd : ox.data = .fields vs) (h0 : vs[0]? = some (.ref t0))
  (hq : ∀ h', h'.get? x = some { ox with data := .fields (vs.setIfInBounds 0 (.ref h.objs.size)) } -> (∀ b o, b ≠ x -> h.get? b = some o -> h'.get? b = some o) -> Q .none ⟨h', g, d, t, os⟩) :
  wpAny (model prog w) A (call (.ref m) [v]) Q E ⟨h, g, d, t, os⟩ := by
 have F := PySem.F.excCall_Exception
 refine wpAny_call (codeAny_of_tree ?_)
 show wpAny _ _ (callAny (.ref m) ⟨[v], []⟩) _ _ _
 unfold callAny
 refine wpAny_bind (wpAny_load hm ?_)
 dsimp only
 rw [if_pos (by decide)]
 refine wpAny_bind (zh0 hx hc hC hcd (wpAny_pure ⟨Code.quiet_builtin _ (by decide +kernel), ?_⟩))
 exact codeAny_builtin F.initEntry (zk2 hx hd h0 hq)
theorem zf2 {M : Model} {m x : Addr} (hm : h.get? m = some { cls := .type "method-wrapper", data := .fields #[.builtin "Exception.__init__", .ref x] }) : Looks M h (keeperOf (.ref m)) .machine := by
 unfold keeperOf
 exact (Looks.ld hm).andThen .now
end
set_option backward.match.sparseCases false
noncomputable def refB : Value -> Bool
 | .ref _ => true
 | _ => false
noncomputable def zaz : List Value -> Bool
 | [] => false
 | v :: r => if refB v then zaz r else decide (v :: r = [.type "Exception", .type "BaseException", .type "object"])
theorem zcH {P : List Value -> Prop} (h0 : P [.type "Exception", .type "BaseException", .type "object"]) (hs : ∀ c r, P r -> P (.ref c :: r)) {l : List Value} (e : zaz l = true) : P l := by
 induction l with
 | nil => cases e
 | cons v r ih =>
  cases q : refB v with
  | true => cases v <;> first | (cases q; done) | exact hs _ _ (ih e)
  | false => exact (of_decide_eq_true ((if_neg (by rw [q]; decide)).symm.trans e)) ▸ h0
theorem zbs (self : Value) {l : List Value} (h : zaz l = true) : refuseLoop self "__setattr__" l = pure () /\ l.contains (.type "object") = true /\ l.contains (.type "Exception") = true /\ l.isEmpty = false :=
 zcH (P := fun l => refuseLoop self "__setattr__" l = pure () /\ l.contains (.type "object") = true /\ l.contains (.type "Exception") = true /\ l.isEmpty = false)
  ⟨PySem.F.store_Exception.passes self, by decide, by decide, rfl⟩
  (fun c r ⟨h1, h2, h3, h4⟩ => ⟨(refuseLoop_ref _ _ _ _).trans h1, by rw [List.contains_cons, h2, Bool.or_true], by rw [List.contains_cons, h3, Bool.or_true], rfl⟩) h
section
variable {prog : Program} {w : World} {A : Around} {s : Shared} {K : Frag} {x C dx : Addr} {R : Result -> Shared -> Prop}
open PySem.Builtin PySem.Builtin.ObjectAttr
theorem zb9 {ox : Obj} {name : Str} {tk : Tok} {v : Value} {cd : ClassData} (X : K.In s.heap) (hx : s.heap.get? x = some ox) (hcl : ox.cls = .ref C) (hc : clsIn K C = some cd) (hp : zaz cd.mro = true) (ht : takerIn K C name = some none)
  (h : ∀ b, wpAny (model prog w) A.in1 (storeInOwnDict (.ref x) (.ref C) (.str name tk) name v b)
   (fun fin s' => match fin with | .done f => R (.ok f) s' | .again c' => c'.quiet = true /\ codeAny (model prog w) A c' R s') (fun e s' => R (.error e) s') s) :
  codeAny (model prog w) A (.call (.builtin "object.__setattr__") ⟨[.ref x, .str name tk, v], []⟩) R s := by
 have SF := PySem.F.store_object
 obtain ⟨ho, ho2, _, ne⟩ := zbs (.ref x) hp
 have ty : Looks (model prog w) s.heap (typeOf (.ref x)) (.ref C) := hcl ▸ (Looks.ld hx).andThen .now
 have sub : Looks (model prog w) s.heap (isInstance (.ref x) (.type "object")) true := ty.andThen (looks_mroIn X (by unfold mroIn; rw [hc, Option.bind_some, if_neg (by rw [ne]; decide), ho2]))
 refine codeAny_call_builtin SF.slot.plain SF.entry (@check_slot (model prog w) _ _ s "object.__setattr__" "object" "__setattr__" (.ref x) [.str name tk, v] [] _ SF.kind SF.split sub (SF.args (.ref x) (.str name tk) v) ?_)
 obtain ⟨attr, ha, hr⟩ := Option.bind_eq_some_iff.mp ht
 have hm : Looks (model prog w) s.heap (mroOf (.ref C)) cd.mro := (looks_clsIn X hc).andThen .now
 have L3 : Looks (model prog w) s.heap (storeTaker? attr) none := by
  cases attr with
  | none => cases hr; exact .now
  | some a =>
   obtain ⟨b, hb, hr⟩ := Option.map_eq_some_iff.mp hr
   refine (looks_takesIn X hb).andThen ?_
   cases b <;> first | exact .now | cases hr
 rw [osa_eq, refuse_eq]
 refine wpAny_bind (wpAny_bind (ty.here (wpAny_bind (hm.here ?_))))
 rw [ho]
 refine wpAny_pure (wpAny_bind (ty.here (wpAny_bind ((looks_findIn X ha).here (wpAny_bind (L3.here ?_))))))
 exact h _
theorem zfj {A : Around} {E : Value -> Shared -> Prop} {od od' : Obj} {name : Str} {tk : Tok} {v : Value} {es : List DictEntry} {n : Nat} {Q : Fin -> Shared -> Prop} (D : s.heap.get? dx = some od) (hl : (lookIn name od).isSome = true) (e : Obj.putName name (PyData.keyHash w.params name) (.str name s.toks) v od = od') (e' : od'.data = .dict es.toArray n) (hz : es.length <= 1000)
  (h : ∀ h', h'.get? dx = some od' -> (∀ b, b ≠ dx -> h'.get? b = s.heap.get? b) -> Q (.done (.ret .none)) { s with heap := h', toks := s.toks + 1 }) : wpAny (model prog w) A (storeInDict dx (.str name tk) name v) Q E s := by
 have D' : (s.heap.update dx (Obj.putName name (PyData.keyHash w.params name) (.str name s.toks) v)).get? dx = some od' := e ▸ Heap.get?_update_self _ D (by rw [e]; obtain ⟨_, _, dd, _⟩ := od'; cases e'; rfl)
 have U2 : ∀ b, b ≠ dx -> (s.heap.update dx (Obj.putName name (PyData.keyHash w.params name) (.str name s.toks) v)).get? b = s.heap.get? b := fun b q => Heap.get?_update_ne _ _ _ _ q
 refine wpAny_bind (wpAny_pure (wpAny_bind ?_))
 unfold nsSet
 refine wpAny_bind (wpAny_bind (wpAny_askSetting (wpAny_pure (wpAny_bind (wpAny_mkText (wpAny_bind (wpAny_loadPart D ?_)))))))
 unfold lookIn at hl
 split at hl
 ·rename_i es₀ n₀ q
  rw [q]
  dsimp only
  have c : (!es₀.any (·.key.isStr name) && es₀.any (·.refKey)) = false := by
   rw [← Array.any_toList, ← Array.any_toList]
   split at hl
   ·rename_i en he
    rw [List.any_eq_true.mpr ⟨en, List.mem_of_find?_eq_some he, List.find?_some he⟩]; rfl
   ·split at hl
    ·cases hl
    ·rename_i z; rw [Bool.not_eq_true] at z; rw [z, Bool.and_false]
  rw [aRefKeyMayBeTheName_at, c]
  refine wpAny_updatePart D ?_
  refine wpAny_bind (wpAny_lookBehind D' (by rw [e']; exact pastItsLine_dict (by rw [List.size_toArray, sizeLine_eq]; omega)) ?_)
  exact wpAny_pure (h _ D' U2)
 ·cases hl
theorem zgX {vs : Array Value} {name : Str} {tk : Tok} {v : Value} {cd : ClassData} {od' : Obj} {es : List DictEntry} {n : Nat} (X : K.In s.heap) (hx : s.heap.get? x = some { cls := .ref C, data := .fields vs }) (hc : clsIn K C = some cd) (hp : zaz cd.mro = true) (ht : takerIn K C name = some none) (hh : cd.hasDict = true)
  (e : Obj.putName name (PyData.keyHash w.params name) (.str name s.toks) v emptyDict = od') (e' : od'.data = .dict es.toArray n) (hz : es.length <= 1000)
  (h : ∀ h', h'.get? x = some { cls := .ref C, dict := some s.heap.objs.size, data := .fields vs } -> h'.get? s.heap.objs.size = some od' -> (∀ b o, b ≠ x -> s.heap.get? b = some o -> h'.get? b = some o) -> R (.ok (.ret .none)) { s with heap := h', toks := s.toks + 1 }) :
  codeAny (model prog w) A (.call (.builtin "object.__setattr__") ⟨[.ref x, .str name tk, v], []⟩) R s := by
 refine zb9 X hx rfl hc hp ht fun b => ?_
 have hx₁ : (s.heap.push emptyDict).get? x = some { cls := .ref C, data := .fields vs } := Heap.get?_push_of_some _ hx
 have hxs : x ≠ s.heap.objs.size := Nat.ne_of_lt (Heap.lt_size hx)
 refine wpAny_bind (wpAny_pure (wpAny_bind (wpAny_bind (wpAny_loadPart hx (wpAny_bind ((looks_clsIn X hc).here ?_))))))
 rw [hh]
 show wpAny _ _ ((alloc emptyDict >>= fun d => update x (fun o => { cls := o.cls, dict := some d, data := o.data, slots := o.slots }) >>= fun _ => pure (some d) : Sem (Option Addr))) _ _ _
 refine wpAny_bind (wpAny_alloc' (wpAny_bind (wpAny_update' hx₁ (wpAny_pure ?_))))
 refine wpAny_bind (wpAny_pure ?_)
 have gx : ((s.heap.push emptyDict).update x fun o => { cls := o.cls, dict := some s.heap.objs.size, data := o.data, slots := o.slots }).get? x = some { cls := .ref C, dict := some s.heap.objs.size, data := .fields vs } := Heap.get?_update_self _ hx₁ rfl
 have gd : ((s.heap.push emptyDict).update x fun o => { cls := o.cls, dict := some s.heap.objs.size, data := o.data, slots := o.slots }).get? s.heap.objs.size = some emptyDict := (Heap.get?_update_ne _ _ _ _ hxs.symm).trans (Heap.get?_push_at rfl rfl)
 refine zfj (tk := tk) (s := { s with heap := _ }) gd rfl e e' hz fun h' g1 g2 => ?_
 exact h h' ((g2 x hxs).trans gx) g1 fun b o hb eo => (g2 b (Nat.ne_of_lt (Heap.lt_size eo))).trans ((Heap.get?_update_ne _ _ _ _ hb).trans (Heap.get?_push_of_some _ eo))
theorem ziN {ox od od' : Obj} {name : Str} {tk : Tok} {v : Value} {cd : ClassData} {es : List DictEntry} {n : Nat} (X : K.In s.heap) (hx : s.heap.get? x = some ox) (hcl : ox.cls = .ref C) (hd : ox.dict = some dx) (D : s.heap.get? dx = some od) (hc : clsIn K C = some cd) (hp : zaz cd.mro = true) (ht : takerIn K C name = some none) (hh : cd.hasDict = true)
  (hl : (lookIn name od).isSome = true) (e : Obj.putName name (PyData.keyHash w.params name) (.str name s.toks) v od = od') (e' : od'.data = .dict es.toArray n) (hz : es.length <= 1000)
  (h : ∀ h', h'.get? dx = some od' -> (∀ b, b ≠ dx -> h'.get? b = s.heap.get? b) -> R (.ok (.ret .none)) { s with heap := h', toks := s.toks + 1 }) :
  codeAny (model prog w) A (.call (.builtin "object.__setattr__") ⟨[.ref x, .str name tk, v], []⟩) R s := by
 refine zb9 X hx hcl hc hp ht fun b => ?_
 obtain ⟨oc, odi, oda, osl⟩ := ox
 dsimp only at hcl hd
 subst hcl hd
 refine wpAny_bind (wpAny_pure (wpAny_bind (wpAny_bind (wpAny_loadPart hx (wpAny_bind ((looks_clsIn X hc).here ?_))))))
 rw [hh]
 refine wpAny_pure (a := some dx) (wpAny_bind (wpAny_pure ?_))
 exact zfj (tk := tk) D hl e e' hz h
end
set_option backward.match.sparseCases true
theorem zdl {M : Model} {A : Around} {E : Value -> Shared -> Prop} {s : Shared} {env : Env} {x : Str} {Q : Value -> Shared -> Prop} (hk : env.scope.kind = .function) (hx : env.kindOf x = some .globalImplicit) (h : wpAny M A (loadGlobal env x) Q E s) : wpAny M A (loadName env x) Q E s := by
 unfold loadName
 simp only [Env.blockKind, hk, hx, ScopeKind.isAnnotationScope, Bool.false_and, Bool.false_eq_true, if_false]
 exact h
inductive InitFn (S : Sta) (f D : Addr) (ps : List Str) (body : List Stmt) : Prop
 | mk (od : Option Addr) (fd : FuncData) (osl : Array (Option Value)) (cc : Addr) (oc1 : Value) (od1 : Option Addr) (osl1 : Array (Option Value)) (co : Addr) (oc2 : Value) (od2 : Option Addr) (osl2 : Array (Option Value)) (vs : Array Value) (file : Str) (tf : Tok)
  (k1 : S.K.lookup f = some ⟨.type "function", od, .func fd, osl⟩) (k2 : fd.scope.kind = .function) (k3 : fd.scope.isCoroutine = false) (k4 : fd.scope.isGenerator = false) (k5 : codeIn S.K fd.code fd.qualname = true) (k6 : zbV fd.params = true) (k7 : fd.defaults = .none)
  (k8 : fd.params.args.map (·.arg) = ps) (k9 : fd.body = .stmts body) (k10 : fd.globals = mainGlobals) (k11 : fd.builtins = builtinsNs) (k12 : ∀ p ∈ fd.scope.names, p.2 ≠ .cell) (k13 : ∀ p ∈ ps, fd.scope.names.lookup p = some .local /\ badN p = false) (k14 : fd.scope.names.lookup (Str.ofString "super") = some .globalImplicit) (k15 : fd.scope.names.lookup (Str.ofString "__class__") = some .free)
  (k16 : fd.closure.lookup (Str.ofString "__class__") = some cc) (k17 : S.K.lookup cc = some ⟨oc1, od1, .cell (some (.ref D)), osl1⟩) (k18 : fd.code = .ref co) (k19 : S.K.lookup co = some ⟨oc2, od2, .fields vs, osl2⟩) (k20 : vs[2]? = some (.str file tf)) (k21 : (S.prog.main.file == file) = true)
structure SupIn (S : Sta) : Prop where
 g : S.mg "super" = none
 t : (S.prog.main.scope.names.lookup ("super" : Str)).isSome = false
noncomputable def zbJ (a b z u : Str) (p0 p1 p2 p3 p4 p5 p6 p7 p8 p9 : Pos) : List Stmt := [.Expr (.Call (.Attribute (.Call (.Name "super" p0) [] [] p1) "__init__" p2) [.Name b p3] [] p4) p5, .Assign [.Attribute (.Name a p6) z p7] (.Name u p8) p9]
noncomputable def But (x : Addr) (s s' : Shared) : Prop := (∀ b o, b ≠ x -> s.heap.get? b = some o -> s'.heap.get? b = some o) /\ ∃ hp tk, s' = { s with heap := hp, toks := tk }
theorem But.trans {x : Addr} {s s' s'' : Shared} (a : But x s s') (b : But x s' s'') : But x s s'' := by
 obtain ⟨a1, h1, t1, rfl⟩ := a
 obtain ⟨b1, h2, t2, rfl⟩ := b
 exact ⟨fun c o n e => b1 c o n (a1 c o n e), h2, t2, rfl⟩
theorem But.kin {x : Addr} {s s' : Shared} {K : Frag} (a : But x s s') (X : K.In s.heap) (k : K.lookup x = none) : K.In s'.heap := fun b o e => a.1 b o (fun q => by rw [q, k] at e; cases e) (X b o e)
theorem zi6 {o : PySem.Expr} {name : Str} {ap pos : Pos} {args : List PySem.Expr} {env : Env} (hs : args.all (fun e => !zap e) = true) (hl : args.length < 20) (hp : (ap.endLine == pos.line) = true) :
  eval (.Call (.Attribute o name ap) args [] pos) env = (do
   let ov ← attributeBase o name env (eval o env)
   standAt ap.atName
   let fx ← holding [ov] (getMethod ov name (do return (← importBound o env).getD true))
   callWith pos fx.1 fx.2 (backTo pos (starEach args env)) []) := by
 have hf : methodCallForm (args.length + ([] : List Keyword).length) (backTo pos (starEach args env)) (backToKw pos (keywordEach [] env)) = true := by
  unfold methodCallForm
  have h1 := zbo (pos := pos) (ev := env) hs
  have h2 : (backTo pos (starEach args env)).all (fun p => !p.1) = true := by
   rw [List.all_eq_true]
   intro p hp
   have := List.any_eq_false.mp h1 p hp
   simpa using this
  have h3 : (backToKw pos (keywordEach [] env)) = [] := rfl
  rw [h2, h3]
  simp
  omega
 rw [arm_eval_Call]
 unfold methodCall calleeOf methodCallPos
 rw [hf, hp]
 rfl
section
variable {S : Sta} {A : Around} {E : Value -> Shared -> Prop} {s : Shared} {f D x C : Addr}
theorem zd5 (ok : StaOk S) (si : SupIn S) {a b z u : Str} {ps : List Str} {vals : List Value} {v vz : Value} {p0 p1 p2 p3 p4 p5 p6 p7 p8 p9 : Pos} (hpp : (p2.endLine == p4.line) = true) (hi : InitFn S f D ps (zbJ a b z u p0 p1 p2 p3 p4 p5 p6 p7 p8 p9)) (hps : ∃ r, ps = a :: r) (hpb : b ∈ ps) (hpu : u ∈ ps) (hnd : ps.Nodup) (hlen : ps.length = vals.length)
  (ha : (ps.zip vals).reverse.lookup a = some (.ref x)) (hb : (ps.zip vals).reverse.lookup b = some v) (hu : (ps.zip vals).reverse.lookup u = some vz)
  (room : A.depth < recursionLimit) (st : S.B.StaysIn s.heap) {ox : Obj} (hx : s.heap.get? x = some ox) (hxc : ox.cls = .ref C) (hnc : ∀ c, ox.data ≠ .cls c) (kx : S.K.lookup x = none) (nx : S.B.get? x = none) {oD : Obj} {cdD : ClassData} (hD : S.K.lookup D = some oD) (hDt : oD.data = .cls cdD)
  (hsub : ∀ h, S.K.In h -> Looks S.M h (isSubtype (.ref C) (.ref D)) true) {Mid : Shared -> Prop} {R : Result -> Shared -> Prop}
  (hsup : ∀ ev s1 so pl, But x s s1 -> s1.heap.get? x = some ox -> s1.heap.get? so = some { cls := .type "super", dict := none, data := .fields #[.ref D, .ref x, .ref C], slots := #[] } -> (∀ {Q : Value -> Shared -> Prop} {s2}, But x s1 s2 -> Q v s2 -> wpAny S.M (A.deeper ev) (eval (.Name b p3) ev) Q (fun _ _ => False) s2) ->
   wpAny S.M (A.deeper ev) (getMethod (.ref so) "__init__" pl) (fun fx s₂ => wpAny S.M (A.deeper ev) (callWith p4 fx.1 fx.2 (backTo p4 (starEach [.Name b p3] ev)) []) (fun _ s3 => But x s1 s3 /\ Mid s3) (fun _ _ => False) s₂) (fun _ _ => False) s1)
  (hset : ∀ A' s3, But x s s3 -> Mid s3 -> wpAny S.M A' (setAttr (.ref x) z vz) (fun _ s4 => R (.ok (.ret .none)) s4) (fun _ _ => False) s3) :
  codeAny S.M A (.call (.ref f) ⟨vals, []⟩) R s := by
 obtain ⟨od, fd, osl, cc, oc1, od1, osl1, co, oc2, od2, osl2, vs, file, tf, k1, k2, k3, k4, k5, k6, k7, k8, k9, k10, k11, k12, k13, k14, k15, k16, k17, k18, k19, k20, k21⟩ := hi
 have X : S.K.In s.heap := fun b o e => st _ _ (ok.K b o e)
 have hbind := zb3 (vs := vals) k6 k7 (by rw [k8]; exact hnd) (by have := congrArg List.length k8; simp at this; omega)
 rw [k8] at hbind
 refine ks_codeAny_call_defAt room (X _ _ k1) rfl (ok.nolimit.keeps fun b o e => st b o e) (codeRec_of X k5) k9 (BindsTo.of_eq hbind) k12 (fun y hy => (k13 y.1 (List.of_mem_zip hy).1).1) (fun h0 hns kp0 => ?_) k3 k4 k2
 generalize hE : callEnv fd s.heap.objs.size f = ev
 have ekf : ev.scope.kind = .function := by rw [← hE]; exact k2
 have eg : ev.globals = mainGlobals := by rw [← hE]; exact k10
 have eb : ev.builtins = builtinsNs := by rw [← hE]; exact k11
 have el : ev.locals = s.heap.objs.size := by rw [← hE]; rfl
 have ecl : ev.cells = fd.closure := by rw [← hE]; rfl
 have ek : ∀ y, ev.kindOf y = fd.scope.names.lookup y := fun y => by rw [← hE]; rfl
 obtain ⟨rr, hps⟩ := hps
 have hp : (fd.params.posonlyargs ++ fd.params.args).head?.map (·.arg) = some a := by
  have h0 : fd.params.posonlyargs = [] := congrArg (·.posonlyargs) (zc0 k6)
  rw [h0, List.nil_append, ← List.head?_map, k8, hps]; rfl
 obtain ⟨ar, hp', rfl⟩ := Option.map_eq_some_iff.mp hp
 have loc : ∀ {y w} {A' : Around} {Q : Value -> Shared -> Prop} {Ev : Value -> Shared -> Prop} {s2 : Shared}, y ∈ ps -> (ps.zip vals).reverse.lookup y = some w -> (∀ b o, b ≠ x -> h0.get? b = some o -> s2.heap.get? b = some o) -> Q w s2 -> wpAny S.M A' (loadName ev y) Q Ev s2 := by
  intro y w A' Q Ev s2 hy hw hk hq
  obtain ⟨oL, es, ep, hoL, r⟩ := hns
  have ne : s.heap.objs.size ≠ x := Nat.ne_of_gt (Heap.lt_size hx)
  have hns2 : s2.heap.Ns s.heap.objs.size (fun y => (ps.zip vals).reverse.lookup y) := ⟨oL, es, ep, hk _ _ ne hoL, r⟩
  rw [← el] at hns2
  exact wpAny_loadName_local ekf ((ek y).trans (k13 y hy).1) hns2 hw hq
 have bad : ∀ y ∈ ps, (y == ("__debug__" : Str)) = false := fun y hy => by have := (k13 y hy).2; unfold badN at this; exact (Bool.or_eq_false_iff.mp this).1
 have X0 : S.K.In h0 := fun b o e => kp0 b o (X b o e)
 refine ks_wpAt_mono (Q := fun f s' => R (.ok (.ret (match f with | .ret v => v | _ => .none))) s') (E := fun _ _ => False) ?_ (fun _ _ h => h) (fun _ _ h => h.elim)
 refine ks_wpAt_execs_cons (ks_wpAt_Expr_any (ks_wpAt_MethodCall (ks_wpAt_super_base (f := f) (cc := co) ((ek _).trans k14) ((ek _).trans k15) (by decide) (by rw [← hE]; rfl) (X0 _ _ k1) rfl hp' (by rw [← hE]; exact k18) (X0 _ _ k19) rfl k20 k21 si.t ?_) (zi6 rfl (by show 1 < 20; decide) hpp)) (by unfold interactive; rw [ekf]; rfl))
 have gns : h0.Ns ev.globals S.mg := eg ▸ zbd (fun o e => kp0 _ _ (st _ _ e)) ok.g
 have bns : h0.Ns ev.builtins S.mb := eb ▸ zbd (fun o e => kp0 _ _ (st _ _ e)) ok.b
 refine zdl ekf ((ek _).trans k14) ?_
 refine loadGlobal_builtin gns si.g bns (v := .type "super") ((ok.builtins _ (by decide)).trans (by decide +kernel)) ⟨rfl, ?_⟩
 have kcell := X0 _ _ k17
 have hcell : h0.IsCell cc (some (.ref D)) := ⟨_, kcell, rfl⟩
 refine wpAny_loadName_free (s := { s with heap := h0, toks := s.toks + (ps.zip vals).length }) ekf ((ek _).trans k15) (ecl ▸ k16) hcell ?_ (by decide)
 have hD0 := X0 _ _ hD
 have hx0 := kp0 _ _ hx
 refine loc (hps ▸ .head _) ha (fun b o _ e => e) ?_
 refine ks_wpAny_isType_cls hD0 hDt ⟨rfl, ?_⟩
 refine ks_wpAny_call_super hD0 hDt hx0 hxc hnc (hsub _ X0) fun h1 hso kp1 => ?_
 have b1 : But x s { s with heap := h1, toks := s.toks + (ps.zip vals).length } := ⟨fun b o _ e => kp1 b o (kp0 b o e), _, _, rfl⟩
 have hx1 := kp1 _ _ hx0
 refine wpAny_mono (hsup ev { s with heap := h1, toks := s.toks + (ps.zip vals).length } h0.objs.size _ b1 hx1 hso fun {Q s2} b2 hq => wpAny_Name (loc hpb hb (fun c o n e => b2.1 c o n (kp1 c o e)) hq) (bad _ hpb)) (fun fx s2 h2 => wpAny_mono h2 (fun _ s3 ⟨b3, m3⟩ => ?_) fun _ _ h => h.elim) fun _ _ h => h.elim
 refine wpAt_of_wpAny (wpAny_execs_cons (plainObj_wpAny_Assign_Attribute (wpAny_Name (loc hpu hu (fun c o n e => b3.1 c o n (kp1 c o e)) (wpAny_Name (loc (hps ▸ .head _) ha (fun c o n e => b3.1 c o n (kp1 c o e)) ?_) (bad _ (hps ▸ .head _)))) (bad _ hpu))))
 exact wpAny_mono (hset _ _ (b1.trans b3) m3) (fun _ s4 h4 => wpAny_execs_nil h4) fun _ _ h => h.elim
end
theorem zfL {M : Model} {A : Around} {E : Value -> Shared -> Prop} {s : Shared} {f : Value} {pos : Pos} {ev : Env} {e : PySem.Expr} {Q : Args -> Shared -> Prop} (hs : zap e = false) (h : wpAny M A (eval e ev) (fun v s1 => Q ⟨[v], []⟩ s1) E s) :
  wpAny M A (evalArgs f true (backTo pos (starEach [e] ev)) []) Q E s := by
 have hq : wpAny M A (spliced (backTo pos (starEach [e] ev))) (fun vs s' => Q ⟨vs, []⟩ s') E s := spliced_more (wpAny_mono h (fun v s1 h1 => spliced_none h1) fun _ _ x => x) (by cases e <;> first | rfl | cases hs)
 rw [zdL hs] at hq ⊢
 exact evalArgs_plain hq
theorem zdZ {M : Model} {h : Heap} {m x f : Addr} {of : Obj} {fd : FuncData} (hm : h.get? m = some { cls := .type "method", data := .fields #[.ref f, .ref x] }) (hf : h.get? f = some of) (hd : of.data = .func fd) : Looks M h (keeperOf (.ref m)) .boundFrame := by
 obtain ⟨oc, od, oda, osl⟩ := of
 dsimp only at hd
 subst hd
 unfold keeperOf
 exact (Looks.ld hm).andThen ((Looks.ld hf).andThen .now)
section
variable {S : Sta} {A : Around} {s : Shared} {f x C D : Addr}
theorem zdV {M : Model} {h : Heap} {K : Frag} {C : Addr} {cd : ClassData} (X : K.In h) (hc : clsIn K C = some cd) : Looks M h (mroOf (.ref C)) cd.mro := (looks_clsIn X hc).andThen .now
noncomputable def FdDone (S : Sta) (C x : Addr) (vs : Array Value) (v : Value) (s s' : Shared) : Prop :=
 But x s s' /\ ∃ T dx tk, s'.heap.get? x = some { cls := .ref C, dict := some dx, data := .fields (vs.setIfInBounds 0 (.ref T)) } /\ s.heap.get? dx = none /\ dx ≠ x /\ s'.heap.get? dx = some (dictOf [⟨PyData.keyHash S.w.params (Str.ofString "what"), .str (Str.ofString "what") tk, v⟩] 1)
theorem zho (ok : StaOk S) (si : SupIn S) {a b : Str} {v : Value} {p0 p1 p2 p3 p4 p5 p6 p7 p8 p9 : Pos} (hpp : (p2.endLine == p4.line) = true) (hab : a ≠ b) (hi : InitFn S f D [a, b] (zbJ a b (Str.ofString "what") b p0 p1 p2 p3 p4 p5 p6 p7 p8 p9))
  (room : A.depth < recursionLimit) (st : S.B.StaysIn s.heap) {vs : Array Value} {t0 : Addr} (hx : s.heap.get? x = some { cls := .ref C, data := .fields vs }) (h0 : vs[0]? = some (.ref t0)) (nx : S.B.get? x = none)
  {oD oC : Obj} {cdD cd : ClassData} (hD : S.K.lookup D = some oD) (hDt : oD.data = .cls cdD) (hC : S.K.lookup C = some oC) (hCt : oC.data = .cls cd) (hD2 : mroIn S.K C (.ref D) = some true) (ht : zaz cd.mro = true) (hd : cd.hasDict = true) (hno : nsIn S.K cStatics "thirdparty.any" = some none)
  (hal : alongIn S.K "__init__" ((cd.mro.dropWhile (· != .ref D)).drop 1) = some (some (.builtin "Exception.__init__"))) (hsa : findIn S.K (.ref C) "__setattr__" = some (some (.builtin "object.__setattr__"))) (htk : takerIn S.K C (Str.ofString "what") = some none) {R : Result -> Shared -> Prop}
  (hR : ∀ s', FdDone S C x vs v s s' -> R (.ok (.ret .none)) s') : codeAny S.M A (.call (.ref f) ⟨[.ref x, v], []⟩) R s := by
 have kx : S.K.lookup x = none := by
  cases q : S.K.lookup x with
  | none => rfl
  | some o => have := ok.K _ _ q; rw [nx] at this; cases this
 have hc : clsIn S.K C = some cd := by unfold clsIn; rw [hC]; obtain ⟨_, _, _, _⟩ := oC; cases hCt; rfl
 have xC : x ≠ C := fun q => by rw [q, hC] at kx; cases kx
 obtain ⟨_, _, hE, ne⟩ := zbs (.ref x) ht
 have hExc : ∀ h, S.K.In h -> Looks S.M h (isSubtype (.ref C) (.type "Exception")) true := fun h X => looks_mroIn X (by unfold mroIn; rw [hc, Option.bind_some, if_neg (by rw [ne]; decide), hE])
 have X : S.K.In s.heap := fun b o e => st _ _ (ok.K b o e)
 have ha : ([a, b].zip [Value.ref x, v]).reverse.lookup a = some (.ref x) := by
  show List.lookup a [(b, v), (a, .ref x)] = _
  rw [List.lookup_cons, show (a == b) = false from beq_eq_false_iff_ne.mpr hab, List.lookup_cons, beq_self_eq_true]
 have hb : ([a, b].zip [Value.ref x, v]).reverse.lookup b = some v := by
  show List.lookup b [(b, v), (a, .ref x)] = _
  rw [List.lookup_cons, beq_self_eq_true]
 refine zd5 (Mid := fun s3 => ∃ T, s3.heap.get? x = some { cls := .ref C, data := .fields (vs.setIfInBounds 0 (.ref T)) }) ok si hpp hi ⟨_, rfl⟩ (.tail _ (.head _)) (.tail _ (.head _)) (by simp [hab]) rfl ha hb hb room st hx rfl (by nofun) kx nx hD hDt (fun h X => looks_mroIn X hD2) ?_ ?_
 ·intro ev s1 so pl b1 hx1 hso hload
  have X1 : S.K.In s1.heap := b1.kin X kx
  obtain ⟨h1, g1, d1, t1, os1⟩ := s1
  refine zdp hso (looks_opaque X1 hno) (zdV X1 hc) rfl X1 hal hx1 rfl (hExc _ X1) xC (by decide) ?_
  have up : ∀ c o, h1.get? c = some o -> (h1.push { cls := .type "method-wrapper", data := .fields #[.builtin "Exception.__init__", .ref x] }).get? c = some o := fun c o e => Heap.get?_push_of_some _ e
  have hbm : (h1.push { cls := .type "method-wrapper", data := .fields #[.builtin "Exception.__init__", .ref x] }).get? h1.objs.size = some { cls := .type "method-wrapper", data := .fields #[.builtin "Exception.__init__", .ref x] } := Heap.get?_push_at rfl rfl
  refine callWith_of (P := fun h => h.get? h1.objs.size = some { cls := .type "method-wrapper", data := .fields #[.builtin "Exception.__init__", .ref x] }) rfl (fun h hm => ⟨.machine, .inr (.inl rfl), zf2 hm⟩) (zfL rfl ?_)
  refine hload ⟨fun c o _ e => up c o e, _, _, rfl⟩ ⟨hbm, ?_⟩
  refine zjp hbm (up _ _ hx1) rfl (up _ _ (X1 _ _ hC)) hCt rfl h0 fun h2 hx2 kp2 => ?_
  exact ⟨⟨fun c o n e => kp2 c o n (up c o e), _, _, rfl⟩, _, hx2⟩
 ·intro A' s3 b3 hT
  obtain ⟨T, hx3⟩ := hT
  have X3 : S.K.In s3.heap := b3.kin X kx
  refine set_plain X3 (od := none) ⟨hx3, rfl, rfl, trivial⟩ hsa (zgX (s := { s3 with toks := s3.toks + 1 }) (od' := dictOf [⟨PyData.keyHash S.w.params (Str.ofString "what"), .str (Str.ofString "what") (s3.toks + 1), v⟩] 1) X3 hx3 hc ht htk hd rfl rfl (by show 1 <= 1000; decide) fun h' g1 g2 g3 => hR _ ⟨b3.trans ⟨g3, _, _, rfl⟩, T, s3.heap.objs.size, s3.toks + 1, g1, ?_, Nat.ne_of_gt (Heap.lt_size hx3), g2⟩)
  cases q : s.heap.get? s3.heap.objs.size with
  | none => rfl
  | some o =>
   have := Heap.lt_size (b3.1 _ _ (Nat.ne_of_gt (Heap.lt_size hx3)) q)
   exact absurd this (Nat.lt_irrefl _)
theorem FdDone.pre {vs : Array Value} {v : Value} {s1 s' : Shared} (d : FdDone S C x vs v s1 s') (b : But x s s1) : FdDone S C x vs v s s' := by
 obtain ⟨b2, T, dx, tk, h1, h2, h3, h4⟩ := d
 refine ⟨b.trans b2, T, dx, tk, h1, ?_, h3, h4⟩
 cases q : s.heap.get? dx with
 | none => rfl
 | some o => have := b.1 _ _ h3 q; rw [h2] at this; cases this
noncomputable def znv (S : Sta) (C x : Addr) (vs : Array Value) (v u : Value) (s s' : Shared) : Prop :=
 But x s s' /\ ∃ T dx tk tk2, s'.heap.get? x = some { cls := .ref C, dict := some dx, data := .fields (vs.setIfInBounds 0 (.ref T)) } /\ s.heap.get? dx = none /\ dx ≠ x /\
  s'.heap.get? dx = some (dictOf [⟨PyData.keyHash S.w.params (Str.ofString "what"), .str (Str.ofString "what") tk, v⟩, ⟨PyData.keyHash S.w.params (Str.ofString "spot"), .str (Str.ofString "spot") tk2, u⟩] 2)
theorem zkc (ok : StaOk S) (si : SupIn S) {a b c : Str} {v u : Value} {p0 p1 p2 p3 p4 p5 p6 p7 p8 p9 : Pos} (hpp : (p2.endLine == p4.line) = true) (hab : a ≠ b) (hac : a ≠ c) (hbc : b ≠ c) (hi : InitFn S f D [a, b, c] (zbJ a b (Str.ofString "spot") c p0 p1 p2 p3 p4 p5 p6 p7 p8 p9))
  (room : A.depth + 1 < recursionLimit) (st : S.B.StaysIn s.heap) {vs : Array Value} {t0 : Addr} (hx : s.heap.get? x = some { cls := .ref C, data := .fields vs }) (h0 : vs[0]? = some (.ref t0)) (nx : S.B.get? x = none)
  {oD oC of : Obj} {cdD cd : ClassData} {f2 : Addr} {fd : FuncData} (hD : S.K.lookup D = some oD) (hDt : oD.data = .cls cdD) (hC : S.K.lookup C = some oC) (hCt : oC.data = .cls cd) (hD2 : mroIn S.K C (.ref D) = some true) (ht : zaz cd.mro = true) (hd : cd.hasDict = true) (hno : nsIn S.K cStatics "thirdparty.any" = some none)
  (hal : alongIn S.K "__init__" ((cd.mro.dropWhile (· != .ref D)).drop 1) = some (some (.ref f2))) (hf2 : S.K.lookup f2 = some of) (hft : of.cls = .type "function") (hfd : of.data = .func fd) (hsa : findIn S.K (.ref C) "__setattr__" = some (some (.builtin "object.__setattr__"))) (htk : takerIn S.K C (Str.ofString "spot") = some none) {R : Result -> Shared -> Prop}
  (hrec : ∀ {A' s1} {R' : Result -> Shared -> Prop}, A'.depth <= A.depth + 1 -> S.B.StaysIn s1.heap -> s1.heap.get? x = some { cls := .ref C, data := .fields vs } -> (∀ s', FdDone S C x vs v s1 s' -> R' (.ok (.ret .none)) s') -> codeAny S.M A' (.call (.ref f2) ⟨[.ref x, v], []⟩) R' s1)
  (hR : ∀ s', znv S C x vs v u s s' -> R (.ok (.ret .none)) s') : codeAny S.M A (.call (.ref f) ⟨[.ref x, v, u], []⟩) R s := by
 have kx : S.K.lookup x = none := by
  cases q : S.K.lookup x with
  | none => rfl
  | some o => have := ok.K _ _ q; rw [nx] at this; cases this
 have hc : clsIn S.K C = some cd := by unfold clsIn; rw [hC]; obtain ⟨_, _, _, _⟩ := oC; cases hCt; rfl
 have xC : x ≠ C := fun q => by rw [q, hC] at kx; cases kx
 have X : S.K.In s.heap := fun b o e => st _ _ (ok.K b o e)
 have ha : ([a, b, c].zip [Value.ref x, v, u]).reverse.lookup a = some (.ref x) := by
  show List.lookup a [(c, u), (b, v), (a, .ref x)] = _
  rw [List.lookup_cons, show (a == c) = false from beq_eq_false_iff_ne.mpr hac, List.lookup_cons, show (a == b) = false from beq_eq_false_iff_ne.mpr hab, List.lookup_cons, beq_self_eq_true]
 have hb : ([a, b, c].zip [Value.ref x, v, u]).reverse.lookup b = some v := by
  show List.lookup b [(c, u), (b, v), (a, .ref x)] = _
  rw [List.lookup_cons, show (b == c) = false from beq_eq_false_iff_ne.mpr hbc, List.lookup_cons, beq_self_eq_true]
 have hu : ([a, b, c].zip [Value.ref x, v, u]).reverse.lookup c = some u := by
  show List.lookup c [(c, u), (b, v), (a, .ref x)] = _
  rw [List.lookup_cons, beq_self_eq_true]
 refine zd5 (Mid := fun s3 => FdDone S C x vs v s s3) ok si hpp hi ⟨_, rfl⟩ (.tail _ (.head _)) (.tail _ (.tail _ (.head _))) (by simp [hab, hac, hbc]) rfl ha hb hu (by omega) st hx rfl (by nofun) kx nx hD hDt (fun h X => looks_mroIn X hD2) ?_ ?_
 ·intro ev s1 so pl b1 hx1 hso hload
  have X1 : S.K.In s1.heap := b1.kin X kx
  obtain ⟨h1, g1, d1, t1, os1⟩ := s1
  refine ks_wpAny_getMethod_super hso (looks_opaque X1 hno) (zdV X1 hc) rfl X1 hal (X1 _ _ hf2) hft xC (by decide) ?_
  have up : ∀ c o, h1.get? c = some o -> (h1.push { cls := .type "method", data := .fields #[.ref f2, .ref x] }).get? c = some o := fun c o e => Heap.get?_push_of_some _ e
  have hbm : (h1.push { cls := .type "method", data := .fields #[.ref f2, .ref x] }).get? h1.objs.size = some { cls := .type "method", data := .fields #[.ref f2, .ref x] } := Heap.get?_push_at rfl rfl
  have ne : h1.objs.size ≠ x := Nat.ne_of_gt (Heap.lt_size hx1)
  refine callWith_of (P := fun h => h.get? h1.objs.size = some { cls := .type "method", data := .fields #[.ref f2, .ref x] } /\ h.get? f2 = some of) rfl (fun h hm => ⟨.boundFrame, .inr (.inr rfl), zdZ hm.1 hm.2 hfd⟩) (zfL rfl ?_)
  refine hload ⟨fun c o _ e => up c o e, _, _, rfl⟩ ⟨⟨hbm, up _ _ (X1 _ _ hf2)⟩, ?_⟩
  refine wpAny_call (ks_codeAny_call_bound hbm ?_)
  have stx : S.B.StaysIn h1 := fun b o e => b1.1 b o (fun q => by rw [q, nx] at e; cases e) (st b o e)
  refine hrec (by show A.depth + 1 <= _; omega) (fun b o e => up _ _ (stx b o e)) (up _ _ hx1) fun s' hs' => ?_
  have b2 : But x ⟨h1, g1, d1, t1, os1⟩ ⟨h1.push { cls := .type "method", data := .fields #[.ref f2, .ref x] }, g1, d1, t1 + 1, os1⟩ := ⟨fun c o _ e => up c o e, _, _, rfl⟩
  exact ⟨b2.trans hs'.1, hs'.pre (b1.trans b2)⟩
 ·intro A' s3 b3 hm
  have X3 : S.K.In s3.heap := b3.kin X kx
  obtain ⟨_, T, dx, tk, hx3, hn, ne, hd3⟩ := hm
  refine set_plain X3 (od := some (dictOf [⟨PyData.keyHash S.w.params (Str.ofString "what"), .str (Str.ofString "what") tk, v⟩] 1)) ⟨hx3, rfl, rfl, hd3⟩ hsa (ziN (s := { s3 with toks := s3.toks + 1 }) (od' := dictOf [⟨PyData.keyHash S.w.params (Str.ofString "what"), .str (Str.ofString "what") tk, v⟩, ⟨PyData.keyHash S.w.params (Str.ofString "spot"), .str (Str.ofString "spot") (s3.toks + 1), u⟩] 2) X3 hx3 rfl rfl hd3 hc ht htk hd rfl rfl rfl (by show 2 <= 1000; decide) fun h' g1 g2 => hR _ ?_)
  refine ⟨⟨fun b o q e => ?_, by obtain ⟨_, _, rfl⟩ := b3.2; exact ⟨_, _, rfl⟩⟩, T, dx, tk, s3.toks + 1, (g2 x ne.symm).trans hx3, hn, ne, g1⟩
  have nd : b ≠ dx := fun q => by rw [q, hn] at e; cases e
  exact (g2 b nd).trans (b3.1 b o q e)
end
end Mine.Lake
namespace Mine.Lake
open PySem PySem.W PySem.Calls
theorem zk4 {l : List Value} (h : zaz l = true) : l.contains (.type "AttributeError") = false /\ l.contains (.type "NameError") = false :=
 zcH (P := fun l => l.contains (.type "AttributeError") = false /\ l.contains (.type "NameError") = false) ⟨by decide, by decide⟩
  (fun c r ⟨h1, h2⟩ => ⟨by rw [List.contains_cons, h1]; rfl, by rw [List.contains_cons, h2]; rfl⟩) h
section
variable {prog : Program} {w : World} {A : Around} {h : Heap} {g : Array GenState} {d : Drawn} {t : Nat} {os : OsState}
variable {nm q : Str} {C N : Addr} {bs bm : List Value} {hdct : Bool} {sn : List Str} {sub : List Value} {ab : Bool} {col : Option Bool} {dd : Option Addr} {k0 k1 k2 k3 k5 : Option Value}
theorem zdC {M : Model} {E : Value -> Shared -> Prop} (ht : zaz (.ref C :: bm) = true) {rest : List Value} {Q : Unit -> Shared -> Prop} (hC : h.get? C = some (excClassObj nm q C N bs bm hdct sn sub ab col dd k0 k1 k2 k3 k5 "Exception.__new__"))
  (hq : Q () ⟨h, g, d, t, os⟩) : wpAny M A (checkBuiltinCall "Exception.__new__" ⟨.ref C :: rest, []⟩) Q E ⟨h, g, d, t, os⟩ := by
 have Fn := PySem.F.excBase_Exception
 have hcont := (zbs (.ref C) ht).2.2.1
 have hstar := Fn.noStar
 simp only [checkBuiltinCall, Fn.newKind, Fn.newSplit, Fn.newRow]
 repeat (first | refine wpAny_loadPart_at hC ?_ | (refine wpAny_isSubtype_exc hC ?_; rw [hcont]) | refine wpAny_staticBase_exc hC ?_ | refine wpAny_madeBy_exc hC ?_ | simp only [bne_self_eq_false, Bool.false_eq_true, if_false] | wp_step)
 exact hq
theorem zkF {R : Result -> Shared -> Prop} (ht : zaz (.ref C :: bm) = true) {rest : List Value} (hC : h.get? C = some (excClassObj nm q C N bs bm hdct sn sub ab col dd k0 k1 k2 k3 k5 "Exception.__new__"))
  (hq : R (.ok (.ret (.ref (h.objs.size + 1)))) ⟨(h.push { cls := .type "tuple", data := .seq rest.toArray }).push { cls := .ref C, data := .fields #[.ref h.objs.size, .none, .none, .none, .bool false, .none] }, g, d, t, os⟩) (hrest : rest.length <= sizeLine) :
  codeAny (model prog w) A (.builtin "Exception.__new__" ⟨.ref C :: rest, []⟩) R ⟨h, g, d, t, os⟩ := by
 have Fn := PySem.F.excBase_Exception
 have hends := Fn.ends
 have hcB := (zbs (.ref C) ht).2.2.1
 obtain ⟨hcA, hcN⟩ := zk4 ht
 refine codeAny_builtinAt Fn.entry ?_
 unfold Builtin.«BaseException.__new__»
 refine wpAt_bind ?_
 show wpAt _ _ _ (stack >>= _) _ _ _
 refine wpAt_bind (wpAt_stack fun p below => wpAt_of_wpAny ?_)
 wp_walk
 refine wpAt_of_wpAny ?_
 rw [Fn.owner]
 repeat (first | with_reducible refine wpAny_madeHere_exc Fn.canon hC ?_ | with_reducible refine wpAny_loadPart_at hC ?_ | (with_reducible refine wpAny_isSubtype_exc hC ?_; first | rw [hcB] | rw [hcA] | rw [hcN]) | wp_step)
 show R _ _
 rw [Heap.size_push]
 exact hq
theorem zdc {E : Value -> Shared -> Prop} {K : Frag} {f : Addr} (ht : zaz (.ref C :: bm) = true) {rest : List Value} {Q : Fin -> Shared -> Prop} (hC : h.get? C = some (excClassObj nm q C N bs bm hdct sn sub ab col dd k0 k1 k2 k3 k5 "Exception.__new__")) (X : K.In h) (hf : findIn K (.ref C) "__init__" = some (some (.ref f))) (hft : typeIn K (.ref f) = some (.type "function")) (hrest : rest.length <= sizeLine)
  (hq : codeAny (model prog w) A (.call (.ref f) ⟨.ref (h.objs.size + 1) :: rest, []⟩) (fun r s' => r = .ok (.ret .none) /\ Q (.done (.ret (.ref (h.objs.size + 1)))) s') ⟨(h.push { cls := .type "tuple", data := .seq rest.toArray }).push { cls := .ref C, data := .fields #[.ref h.objs.size, .none, .none, .none, .bool false, .none] }, g, d, t, os⟩) :
  wpAny (model prog w) A (Builtin.«type.__call__» ⟨.ref C :: rest, []⟩) Q E ⟨h, g, d, t, os⟩ := by
 have Fn := PySem.F.excBase_Exception
 repeat (first | with_reducible refine wpAny_loadPart_at hC ?_ | with_reducible refine wpAny_madeBy_exc hC ?_ | wp_step)
 refine codeAny_call_builtin_code (Code.quiet_builtin _ Fn.quiet) (zdC ht hC ?_)
 refine zkF ht hC ?_ hrest
 show wpAny _ _ _ _ _ _
 have up : ∀ b o, h.get? b = some o -> ((h.push { cls := .type "tuple", data := .seq rest.toArray }).push { cls := .ref C, data := .fields #[.ref h.objs.size, .none, .none, .none, .bool false, .none] }).get? b = some o := fun b o e => Heap.get?_push_of_some _ (Heap.get?_push_of_some _ e)
 have hC₁ := up _ _ hC
 have hget : ((h.push { cls := .type "tuple", data := .seq rest.toArray }).push
   { cls := .ref C, data := .fields #[.ref h.objs.size, .none, .none, .none, .bool false, .none] }).get? (h.objs.size + 1) = some
   { cls := .ref C, data := .fields #[.ref h.objs.size, .none, .none, .none, .bool false, .none] } := by heap_get
 have hcC : (Value.ref C :: bm).contains (.ref C) = true := by simp
 have X1 : K.In ((h.push { cls := .type "tuple", data := .seq rest.toArray }).push { cls := .ref C, data := .fields #[.ref h.objs.size, .none, .none, .none, .bool false, .none] }) := fun b o e => up _ _ (X b o e)
 unfold isInstance
 repeat (first | with_reducible refine wpAny_loadPart_at hget ?_ | (with_reducible refine wpAny_isSubtype_exc hC₁ ?_; rw [hcC]) | wp_step)
 show wpAny _ _ (typeLookup (.ref C) _) _ _ _
 refine Looks.at (looks_findIn X1 hf) ?_
 refine wpAny_holding (wpAny_bind (Looks.at (bind_fn X1 _ hft) ?_))
 refine wpAny_bind (wpAny_call (codeAny_mono hq fun r s' hr => ?_))
 obtain ⟨rfl, hr⟩ := hr
 wp_walk
 exact hr
theorem zcc {E : Value -> Shared -> Prop} {K : Frag} {f : Addr} (ht : zaz (.ref C :: bm) = true) {rest : List Value} {Q : Value -> Shared -> Prop} (hC : h.get? C = some (excClassObj nm q C N bs bm hdct sn sub ab col dd k0 k1 k2 k3 k5 "Exception.__new__")) (X : K.In h) (hf : findIn K (.ref C) "__init__" = some (some (.ref f))) (hft : typeIn K (.ref f) = some (.type "function")) (hrest : rest.length <= sizeLine)
  (hq : ∀ A', A'.depth <= A.depth + 1 -> codeAny (model prog w) A' (.call (.ref f) ⟨.ref (h.objs.size + 1) :: rest, []⟩) (fun r s' => r = .ok (.ret .none) /\ Q (.ref (h.objs.size + 1)) s') ⟨(h.push { cls := .type "tuple", data := .seq rest.toArray }).push { cls := .ref C, data := .fields #[.ref h.objs.size, .none, .none, .none, .bool false, .none] }, g, d, t, os⟩) :
  wpAny (model prog w) A (call (.ref C) rest) Q E ⟨h, g, d, t, os⟩ := by
 have f1 := tc_lookup
 have f2 := tc_bind (.ref C)
 have hT : (⟨h, g, d, t, os⟩ : Shared).TypeIs (.ref C) "type" := ⟨_, hC, rfl⟩
 refine wpAny_call (codeAny_of_tree ?_)
 show wpAny _ _ (callAny (.ref C) _) _ _ _
 repeat (any_goals (first | assumption | with_reducible refine wpAny_loadPart_at hC ?_ | wp_step))
 refine ⟨rfl, ?_⟩
 refine codeAny_call_builtin_at (Code.quiet_builtin _ (by decide +kernel)) entry_typeCall (wpAny_check_type_call_sub hC (zdc ht hC X hf hft hrest (hq _ ?_)))
 exact Nat.le_refl _
end
end Mine.Lake
namespace Mine.Lake
open PySem PySem.W PySem.Calls PySem.SeqAt
inductive IniD (S : Sta) (f D : Addr) : Prop
 | mk (a b : Str) (p0 p1 p2 p3 p4 p5 p6 p7 p8 p9 : Pos) (hab : a ≠ b) (hpp : (p2.endLine == p4.line) = true) (hi : InitFn S f D [a, b] (zbJ a b (Str.ofString "what") b p0 p1 p2 p3 p4 p5 p6 p7 p8 p9))
inductive IniP (S : Sta) (f D : Addr) : Prop
 | mk (a b c : Str) (p0 p1 p2 p3 p4 p5 p6 p7 p8 p9 : Pos) (hab : a ≠ b) (hac : a ≠ c) (hbc : b ≠ c) (hpp : (p2.endLine == p4.line) = true) (hi : InitFn S f D [a, b, c] (zbJ a b (Str.ofString "spot") c p0 p1 p2 p3 p4 p5 p6 p7 p8 p9))
inductive ClsExc (S : Sta) (C : Addr) : Prop
 | mk (nm q : Str) (N : Addr) (bs bm : List Value) (sn : List Str) (sub : List Value) (ab : Bool) (col : Option Bool) (dd : Option Addr) (k0 k1 k2 k3 k5 : Option Value) (h : S.K.lookup C = some (excClassObj nm q C N bs bm true sn sub ab col dd k0 k1 k2 k3 k5 "Exception.__new__")) (t : zaz (.ref C :: bm) = true)
inductive ClsAt (K : Frag) (C : Addr) : Prop
 | mk (o : Obj) (cd : ClassData) (h : K.lookup C = some o) (d : o.data = .cls cd)
structure ExcK (S : Sta) (D P fD fP : Addr) : Prop where
 si : SupIn S
 cls : ∀ b, ClsExc S (S.ec b)
 f0 : findIn S.K (.ref (S.ec false)) "__init__" = some (some (.ref fP))
 f1 : findIn S.K (.ref (S.ec true)) "__init__" = some (some (.ref fD))
 tP : typeIn S.K (.ref fP) = some (.type "function")
 tD : typeIn S.K (.ref fD) = some (.type "function")
 iD : IniD S fD D
 iP : IniP S fP P
 cD : ClsAt S.K D
 cP : ClsAt S.K P
 mD : ∀ b, mroIn S.K (S.ec b) (.ref D) = some true
 mP : mroIn S.K (S.ec false) (.ref P) = some true
 aD : ∀ b, (clsIn S.K (S.ec b)).bind (fun cd => alongIn S.K "__init__" ((cd.mro.dropWhile (· != .ref D)).drop 1)) = some (some (.builtin "Exception.__init__"))
 aP : (clsIn S.K (S.ec false)).bind (fun cd => alongIn S.K "__init__" ((cd.mro.dropWhile (· != .ref P)).drop 1)) = some (some (.ref fD))
 no : nsIn S.K cStatics "thirdparty.any" = some none
 sa : ∀ b, findIn S.K (.ref (S.ec b)) "__setattr__" = some (some (.builtin "object.__setattr__"))
 tw : ∀ b, takerIn S.K (S.ec b) (Str.ofString "what") = some none
 ts : takerIn S.K (S.ec false) (Str.ofString "spot") = some none
section
variable {S : Sta} {nd : Nat} {D P fD fP : Addr}
theorem zd9 {P : Prop} {lim : Bool} {ds : List V} {exc : Exc} (he : zf6 lim ds = some exc) (k1 : ∀ a w, ds = [a] -> a = .pd (.str w) -> lim = true -> exc = ⟨true, w, .none⟩ -> P) (k2 : ∀ a b w d, ds = [a, b] -> a = .pd (.str w) -> b = .pd d -> lim = false -> exc = ⟨false, w, d⟩ -> P) : P := by
 cases ds with
 | nil => cases he
 | cons a r =>
  cases r with
  | nil => exact bd_e he fun w hw he => gd_e he fun hl e => k1 a w rfl (zb6 hw) hl e.symm
  | cons b r =>
   cases r with
   | nil => exact bd_e he fun w hw he => bd_e he fun d hd he => gd_e he fun hl e => k2 a b w d rfl (zb6 hw) (zbv hd) hl e.symm
   | cons => cases he
theorem zk3 {h : Heap} {g : Gh} {vs : List Value} {ds : List V} {exc : Exc} (he : zf6 true ds = some exc) (r : VRs S h g vs ds) : ∃ v w, vs = [v] /\ exc = ⟨true, w, .none⟩ /\ PV S.w.params h g.κ v (.str w) := by
 refine zd9 he (fun a w e1 e2 _ e => ?_) fun a b w d _ _ _ q => by cases q
 obtain ⟨v, q, r1⟩ := vrs1 (e1 ▸ r)
 exact ⟨v, w, q, e, zbu (e2 ▸ r1)⟩
theorem zk1 {h : Heap} {g : Gh} {vs : List Value} {ds : List V} {exc : Exc} (he : zf6 false ds = some exc) (r : VRs S h g vs ds) : ∃ v u w d, vs = [v, u] /\ exc = ⟨false, w, d⟩ /\ PV S.w.params h g.κ v (.str w) /\ PV S.w.params h g.κ u d := by
 refine zd9 he (fun a w _ _ q => by cases q) fun a b w d e1 e2 e3 _ e => ?_
 obtain ⟨v, u, q, r1, r2⟩ := vrs2 (e1 ▸ r)
 exact ⟨v, u, w, d, q, e, zbu (e2 ▸ r1), zbu (e3 ▸ r2)⟩
theorem zfy {fr : List Env} {g : Gh} {σ : Hp} {s s0 s' : Shared} {x T dx : Addr} {exc : Exc} {es : List DictEntry} {n : Nat} {mp : Str -> Option Value} (I : Inv S fr g σ s.heap) (up : ∀ b o, s.heap.get? b = some o -> s0.heap.get? b = some o) (b : But x s0 s') (r0 : Rest s s0)
  (nx : s.heap.get? x = none) (hdn : s0.heap.get? dx = none) (ne : dx ≠ x) (hx : s'.heap.get? x = some { cls := .ref (S.ec exc.lim), dict := some dx, data := .fields #[.ref T, .none, .none, .none, .bool false, .none] }) (hd : s'.heap.get? dx = some (dictOf es n)) (hns : s'.heap.Ns dx mp)
  (hw : ∃ v, mp (Str.ofString "what") = some v /\ PV S.w.params s.heap g.κ v (.str exc.what)) (hsp : exc.lim = false -> ∃ v, mp (Str.ofString "spot") = some v /\ PV S.w.params s.heap g.κ v exc.spot) :
  ExcNew S fr g σ s exc (.ref x) s' := by
 have kp : ∀ c o, s.heap.get? c = some o -> s'.heap.get? c = some o := fun c o e => b.1 c o (fun z => by rw [z, nx] at e; cases e) (up _ _ e)
 have ndx : s.heap.get? dx = none := by
  cases z : s.heap.get? dx with
  | none => rfl
  | some o => rw [up _ _ z] at hdn; cases hdn
 obtain ⟨I1, E1⟩ := I.keeps kp
 obtain ⟨I2, E2, U2⟩ := Inv.seal (k := .fz) E1 I1 ndx (I.ot _ ndx) (fun _ _ _ e => e) hd
 obtain ⟨I3, E3, U3⟩ := Inv.seal (k := .ex) E2 I2 nx ((if_neg ne.symm).trans (I.ot _ nx)) (fun _ _ _ e => e) hx
 refine ⟨x, _, rfl, E3, I3, ⟨if_pos rfl, _, _, dx, mp, hx, rfl, rfl, rfl, (by show 1 < 6; decide), (if_neg ne).trans (if_pos rfl), hns, ?_, fun q => ?_, .inl ⟨rfl, rfl⟩⟩, ?_⟩
 ·obtain ⟨v, h1, h2⟩ := hw; exact ⟨v, h1, h2.mono E3.fz⟩
 ·obtain ⟨v, h1, h2⟩ := hsp q; exact ⟨v, h1, h2.mono E3.fz⟩
 ·obtain ⟨_, _, _, rfl⟩ := b; exact r0.trans ⟨rfl, rfl, rfl⟩
theorem zkD {h : Heap} {dx : Addr} {hs : Int} {tk : Tok} {v : Value} (e : h.get? dx = some (dictOf [⟨hs, .str (Str.ofString "what") tk, v⟩] 1)) : ∃ mp, h.Ns dx mp /\ mp (Str.ofString "what") = some v :=
 ⟨_, ⟨_, _, _, e, rfl, fun a ha => by simp at ha; subst ha; exact ⟨_, _, rfl⟩, fun _ => rfl⟩, rfl⟩
theorem zkE {h : Heap} {dx : Addr} {hs hs2 : Int} {tk tk2 : Tok} {v u : Value} (e : h.get? dx = some (dictOf [⟨hs, .str (Str.ofString "what") tk, v⟩, ⟨hs2, .str (Str.ofString "spot") tk2, u⟩] 2)) : ∃ mp, h.Ns dx mp /\ mp (Str.ofString "what") = some v /\ mp (Str.ofString "spot") = some u :=
 ⟨_, ⟨_, _, _, e, rfl, fun a ha => by simp at ha; rcases ha with rfl | rfl <;> exact ⟨_, _, rfl⟩, fun _ => rfl⟩, rfl, rfl⟩
noncomputable abbrev newX (h : Heap) (C : Addr) (vs : List Value) : Heap := (h.push { cls := .type "tuple", data := .seq vs.toArray }).push { cls := .ref C, data := .fields #[.ref h.objs.size, .none, .none, .none, .bool false, .none] }
theorem zjM (ok : StaOk S) (k : ExcK S D P fD fP) : ExcMk S nd := by
 refine ⟨fun {A env outer L g σ s vs ds lim exc Ev} c I r he => ?_⟩
 have X := kIn ok I
 obtain ⟨nm, q, N, bs, bm, sn, sub, ab, col, dd, k0, k1, k2, k3, k5, hC, ht⟩ := k.cls lim
 obtain ⟨oD, cdD, hD, hDt⟩ := k.cD
 obtain ⟨a, b, p0, p1, p2, p3, p4, p5, p6, p7, p8, p9, hab, hpp, hi⟩ := k.iD
 obtain ⟨h, gs, d, t, os⟩ := s
 have nx0 : h.get? (h.objs.size + 1) = none := Heap.get?_none_of_le (Nat.le_succ _)
 have nB : S.B.get? (h.objs.size + 1) = none := by
  cases z : S.B.get? (h.objs.size + 1) with
  | none => rfl
  | some o => have := I.stays _ _ z; rw [nx0] at this; cases this
 have up : ∀ b o, h.get? b = some o -> (newX h (S.ec lim) vs).get? b = some o := fun b o e => Heap.get?_push_of_some _ (Heap.get?_push_of_some _ e)
 have hget : (newX h (S.ec lim) vs).get? (h.objs.size + 1) = some { cls := .ref (S.ec lim), data := .fields #[.ref h.objs.size, .none, .none, .none, .bool false, .none] } := by heap_get
 have st : S.B.StaysIn (newX h (S.ec lim) vs) := fun b o e => up _ _ (I.stays b o e)
 have dp := c.depth
 have hC1 := X _ _ hC
 obtain ⟨cd, oC, hc, hm, hh, hC', hCt⟩ : ∃ cd oC, clsIn S.K (S.ec lim) = some cd /\ cd.mro = .ref (S.ec lim) :: bm /\ cd.hasDict = true /\ S.K.lookup (S.ec lim) = some oC /\ oC.data = .cls cd := ⟨_, _, by unfold clsIn; rw [hC], rfl, rfl, hC, rfl⟩
 have ht' : zaz cd.mro = true := by rw [hm]; exact ht
 have hal := k.aD lim
 rw [hc, Option.bind_some] at hal
 cases lim with
 | true =>
  obtain ⟨v, w0, rfl, rfl, rv⟩ := zk3 he r
  refine zcc ht hC1 X k.f1 k.tD (by show 1 <= sizeLine; rw [sizeLine_eq]; omega) fun A' hA => ?_
  refine zho ok k.si hpp hab hi (by omega) st hget rfl nB hD hDt hC' hCt (k.mD true) ht' hh k.no hal (k.sa true) (k.tw true) fun s' hs' => ⟨rfl, ?_⟩
  obtain ⟨b1, T, dx, tk, q1, q2, q3, q4⟩ := hs'
  obtain ⟨mp, n1, n2⟩ := zkD q4
  exact zfy I up b1 ⟨rfl, rfl, rfl⟩ nx0 q2 q3 q1 q4 n1 ⟨_, n2, rv⟩ nofun
 | false =>
  obtain ⟨v, u, w0, d0, rfl, rfl, rv, ru⟩ := zk1 he r
  obtain ⟨oP, cdP, hP, hPt⟩ := k.cP
  have hal2 := k.aP
  rw [hc, Option.bind_some] at hal2
  obtain ⟨a', b', c', p0', p1', p2', p3', p4', p5', p6', p7', p8', p9', hab', hac', hbc', hpp', hi'⟩ := k.iP
  obtain ⟨od, fd, osl, cc, oc1, od1, osl1, co, oc2, od2, osl2, vs2, file, tf, z1⟩ := id hi
  refine zcc ht hC1 X k.f0 k.tP (by show 2 <= sizeLine; rw [sizeLine_eq]; omega) fun A' hA => ?_
  refine zkc ok k.si hpp' hab' hac' hbc' hi' (by omega) st hget rfl nB hP hPt hC' hCt k.mP ht' hh k.no hal2 z1 rfl rfl (k.sa false) k.ts (fun {A2 s1 R'} hA2 st1 hx1 hR1 => ?_) fun s' hs' => ⟨rfl, ?_⟩
  ·exact zho ok k.si hpp hab hi (by omega) st1 hx1 rfl nB hD hDt hC' hCt (k.mD false) ht' hh k.no hal (k.sa false) (k.tw false) hR1
  ·obtain ⟨b1, T, dx, tk, tk2, q1, q2, q3, q4⟩ := hs'
   obtain ⟨mp, n1, n2, n3⟩ := zkE q4
   exact zfy I up b1 ⟨rfl, rfl, rfl⟩ nx0 q2 q3 q1 q4 n1 ⟨_, n2, rv⟩ fun _ => ⟨_, n3, ru⟩
end
end Mine.Lake
namespace Mine.Lake
open PySem PySem.W PyProof.Rows PySem.Calls PySem.SeqAt
theorem zhX {S : Sta} {D P fD fP : Addr} (ok : StaOk3 S) (k2 : KOk2 S) (hn : NewIn S) (xk : ExcK S D P fD fP) (tabs : ∀ f fn, S.tab f = some fn -> FnOk S f fn) : ∀ nd, CallOk S (zaM S.tab S.gc nd) nd
 | 0 => ⟨fun _ _ _ _ h => False.elim h⟩
 | nd + 1 => ⟨fun c I r f0 h => zld ok tabs ⟨zhX ok k2 hn xk tabs nd, zjG ok.toStaOk hn, zjM ok.toStaOk xk⟩ c I r f0 h⟩
theorem zd6 : ∀ {names : Names} {x : Str} {k i : Nat} {kd : NameKind}, zao names x k = some (i, kd) -> (x, kd) ∈ names
 | [], x, k, i, kd, h => by cases h
 | (a, c) :: r, x, k, i, kd, h => by
  unfold zao at h
  split at h
  ·rename_i e; cases h; subst e; exact .head _
  ·exact .tail _ (zd6 h)
noncomputable def zmO (S : Sta) (fd : FuncData) (fn : Fn) (lam : Bool) : Bool := decide (fd.globals = mainGlobals) && decide (fd.builtins = builtinsNs) && fd.closure.isEmpty && (fd.scope.kind == .function) && !fd.scope.isCoroutine && !fd.scope.isGenerator && codeIn S.K fd.code fd.qualname && zbV fd.params && (match fd.defaults with | .none => true | _ => false) &&
 decide ((fd.params.args.map (·.arg)).Nodup) && (psOf fd.scope.names (fd.params.args.map (·.arg)) == some fn.ps) && decide (fn.size = fd.scope.names.length) && fd.scope.names.all (fun p => p.2 != .free) && (!lam || ((match fd.code with | .ref c => decide (c = S.lc) | _ => false) && decide ((fd.qualname ++ ".<locals>.") ++ "<lambda>" = S.lq)))
noncomputable def zfJ (fd : FuncData) : List Stmt := match fd.body with | .stmts b => b | _ => []
noncomputable def fnIn (S : Sta) (f : Nat) (fn : Fn) (lam : Bool) : Bool := match S.K.lookup (S.fa f) with
 | some ⟨_, _, .func fd, _⟩ => (match fd.body with | .stmts _ => true | _ => false) && zmO S fd fn lam
 | _ => false
noncomputable def fdOf (S : Sta) (f : Nat) : Option FuncData := match S.K.lookup (S.fa f) with
 | some ⟨_, _, .func fd, _⟩ => some fd
 | _ => none
theorem zav {S : Sta} (ok : StaOk S) {f : Nat} {fn : Fn} {lam : Bool} {fd : FuncData} (h : fnIn S f fn lam = true) (hd : fdOf S f = some fd) (hc : GSs S fd.scope.names lam (zfJ fd) fn.body) : FnOk S f fn := by
 unfold fnIn at h
 unfold fdOf at hd
 split at h
 ·rename_i oc od fd' osl hl
  rw [hl] at hd
  cases hd
  simp only [Bool.and_eq_true] at h
  obtain ⟨h1, h⟩ := h
  unfold zmO at h
  simp only [Bool.and_eq_true, beq_iff_eq, Bool.not_eq_true', decide_eq_true_eq, List.isEmpty_iff] at h
  obtain ⟨⟨⟨⟨⟨⟨⟨⟨⟨⟨⟨⟨⟨k1, k2⟩, k3⟩, k4⟩, k5⟩, k6⟩, k7⟩, k8⟩, k9⟩, k10⟩, k11⟩, k12⟩, k13⟩, k14⟩ := h
  have hb : fd.body = .stmts (zfJ fd) := by
   unfold zfJ
   split at h1
   ·rename_i q; rw [q]
   ·cases h1
  refine ⟨oc, od, fd, osl, zfJ fd, lam, ok.K _ _ hl, hb, ⟨k1, k2, k3, by revert k4; cases fd.scope.kind <;> decide, k5, k6, codeRec_of ok.K k7, k8, ?_, k10, k11, k12, fun x i q => ?_, fun hlam => ?_⟩, hc⟩
  ·split at k9
   ·assumption
   ·cases k9
  ·have := List.all_eq_true.mp k13 _ (zd6 q)
   exact absurd (show (NameKind.free != NameKind.free) = true from this) (by decide)
  ·rw [hlam] at k14
   simp only [Bool.not_true, Bool.false_or, Bool.and_eq_true, decide_eq_true_eq] at k14
   obtain ⟨m1, m2⟩ := k14
   refine ⟨?_, m2⟩
   split at m1
   ·rename_i c hc; rw [hc, of_decide_eq_true m1]
   ·cases m1
 ·cases h
theorem zjI {K : Frag} {h : Heap} {mg : Str -> Option Value} {n : Str} (X : K.In h) (G : h.Ns mainGlobals mg) (e : nsIn K mainGlobals n = some none) : mg n = none := by
 obtain ⟨o, es, ep, ho, hd, _, hf⟩ := G
 unfold nsIn at e
 split at e
 ·rename_i c d es' n' sl q
  have := X _ _ q
  rw [ho] at this
  cases this
  cases hd
  split at e
  ·cases e
  ·rename_i hn
   rw [← hf]
   simp only [nsFind, findBy, Option.map_eq_none_iff]
   rw [← Array.find?_toList]
   exact hn
 ·cases e
noncomputable def zmN (S : Sta) : Bool := S.cx.funs.all fun p => (p.2 != 0) && keepIn S.K (.ref (S.fa p.2)) && (nsIn S.K mainGlobals p.1 == some (some (.ref (S.fa p.2))))
noncomputable def zkG (S : Sta) : Bool := S.cx.meths.all fun p => (p.2 != 0) && keepIn S.K (.ref (S.fa p.2)) && decide (p.1 ≠ Str.ofString "scope") && (findIn S.K (.ref S.cev) p.1 == some (some (.ref (S.fa p.2)))) && (typeIn S.K (.ref (S.fa p.2)) == some (.type "function"))
structure KSeen (S : Sta) : Prop where
 fu : zmN S = true
 me : zkG S = true
 ek : keepIn S.K (.ref S.cev) = true
 eg : nsIn S.K mainGlobals (Str.ofString "Evaluator") = some (some (.ref S.cev))
 xCl : ∀ b, isClsIn S.K (S.ec b) = true
 xTy : ∀ b, typeIn S.K (.ref (S.ec b)) = some (.type "type")
 xTu : ∀ b, instIn S.K (.ref (S.ec b)) (.type "tuple") = some false
 xEq : ∀ a b, mroIn S.K (S.ec a) (.ref (S.ec b)) = some (a == b)
 xKp : ∀ b, keepIn S.K (.ref (S.ec b)) = true
 xF : nsIn S.K mainGlobals (Str.ofString "EvalFault") = some (some (.ref (S.ec false)))
 xL : nsIn S.K mainGlobals (Str.ofString "LimitFault") = some (some (.ref (S.ec true)))
 fr : ownNames.all (fun x => nsIn S.K mainGlobals x == some none) = true
theorem zod {S : Sta} (ok : StaOk S) (k : KSeen S) : KOk2 S where
 fk := fun x f h => by
  have := List.all_eq_true.mp k.fu _ (zaC h)
  simp only [Bool.and_eq_true, bne_iff_ne, ne_eq] at this
  exact ⟨this.1.1, this.1.2⟩
 mt := fun x f h => by
  have := List.all_eq_true.mp k.me _ (zaC h)
  simp only [Bool.and_eq_true, bne_iff_ne, ne_eq, decide_eq_true_eq, beq_iff_eq] at this
  obtain ⟨⟨⟨⟨h1, h2⟩, h3⟩, h4⟩, h5⟩ := this
  exact ⟨h1, h2, h3, h4, h5⟩
 ek := k.ek
 eg := mg_of ok.K ok.g k.eg
 xCl := k.xCl
 xTy := k.xTy
 xTu := k.xTu
 xEq := k.xEq
 xKp := k.xKp
 xF := mg_of ok.K ok.g k.xF
 xL := mg_of ok.K ok.g k.xL
theorem sta3 {S : Sta} (ok : StaOk S) (k : KSeen S) (ko : KOk S) (cons : ∀ x i, zaW S.cx.cons x = some i -> ∃ v, S.mg x = some v /\ PV S.w.params S.B (fun _ => .fz) v (S.gc i)) : StaOk3 S where
 toStaOk := ok
 cons := cons
 funs := fun x f h => by
  have := List.all_eq_true.mp k.fu _ (zaC h)
  simp only [Bool.and_eq_true, beq_iff_eq] at this
  exact mg_of ok.K ok.g this.2
 free := fun x hx => zjI ok.K ok.g (beq_iff_eq.mp (List.all_eq_true.mp k.fr x hx))
 ko := ko
end Mine.Lake
namespace Mine.Lake
open PySem PySem.W PyProof.Rows
noncomputable abbrev ci (i : Int) : X := .c (.int i)
noncomputable abbrev cz (x : Str) : X := .c (.str x)
noncomputable def fn1 : Fn := ⟨2, [0, 1], [
 .ret (.ite (.op .le (.v 0) (.v 1)) (.tup [.tup [.v 0, .v 1]]) (.tup []))]⟩
noncomputable def fn2 : Fn := ⟨4, [0, 1, 2], [
 .ite (.and (.op .gt (.prim .len [.v 0]) (ci 0)) (.op .le (.v 1) (.op .add (.sub (.sub (.v 0) (.neg (ci 1))) (ci 1)) (ci 1)))) [.ite (.op .gt (.v 2) (.sub (.sub (.v 0) (.neg (ci 1))) (ci 1))) [.seti (.v 0) (.neg (ci 1)) (.tup [.sub (.sub (.v 0) (.neg (ci 1))) (ci 0), .v 2])] []] [.ex (.lm .append (.v 0) [.tup [.v 1, .v 2]])]]⟩
noncomputable def fn3 : Fn := ⟨6, [0], [
 .asg 1 (.lst true []), .for (.n 2) (.prim .sorted [.v 0]) [.ex (.call 2 [.v 1, .v 2, .v 2])], .ret (.prim .tuple [.v 1])]⟩
noncomputable def fn4 : Fn := ⟨5, [0, 1], [
 .for (.t [.n 2, .n 3]) (.v 0) [.ite (.op .le (.v 1) (.v 3)) [.ret (.prim .max [.v 2, .v 1])] []], .ret (.c .none)]⟩
noncomputable def fn5 : Fn := ⟨3, [0, 1], [
 .ret (.op .eq (.call 4 [.v 0, .v 1]) (.v 1))]⟩
noncomputable def fn6 : Fn := ⟨5, [0], [
 .ret (.and (.prim .isi [.v 0, .ty "tuple"]) (.and (.op .eq (.prim .len [.v 0]) (ci 2)) (.prim .isi [.sub (.v 0) (ci 1), .ty "list"])))]⟩
noncomputable def fn7 : Fn := ⟨4, [0], [
 .ret (.and (.prim .isi [.v 0, .ty "tuple"]) (.not (.call 6 [.v 0])))]⟩
noncomputable def fn8 : Fn := ⟨5, [0, 1], [
 .ite (.prim .isi [.v 0, .ty "int"]) [.ret (.prim .int [.v 0])] [], .raise false [cz ⟨#[97,32,110,117,109,98,101,114,32,105,115,32,119,97,110,116,101,100]⟩, .v 1]]⟩
noncomputable def fn9 : Fn := ⟨5, [0, 1], [
 .ite (.prim .isi [.v 0, .ty "bool"]) [.ret (.v 0)] [], .raise false [cz ⟨#[116,114,117,101,32,111,114,32,102,97,108,115,101,32,105,115,32,119,97,110,116,101,100]⟩, .v 1]]⟩
noncomputable def fn10 : Fn := ⟨5, [0, 1], [
 .ite (.prim .isi [.v 0, .ty "str"]) [.ret (.v 0)] [], .raise false [cz ⟨#[97,32,116,101,120,116,32,105,115,32,119,97,110,116,101,100]⟩, .v 1]]⟩
noncomputable def fn11 : Fn := ⟨4, [0, 1], [
 .ite (.call 7 [.v 0]) [.ret (.v 0)] [], .raise false [cz ⟨#[97,32,115,101,116,32,105,115,32,119,97,110,116,101,100]⟩, .v 1]]⟩
noncomputable def fn12 : Fn := ⟨4, [0, 1], [
 .ite (.call 6 [.v 0]) [.ret (.sub (.v 0) (ci 1))] [], .raise false [cz ⟨#[97,110,32,97,114,114,97,121,32,105,115,32,119,97,110,116,101,100]⟩, .v 1]]⟩
noncomputable def fn13 : Fn := ⟨6, [0, 1], [
 .ite (.op .ge (.op .sub (.v 1) (.v 0)) (.g 0)) [.raise true [.fstr [cz ⟨#[97,32,115,101,116,32,104,97,115,32,97,116,32,109,111,115,116,32]⟩, .g 0, cz ⟨#[32,110,117,109,98,101,114,115]⟩]]] [], .ret (.prim .tuple [.prim .range [.v 0, .op .add (.v 1) (ci 1)]])]⟩
noncomputable def fn14 : Fn := ⟨7, [0], [
 .ite (.prim .isi [.v 0, .ty "bool"]) [.ret (.ite (.v 0) (cz ⟨#[116,114,117,101]⟩) (cz ⟨#[102,97,108,115,101]⟩))] [], .ite (.prim .isi [.v 0, .ty "int"]) [.ret (.prim .str [.v 0])] [], .ite (.prim .isi [.v 0, .ty "str"]) [.ret (.v 0)] [], .ite (.call 6 [.v 0]) [.ret (.op .add (.op .add (cz ⟨#[91]⟩) (.join (cz ⟨#[44,32]⟩) (.comp false (.call 14 [.w 1]) (.n 1) (.sub (.v 0) (ci 1)) none))) (cz ⟨#[93]⟩))] [], .ite (.and (.op .gt (.prim .len [.v 0]) (ci 1)) (.op .eq (.op .sub (.sub (.v 0) (.neg (ci 1))) (.sub (.v 0) (ci 0))) (.op .sub (.prim .len [.v 0]) (ci 1)))) [.ret (.fstr [.sub (.v 0) (ci 0), cz ⟨#[46,46]⟩, .sub (.v 0) (.neg (ci 1))])] [], .ret (.op .add (.op .add (cz ⟨#[123]⟩) (.join (cz ⟨#[44]⟩) (.comp false (.prim .str [.w 1]) (.n 1) (.v 0) none))) (cz ⟨#[125]⟩))]⟩
noncomputable def fn15 : Fn := ⟨11, [0, 1, 2, 3], [
 .ite (.op .eq (.v 0) (cz ⟨#[98,111,111,108]⟩)) [.ret (.call 9 [.v 2, .v 3])] [], .ite (.op .eq (.v 0) (cz ⟨#[115,116,114]⟩)) [.ret (.call 10 [.v 2, .v 3])] [], .asg 4 (.ite (.op .eq (.v 0) (cz ⟨#[115,101,116]⟩)) (.call 11 [.v 2, .v 3]) (.call 8 [.v 2, .v 3])), .ite (.and (.op .isnot (.v 1) (.c .none)) (.op .ne (.comp false (.w 1) (.n 1) (.ite (.op .eq (.v 0) (cz ⟨#[115,101,116]⟩)) (.v 4) (.lst false [.v 4])) (some (.not (.call 5 [.v 1, .w 1])))) (.lst false []))) [.raise false [.fstr [.call 14 [.v 4], cz ⟨#[32,105,115,32,110,111,116,32,119,105,116,104,105,110,32,105,116,115,32,98,111,117,110,100,115]⟩], .v 3]] [], .ret (.v 4)]⟩
noncomputable def fn16 : Fn := ⟨4, [0, 1], [
 .asg 2 (.sub (.v 0) (cz ⟨#[107]⟩)), .seti (.v 0) (cz ⟨#[107]⟩) (.op .add (.v 2) (ci 1)), .ite (.op .lt (.v 2) (.prim .len [.sub (.v 0) (cz ⟨#[99,101,108,108,115]⟩)])) [.ret (.op .mod (.sub (.sub (.v 0) (cz ⟨#[99,101,108,108,115]⟩)) (.v 2)) (.v 1))] [], .ret (.op .mod (.op .mod (.op .add (.op .add (.op .add (.op .mul (.op .mul (ci 6) (.v 2)) (.v 2)) (.op .mul (ci 5) (.v 2))) (.op .mul (ci 3) (.prim .len [.sub (.v 0) (cz ⟨#[99,101,108,108,115]⟩)]))) (ci 1)) (ci 83)) (.v 1))]⟩
noncomputable def fn17 : Fn := ⟨9, [0, 1], [
 .asgs [2, 3] [.call 16 [.v 0, ci 12], .op .sub (.call 16 [.v 0, ci 7]) (ci 3)], .ite (.op .lt (.v 2) (ci 2)) [.ret (.tup [cz ⟨#[105,110,116,95,97,110,121]⟩])] [], .ite (.op .lt (.v 2) (ci 7)) [.ret (.tup [cz ⟨#[114,97,110,103,101]⟩, ci 11, .tup [cz ⟨#[105,110,116]⟩, ci 12, .v 3], .tup [cz ⟨#[105,110,116]⟩, ci 13, .op .sub (.op .add (.v 3) (.v 1)) (ci 1)]])] [], .ite (.op .eq (.v 2) (ci 7)) [.ret (.tup [cz ⟨#[114,97,110,103,101]⟩, ci 14, .tup [cz ⟨#[105,110,116]⟩, ci 15, .v 3], .tup [cz ⟨#[105,110,116]⟩, ci 16, .op .add (.op .sub (.op .add (.v 3) (.v 1)) (ci 2)) (.op .mul (ci 2) (.call 16 [.v 0, ci 2]))]])] [], .ite (.op .lt (.v 2) (ci 10)) [.asg 4 (.ite (.op .eq (.v 2) (ci 9)) (ci 1) (ci 0)), .asg 5 (.comp false (.op .add (.op .add (.v 3) (.w 1)) (.ite (.op .gt (.w 1) (ci 0)) (.v 4) (ci 0))) (.n 1) (.prim .range [.v 1]) none), .ret (.tup [cz ⟨#[115,101,116]⟩, ci 17, .prim .tuple [.comp false (.tup [cz ⟨#[105,110,116]⟩, ci 18, .w 1]) (.n 1) (.rev (.v 5)) none]])] [], .ret (.tup [cz ⟨#[110,97,109,101]⟩, ci 19, .sub (.tup [cz ⟨#[116]⟩, cz ⟨#[112]⟩, cz ⟨#[122]⟩, cz ⟨#[110]⟩]) (.call 16 [.v 0, ci 4])])]⟩
noncomputable def fn18 : Fn := ⟨3, [0], [
 .asg 1 (.call 16 [.v 0, ci 8]), .ite (.op .lt (.v 1) (ci 3)) [.ret (.c .none)] [], .ite (.op .lt (.v 1) (ci 6)) [.ret (.tup [cz ⟨#[114,97,110,103,101]⟩, ci 21, .tup [cz ⟨#[105,110,116]⟩, ci 22, .op .sub (ci 0) (.call 16 [.v 0, ci 2])], .ite (.op .eq (.v 1) (ci 5)) (.tup [cz ⟨#[98,111,111,108]⟩, ci 23, .c (.bool true)]) (.tup [cz ⟨#[105,110,116]⟩, ci 23, ci 4])])] [], .ite (.op .eq (.v 1) (ci 6)) [.ret (.tup [cz ⟨#[115,101,116]⟩, ci 24, .tup [.tup [cz ⟨#[105,110,116]⟩, ci 25, ci 3], .tup [cz ⟨#[105,110,116]⟩, ci 25, ci 0], .tup [cz ⟨#[105,110,116]⟩, ci 25, ci 1], .tup [cz ⟨#[110,97,109,101]⟩, ci 26, cz ⟨#[110]⟩]]])] [], .ret (.tup [cz ⟨#[110,97,109,101]⟩, ci 27, .sub (.tup [cz ⟨#[116]⟩, cz ⟨#[112]⟩, cz ⟨#[122]⟩, cz ⟨#[110]⟩]) (.call 16 [.v 0, ci 4])])]⟩
noncomputable def fn19 : Fn := ⟨5, [0, 1], [
 .asg 2 (.call 16 [.v 0, ci 11]), .ite (.op .eq (.v 2) (ci 10)) [.ret (.sub (.tup [ci 3, .c (.bool true), cz ⟨#[119]⟩, .tup [ci 0, ci 2]]) (.call 16 [.v 0, ci 4]))] [], .ite (.op .eq (.v 1) (cz ⟨#[105,110,116]⟩)) [.ret (.ite (.op .gt (.v 2) (ci 7)) (.op .eq (.v 2) (ci 8)) (.op .mod (.v 2) (ci 5)))] [], .ite (.op .eq (.v 1) (cz ⟨#[115,101,116]⟩)) [.ret (.sub (.tup [.tup [], .tup [ci 0, ci 1, ci 2], .tup [ci 1, ci 3], .tup [ci 2], .tup [ci 3, ci 4]]) (.op .mod (.v 2) (ci 5)))] [], .ret (.ite (.op .eq (.v 1) (cz ⟨#[98,111,111,108]⟩)) (.op .eq (.op .mod (.v 2) (ci 2)) (ci 0)) (.op .add (cz ⟨#[119]⟩) (.prim .str [.v 2])))]⟩
noncomputable def fn20 : Fn := ⟨14, [0, 1, 2], [
 .asg 3 (.call 16 [.v 0, ci 9]), .asg 4 (.ite (.op .lt (.v 3) (ci 7)) (.v 2) (.ite (.op .eq (.v 3) (ci 7)) (ci 0) (.op .add (ci 1) (.call 16 [.v 0, ci 2])))), .ite (.op .eq (.v 4) (ci 0)) [.ret (.tup [.call 19 [.v 0, .v 1], .lst false []])] [], .asg 5 (.lst true []), .for (.n 6) (.prim .range [.v 4]) [.asg 7 (.op .sub (.call 16 [.v 0, ci 5]) (ci 2)), .ex (.lm .append (.v 5) [.tup [.v 7, .op .add (.v 7) (.sub (.tup [ci 0, ci 1, ci 2, .neg (ci 1)]) (.call 16 [.v 0, ci 4]))]])], .asg 8 (.comp false (.op .add (.op .sub (.w 2) (.w 1)) (ci 1)) (.t [.n 1, .n 2]) (.v 5) none), .asg 9 (.op .mul (.sub (.v 8) (ci 0)) (.ite (.op .eq (.v 4) (ci 2)) (.sub (.v 8) (ci 1)) (ci 1))), .ret (.tup [.tup [.prim .tuple [.v 5], .comp false (.call 19 [.v 0, .v 1]) (.n 1) (.prim .range [.v 9]) none], .v 8])]⟩
noncomputable def fn21 : Fn := ⟨5, [0], [
 .ret (.and (.prim .isi [.v 0, .ty "tuple"]) (.and (.op .eq (.prim .len [.v 0]) (ci 2)) (.prim .isi [.sub (.v 0) (ci 1), .ty "list"])))]⟩
noncomputable def fn22 : Fn := ⟨11, [0, 1], [
 .asgs [2, 3] [.sub (.v 0) (ci 0), .sub (.v 0) (ci 1)], .ite (.and (.op .eq (.v 2) (cz ⟨#[110,97,109,101]⟩)) (.op .notin (.sub (.v 0) (ci 2)) (.v 1))) [.ret (.tup [cz ⟨#[98,97,100]⟩, cz ⟨#[122,32,104,97,115,32,110,111,32,118,97,108,117,101]⟩, .v 3])] [], .ite (.op .eq (.v 2) (cz ⟨#[110,97,109,101]⟩)) [.ret (.ite (.prim .isi [.sub (.v 1) (.sub (.v 0) (ci 2)), .ty "int"]) (.tup [cz ⟨#[98,97,100]⟩, cz ⟨#[97,32,115,101,116,32,105,115,32,119,97,110,116,101,100]⟩, .v 3]) (.prim .list [.sub (.v 1) (.sub (.v 0) (ci 2))]))] [], .asg 4 (.comp false (.ite (.op .eq (.sub (.w 1) (ci 0)) (cz ⟨#[110,97,109,101]⟩)) (.sub (.v 1) (cz ⟨#[110]⟩)) (.prim .int [.sub (.w 1) (ci 2)])) (.n 1) (.ite (.op .eq (.v 2) (cz ⟨#[115,101,116]⟩)) (.sub (.v 0) (ci 2)) (.slice (.v 0) (some 2) (some 4))) none), .ret (.ite (.op .eq (.v 2) (cz ⟨#[115,101,116]⟩)) (.prim .sorted [.prim .set [.v 4]]) (.prim .list [.prim .range [.sub (.v 4) (ci 0), .op .add (.sub (.v 4) (ci 1)) (ci 1)]]))]⟩
noncomputable def fn23 : Fn := ⟨13, [0, 1, 2, 3], [
 .ite (.op .eq (.v 0) (cz ⟨#[98,111,111,108]⟩)) [.ret (.ite (.prim .isi [.v 2, .ty "bool"]) (.c .none) (.tup [cz ⟨#[98,97,100]⟩, cz ⟨#[116,114,117,101,32,111,114,32,102,97,108,115,101,32,105,115,32,119,97,110,116,101,100]⟩, .v 3]))] [], .ite (.op .eq (.v 0) (cz ⟨#[115,116,114]⟩)) [.ret (.ite (.prim .isi [.v 2, .ty "str"]) (.c .none) (.tup [cz ⟨#[98,97,100]⟩, cz ⟨#[97,32,116,101,120,116,32,105,115,32,119,97,110,116,101,100]⟩, .v 3]))] [], .ite (.op .eq (.v 0) (cz ⟨#[105,110,116]⟩)) [.ite (.not (.prim .isi [.v 2, .ty "int"])) [.ret (.tup [cz ⟨#[98,97,100]⟩, cz ⟨#[97,32,110,117,109,98,101,114,32,105,115,32,119,97,110,116,101,100]⟩, .v 3])] [], .asgs [4, 5] [.lst false [.prim .int [.v 2]], .prim .str [.prim .int [.v 2]]]] [.ite (.or (.not (.prim .isi [.v 2, .ty "tuple"])) (.call 21 [.v 2])) [.ret (.tup [cz ⟨#[98,97,100]⟩, cz ⟨#[97,32,115,101,116,32,105,115,32,119,97,110,116,101,100]⟩, .v 3])] [], .asg 4 (.prim .list [.v 2]), .asg 5 (.pick [([], ⟨#[123,125]⟩), ([0, 1, 2], ⟨#[48,46,46,50]⟩), ([1, 3], ⟨#[123,49,44,51,125]⟩), ([2], ⟨#[123,50,125]⟩), ([3, 4], ⟨#[51,46,46,52]⟩), ([0, 2], ⟨#[123,48,44,50,125]⟩)] (.v 2))], .ite (.or (.op .is (.v 1) (.c .none)) (.op .eq (.comp false (.w 1) (.n 1) (.v 4) (some (.op .notin (.w 1) (.v 1)))) (.lst false []))) [.ret (.c .none)] [], .ret (.tup [cz ⟨#[98,97,100]⟩, .op .add (.v 5) (cz ⟨#[32,105,115,32,110,111,116,32,119,105,116,104,105,110,32,105,116,115,32,98,111,117,110,100,115]⟩), .v 3])]⟩
noncomputable def fn24 : Fn := ⟨11, [0, 1, 2, 3, 4], [
 .ite (.op .eq (.v 0) (.tup [cz ⟨#[105,110,116,95,97,110,121]⟩])) [.ret (.tup [.v 1, .v 2])] [], .asg 5 (.call 22 [.v 0, .v 3]), .ite (.prim .isi [.v 5, .ty "tuple"]) [.ret (.tup [.sub (.v 5) (ci 0), .sub (.v 5) (ci 1), .ite (.op .eq (.sub (.v 5) (ci 1)) (cz ⟨#[122,32,104,97,115,32,110,111,32,118,97,108,117,101]⟩)) (.sub (.v 5) (ci 2)) (.v 4)])] [], .ite (.op .ne (.prim .len [.v 5]) (.op .add (.op .sub (.v 2) (.v 1)) (ci 1))) [.ret (.tup [cz ⟨#[98,97,100]⟩, .fstr [.prim .len [.v 5], cz ⟨#[32,101,108,101,109,101,110,116,115,32,97,114,101,32,119,97,110,116,101,100,44,32,110,111,116,32]⟩, .op .add (.op .sub (.v 2) (.v 1)) (ci 1)], .v 4])] [], .ite (.op .ne (.comp false (.w 1) (.n 1) (.prim .range [ci 1, .prim .len [.v 5]]) (some (.op .ne (.sub (.v 5) (.w 1)) (.op .add (.sub (.v 5) (.op .sub (.w 1) (ci 1))) (ci 1))))) (.lst false [])) [.ret (.tup [cz ⟨#[98,97,100]⟩, cz ⟨#[116,104,101,32,105,110,100,101,120,101,115,32,111,102,32,97,110,32,97,114,114,97,121,32,104,97,118,101,32,97,32,103,97,112]⟩, .v 4])] [], .ret (.ite (.op .ne (.v 5) (.lst false [])) (.tup [.sub (.v 5) (ci 0), .sub (.v 5) (.neg (ci 1))]) (.tup [ci 1, ci 0]))]⟩
noncomputable def fn25 : Fn := ⟨16, [0, 1, 2, 3, 4, 5], [
 .asg 6 (.ite (.op .is (.v 2) (.c .none)) (.c .none) (.call 22 [.v 2, .v 4])), .ite (.prim .isi [.v 6, .ty "tuple"]) [.ret (.v 6)] [], .ite (.and (.op .ne (.v 1) (.tup [])) (.not (.call 21 [.v 3]))) [.ret (.tup [cz ⟨#[98,97,100]⟩, cz ⟨#[97,110,32,97,114,114,97,121,32,105,115,32,119,97,110,116,101,100]⟩, .v 5])] [], .asg 7 (.ite (.op .eq (.v 1) (.tup [])) (.lst false [.v 3]) (.sub (.v 3) (ci 1))), .asg 8 (.comp false (.w 1) (.n 1) (.comp false (.call 23 [.v 0, .v 6, .w 1, .v 5]) (.n 1) (.v 7) none) (some (.op .isnot (.w 1) (.c .none)))), .ite (.op .ne (.v 8) (.lst false [])) [.ret (.sub (.v 8) (ci 0))] [], .asg 7 (.comp false (.ite (.op .eq (.v 0) (cz ⟨#[105,110,116]⟩)) (.prim .int [.w 1]) (.w 1)) (.n 1) (.v 7) none), .ite (.op .eq (.v 1) (.tup [])) [.ret (.sub (.v 7) (ci 0))] [], .ite (.op .ne (.prim .len [.v 1]) (.prim .len [.sub (.v 3) (ci 0)])) [.ret (.tup [cz ⟨#[98,97,100]⟩, .fstr [cz ⟨#[97,110,32,97,114,114,97,121,32,119,105,116,104,32]⟩, .prim .len [.v 1], cz ⟨#[32,105,110,100,101,120,101,115,32,105,115,32,119,97,110,116,101,100,44,32,110,111,116,32,119,105,116,104,32]⟩, .prim .len [.sub (.v 3) (ci 0)]], .v 5])] [], .asg 9 (.comp false (.call 24 [.sub (.v 1) (.w 1), .sub (.sub (.sub (.v 3) (ci 0)) (.w 1)) (ci 0), .sub (.sub (.sub (.v 3) (ci 0)) (.w 1)) (ci 1), .v 4, .v 5]) (.n 1) (.prim .range [.prim .len [.v 1]]) none), .asg 8 (.comp false (.w 1) (.n 1) (.v 9) (some (.op .eq (.sub (.w 1) (ci 0)) (cz ⟨#[98,97,100]⟩)))), .ret (.ite (.op .ne (.v 8) (.lst false [])) (.sub (.v 8) (ci 0)) (.tup [.prim .tuple [.v 9], .v 7]))]⟩
noncomputable def fn26 : Fn := ⟨10, [0], [
 .asgs [1, 2] [.new (.dct false [(⟨#[116,111,108,100]⟩, (.v 0))]), .lst true []], .asg 3 (.lst false [.lst false []]), .for (.t [.n 4, .n 5]) (.sub (.v 0) (ci 0)) [.asg 3 (.comp2 false (.op .add (.w 1) (.lst false [.w 2])) (.n 1) (.v 3) 2 (.prim .range [.v 4, .op .add (.v 5) (ci 1)]))], .for (.n 6) (.v 3) [.ex (.lm .append (.v 2) [.meth 28 (.v 1) [.tup [cz ⟨#[105,110,100,101,120]⟩, ci 1, .tup [cz ⟨#[110,97,109,101]⟩, ci 2, cz ⟨#[116,111,108,100]⟩], .prim .tuple [.comp false (.tup [cz ⟨#[105,110,116]⟩, ci 3, .w 1]) (.n 1) (.v 6) none]]]])], .ret (.op .eq (.prim .repr [.v 2]) (.prim .repr [.sub (.v 0) (ci 1)]))]⟩
noncomputable def fn27 : Fn := ⟨25, [0], [
 .asg 1 (.dct true [(⟨#[99,101,108,108,115]⟩, (.comp false (.op .mod (.prim .int [.w 1]) (ci 1000003)) (.n 1) (.slice (.v 0) none (some 60)) none)), (⟨#[107]⟩, (ci 0))]), .asg 2 (.dct false [(⟨#[110]⟩, (ci 2)), (⟨#[116]⟩, (.tup [.neg (ci 1), ci 0, ci 1])), (⟨#[112]⟩, (.tup [ci 0, ci 2, ci 5]))]), .asg 3 (.prim .repr [.v 2]), .for (.n 4) (.prim .range [ci 4]) [.asgs [5, 6] [.sub (.tup [cz ⟨#[105,110,116]⟩, cz ⟨#[105,110,116]⟩, cz ⟨#[115,101,116]⟩, cz ⟨#[98,111,111,108]⟩, cz ⟨#[115,116,114]⟩]) (.call 16 [.v 1, ci 5]), .sub (.tup [ci 1, ci 1, ci 2, ci 2, ci 0]) (.call 16 [.v 1, ci 5])], .unp [7, 8] (.call 20 [.v 1, .v 5, .v 6]), .asg 8 (.cutv (.op .add (.v 8) (.lst false [ci 2, ci 2])) (.v 6)), .asg 9 (.prim .tuple [.comp false (.call 17 [.v 1, .w 1]) (.n 1) (.v 8) none]), .asg 10 (.call 18 [.v 1]), .asg 11 (.prim .repr [.v 7]), .asg 12 (.call 25 [.v 5, .v 9, .v 10, .v 7, .v 2, .op .add (ci 31) (.v 4)]), .try [.asg 13 (.meth 34 (.new (.v 2)) [.tup [.v 5, .c (.bool false), .v 9, .v 10], .v 7, .op .add (ci 31) (.v 4)])] [(false, ((some 14), [.asg 13 (.tup [cz ⟨#[98,97,100]⟩, .fault 14 false, .fault 14 true])]))], .ite (.or (.op .ne (.prim .repr [.v 13]) (.prim .repr [.v 12])) (.or (.op .ne (.prim .repr [.v 7]) (.v 11)) (.op .ne (.prim .repr [.v 2]) (.v 3)))) [.ret (.c (.bool false))] [], .ite (.and (.op .gt (.v 6) (ci 0)) (.and (.op .ne (.sub (.v 13) (ci 0)) (cz ⟨#[98,97,100]⟩)) (.not (.call 26 [.v 13])))) [.ret (.c (.bool false))] []], .ret (.c (.bool true))]⟩
noncomputable def fn28 : Fn := ⟨7, [0, 1], [
 .asgs [2, 3] [.sub (.v 1) (ci 0), .sub (.v 1) (ci 1)], .ite (.op .isin (.v 2) (.tup [cz ⟨#[105,110,116]⟩, cz ⟨#[98,111,111,108]⟩, cz ⟨#[115,116,114]⟩])) [.ret (.sub (.v 1) (ci 2))] [], .ite (.op .eq (.v 2) (cz ⟨#[110,97,109,101]⟩)) [.ite (.op .notin (.sub (.v 1) (ci 2)) (.scope (.v 0))) [.raise false [.fstr [.sub (.v 1) (ci 2), cz ⟨#[32,104,97,115,32,110,111,32,118,97,108,117,101]⟩], .v 3]] [], .ret (.sub (.scope (.v 0)) (.sub (.v 1) (ci 2)))] [], .ite (.op .eq (.v 2) (cz ⟨#[98,105,110]⟩)) [.bad] [], .ite (.op .eq (.v 2) (cz ⟨#[117,110]⟩)) [.bad] [], .ite (.and (.op .eq (.v 2) (cz ⟨#[99,97,108,108]⟩)) (.and (.op .eq (.sub (.v 1) (ci 2)) (cz ⟨#[97,115,115,101,114,116]⟩)) (.op .isin (.prim .len [.sub (.v 1) (ci 3)]) (.tup [ci 2, ci 3])))) [.bad] [], .ite (.op .eq (.v 2) (cz ⟨#[99,97,108,108]⟩)) [.bad] [], .ite (.op .eq (.v 2) (cz ⟨#[103,101,110]⟩)) [.bad] [], .ite (.op .eq (.v 2) (cz ⟨#[105,110,100,101,120]⟩)) [.ret (.meth 31 (.v 0) [.v 1])] [], .ite (.op .eq (.v 2) (cz ⟨#[105,102]⟩)) [.bad] [], .ite (.op .eq (.v 2) (cz ⟨#[108,101,116]⟩)) [.bad] [], .ret (.meth 30 (.v 0) [.v 2, .v 1, .v 3])]⟩
noncomputable def fn29 : Fn := ⟨2, [0, 1], [
 .ret (.comp false (.meth 28 (.v 0) [.w 1]) (.n 1) (.v 1) none)]⟩
noncomputable def fn30 : Fn := ⟨18, [0, 1, 2, 3], [
 .ite (.op .eq (.v 1) (cz ⟨#[97,114,114,97,121]⟩)) [.bad] [], .ite (.op .eq (.v 1) (cz ⟨#[97,114,114,97,121,50]⟩)) [.asg 4 (.comp false (.meth 29 (.v 0) [.w 1]) (.n 1) (.sub (.v 2) (ci 2)) none), .asg 5 (.ite (.op .gt (.prim .len [.v 4]) (ci 0)) (.prim .len [.sub (.v 4) (ci 0)]) (ci 0)), .ite (.op .ne (.comp false (.w 1) (.n 1) (.v 4) (some (.op .ne (.prim .len [.w 1]) (.v 5)))) (.lst false [])) [.raise false [cz ⟨#[116,104,101,32,114,111,119,115,32,111,102,32,97,110,32,97,114,114,97,121,32,97,114,101,32,111,102,32,117,110,108,105,107,101,32,108,101,110,103,116,104,115]⟩, .v 3]] [], .ret (.tup [.tup [.tup [ci 1, .prim .len [.v 4]], .tup [ci 1, .v 5]], .comp2 false (.w 2) (.n 1) (.v 4) 2 (.w 1)])] [], .ite (.op .eq (.v 1) (cz ⟨#[114,97,110,103,101]⟩)) [.unp [6, 7] (.meth 29 (.v 0) [.slice (.v 2) (some 2) (some 4)]), .ret (.call 13 [.call 8 [.v 6, .v 3], .call 8 [.v 7, .v 3]])] [], .ite (.op .eq (.v 1) (cz ⟨#[115,101,116]⟩)) [.ret (.prim .tuple [.prim .sorted [.prim .set [.comp false (.call 8 [.w 1, .v 3]) (.n 1) (.meth 29 (.v 0) [.sub (.v 2) (ci 2)]) none]]])] [], .ite (.op .ne (.v 1) (cz ⟨#[99,111,109,112]⟩)) [.raise false [.fstr [cz ⟨#[97,32]⟩, .v 1, cz ⟨#[32,104,97,115,32,110,111,32,118,97,108,117,101]⟩], .v 3]] [], .bad, .ite (.op .eq (.sub (.v 2) (ci 2)) (cz ⟨#[97,114,114,97,121]⟩)) [.bad] [], .ret (.prim .tuple [.prim .sorted [.prim .set [.comp false (.call 8 [.w 1, .v 3]) (.n 1) (.v 8) none]]])]⟩
noncomputable def fn31 : Fn := ⟨15, [0, 1], [
 .asgs [2, 3] [.meth 28 (.v 0) [.sub (.v 1) (ci 2)], .sub (.v 1) (ci 1)], .asg 4 (.call 12 [.v 2, .v 3]), .ite (.op .ne (.prim .len [.sub (.v 1) (ci 3)]) (.prim .len [.sub (.v 2) (ci 0)])) [.raise false [.fstr [cz ⟨#[116,104,101,32,97,114,114,97,121,32,104,97,115,32]⟩, .prim .len [.sub (.v 2) (ci 0)], cz ⟨#[32,105,110,100,101,120,101,115,44,32,110,111,116,32]⟩, .prim .len [.sub (.v 1) (ci 3)]], .v 3]] [], .asg 5 (ci 0), .forz (.t [.t [.n 6, .n 7], .n 8]) [.sub (.v 2) (ci 0), .meth 29 (.v 0) [.sub (.v 1) (ci 3)]] [.asg 9 (.call 8 [.v 8, .v 3]), .ite (.not (.ch .le .le (.v 6) (.v 9) (.v 7))) [.raise false [.fstr [cz ⟨#[116,104,101,32,105,110,100,101,120,32]⟩, .v 9, cz ⟨#[32,105,115,32,110,111,116,32,119,105,116,104,105,110,32]⟩, .v 6, cz ⟨#[46,46]⟩, .v 7], .v 3]] [], .asg 5 (.op .sub (.op .add (.op .mul (.v 5) (.op .add (.op .sub (.v 7) (.v 6)) (ci 1))) (.v 9)) (.v 6))], .ret (.sub (.v 4) (.v 5))]⟩
noncomputable def fn32 : Fn := ⟨14, [0, 1, 2, 3], [
 .ite (.op .ne (.prim .len [.v 1]) (.prim .len [.sub (.v 2) (ci 0)])) [.raise false [.fstr [cz ⟨#[97,110,32,97,114,114,97,121,32,119,105,116,104,32]⟩, .prim .len [.v 1], cz ⟨#[32,105,110,100,101,120,101,115,32,105,115,32,119,97,110,116,101,100,44,32,110,111,116,32,119,105,116,104,32]⟩, .prim .len [.sub (.v 2) (ci 0)]], .v 3]] [], .asg 4 (.lst true []), .forz (.t [.n 5, .t [.n 6, .n 7]]) [.v 1, .sub (.v 2) (ci 0)] [.ite (.op .ne (.sub (.v 5) (ci 0)) (cz ⟨#[105,110,116,95,97,110,121]⟩)) [.asg 8 (.call 11 [.meth 28 (.v 0) [.v 5], .v 3]), .ite (.op .ne (.prim .len [.v 8]) (.op .add (.op .sub (.v 7) (.v 6)) (ci 1))) [.raise false [.fstr [.prim .len [.v 8], cz ⟨#[32,101,108,101,109,101,110,116,115,32,97,114,101,32,119,97,110,116,101,100,44,32,110,111,116,32]⟩, .op .add (.op .sub (.v 7) (.v 6)) (ci 1)], .v 3]] [], .unp [6, 7] (.ite (.op .gt (.prim .len [.v 8]) (ci 0)) (.tup [.sub (.v 8) (ci 0), .sub (.v 8) (.neg (ci 1))]) (.tup [ci 1, ci 0])), .ite (.op .ne (.op .add (.op .sub (.v 7) (.v 6)) (ci 1)) (.prim .len [.v 8])) [.raise false [cz ⟨#[116,104,101,32,105,110,100,101,120,101,115,32,111,102,32,97,110,32,97,114,114,97,121,32,104,97,118,101,32,97,32,103,97,112]⟩, .v 3]] []] [], .ex (.lm .append (.v 4) [.tup [.v 6, .v 7]])], .ret (.prim .tuple [.v 4])]⟩
noncomputable def fn33 : Fn := ⟨8, [0, 1], [
 .ite (.op .eq (.sub (.v 1) (ci 0)) (cz ⟨#[114,97,110,103,101]⟩)) [.unp [2, 3] (.meth 29 (.v 0) [.slice (.v 1) (some 2) (some 4)]), .ret (.call 1 [.call 8 [.v 2, .sub (.v 1) (ci 1)], .call 8 [.v 3, .sub (.v 1) (ci 1)]])] [], .ret (.call 3 [.call 11 [.meth 28 (.v 0) [.v 1], .sub (.v 1) (ci 1)]])]⟩
noncomputable def fn34 : Fn := ⟨13, [0, 1, 2, 3], [
 .unp [4, 5, 6, 7] (.v 1), .asg 8 (.ite (.op .is (.v 7) (.c .none)) (.c .none) (.meth 33 (.v 0) [.v 7])), .ite (.op .eq (.prim .len [.v 6]) (ci 0)) [.ret (.call 15 [.v 4, .v 8, .v 2, .v 3])] [], .asg 9 (.comp false (.call 15 [.v 4, .v 8, .w 1, .v 3]) (.n 1) (.call 12 [.v 2, .v 3]) none), .ret (.tup [.meth 32 (.v 0) [.v 6, .v 2, .v 3], .v 9])]⟩
noncomputable def zlJ : List Fn := [fn1, fn2, fn3, fn4, fn5, fn6, fn7, fn8, fn9, fn10, fn11, fn12, fn13, fn14, fn15, fn16, fn17, fn18, fn19, fn20, fn21, fn22, fn23, fn24, fn25, fn26, fn27, fn28, fn29, fn30, fn31, fn32, fn33, fn34]
noncomputable def tab1 (f : Nat) : Option Fn := Nat.casesOn f none fun n => zlJ[n]?
noncomputable def gc1 : Nat -> PyData
 | 0 => .int 100000
 | _ => .none
noncomputable def zoj : List (PySem.Str × Nat) := [(Str.ofString "range_of", 1), (Str.ofString "put_behind", 2), (Str.ofString "from_values", 3), (Str.ofString "next_from", 4), (Str.ofString "has", 5), (Str.ofString "is_array", 6), (Str.ofString "is_set", 7), (Str.ofString "number_of", 8), (Str.ofString "truth_of", 9), (Str.ofString "text_of", 10), (Str.ofString "set_of", 11), (Str.ofString "list_of", 12), (Str.ofString "span", 13), (Str.ofString "show_text", 14), (Str.ofString "fitted_one", 15), (Str.ofString "_law_draw", 16), (Str.ofString "_law_dim", 17), (Str.ofString "_law_domain", 18), (Str.ofString "_law_thing", 19), (Str.ofString "_law_value", 20), (Str.ofString "_law_is_array", 21), (Str.ofString "_law_lot", 22), (Str.ofString "_law_complaint", 23), (Str.ofString "_law_span", 24), (Str.ofString "_law_due", 25), (Str.ofString "_law_stand_right", 26), (Str.ofString "law", 27)]
noncomputable def zmq : List (PySem.Str × Nat) := [(Str.ofString "value_of", 28), (Str.ofString "values_of", 29), (Str.ofString "built", 30), (Str.ofString "element", 31), (Str.ofString "ranges_of", 32), (Str.ofString "domain_of", 33), (Str.ofString "fitted", 34)]
noncomputable def zoA : List (PySem.Str × Nat) := [(Str.ofString "MOST_VALUES", 0)]
noncomputable def zn5 : List (Nat × Nat) := [(11, 12), (322, 16), (475, 13), (539, 48), (547, 10)]
noncomputable def cx1 : Cx := ⟨[], none, zoj, zmq, zoA, zn5, false⟩
noncomputable def fa1 : Nat -> Addr
 | 1 => 21
 | 2 => 28
 | 3 => 35
 | 4 => 42
 | 5 => 49
 | 6 => 137
 | 7 => 144
 | 8 => 151
 | 9 => 158
 | 10 => 165
 | 11 => 172
 | 12 => 179
 | 13 => 200
 | 14 => 250
 | 15 => 372
 | 16 => 415
 | 17 => 420
 | 18 => 427
 | 19 => 434
 | 20 => 439
 | 21 => 446
 | 22 => 451
 | 23 => 456
 | 24 => 461
 | 25 => 466
 | 26 => 471
 | 27 => 476
 | 28 => 282
 | 29 => 287
 | 30 => 292
 | 31 => 320
 | 32 => 348
 | 33 => 355
 | 34 => 360
 | _ => 0
noncomputable abbrev mkS (w : World) (s0 : Shared) (mg mb : Str -> Option Value) : Sta :=
 { prog := pw, w := w, s0 := s0, K := K w.params, mg := mg, mb := mb, cev := 363, ec := fun b => if b then 128 else 116, fa := fa1, cx := cx1, gc := gc1, tab := tab1, lc := 475, tp := 473, lq := Str.ofString "law.<locals>.<lambda>" }
section
variable (w : World) (s0 : Shared) (mg mb : Str -> Option Value)
noncomputable abbrev cF (ok : StaOk3 (mkS w s0 mg mb)) (k2 : KOk2 (mkS w s0 mg mb)) (s : Stmt) (b : Bool) := (toSs ok k2 (fs s).names b (fb s)).map (·.1)
theorem i1 : fnIn (mkS w s0 mg mb) 1 fn1 false = true := by kernel_rfl
theorem c1 (ok) (k2) : cF w s0 mg mb ok k2 (st 1) false = some fn1.body := by kernel_rfl
theorem i2 : fnIn (mkS w s0 mg mb) 2 fn2 false = true := by kernel_rfl
theorem c2 (ok) (k2) : cF w s0 mg mb ok k2 (st 2) false = some fn2.body := by kernel_rfl
theorem i3 : fnIn (mkS w s0 mg mb) 3 fn3 false = true := by kernel_rfl
theorem c3 (ok) (k2) : cF w s0 mg mb ok k2 (st 3) false = some fn3.body := by kernel_rfl
theorem i4 : fnIn (mkS w s0 mg mb) 4 fn4 false = true := by kernel_rfl
theorem c4 (ok) (k2) : cF w s0 mg mb ok k2 (st 4) false = some fn4.body := by kernel_rfl
theorem i5 : fnIn (mkS w s0 mg mb) 5 fn5 false = true := by kernel_rfl
theorem c5 (ok) (k2) : cF w s0 mg mb ok k2 (st 5) false = some fn5.body := by kernel_rfl
theorem i6 : fnIn (mkS w s0 mg mb) 6 fn6 false = true := by kernel_rfl
theorem c6 (ok) (k2) : cF w s0 mg mb ok k2 (st 15) false = some fn6.body := by kernel_rfl
theorem i7 : fnIn (mkS w s0 mg mb) 7 fn7 false = true := by kernel_rfl
theorem c7 (ok) (k2) : cF w s0 mg mb ok k2 (st 16) false = some fn7.body := by kernel_rfl
theorem i8 : fnIn (mkS w s0 mg mb) 8 fn8 false = true := by kernel_rfl
theorem c8 (ok) (k2) : cF w s0 mg mb ok k2 (st 17) false = some fn8.body := by kernel_rfl
theorem i9 : fnIn (mkS w s0 mg mb) 9 fn9 false = true := by kernel_rfl
theorem c9 (ok) (k2) : cF w s0 mg mb ok k2 (st 18) false = some fn9.body := by kernel_rfl
theorem i10 : fnIn (mkS w s0 mg mb) 10 fn10 false = true := by kernel_rfl
theorem c10 (ok) (k2) : cF w s0 mg mb ok k2 (st 19) false = some fn10.body := by kernel_rfl
theorem i11 : fnIn (mkS w s0 mg mb) 11 fn11 false = true := by kernel_rfl
theorem c11 (ok) (k2) : cF w s0 mg mb ok k2 (st 20) false = some fn11.body := by kernel_rfl
theorem i12 : fnIn (mkS w s0 mg mb) 12 fn12 false = true := by kernel_rfl
theorem c12 (ok) (k2) : cF w s0 mg mb ok k2 (st 21) false = some fn12.body := by kernel_rfl
theorem i13 : fnIn (mkS w s0 mg mb) 13 fn13 false = true := by kernel_rfl
theorem c13 (ok) (k2) : cF w s0 mg mb ok k2 (st 24) false = some fn13.body := by kernel_rfl
theorem i14 : fnIn (mkS w s0 mg mb) 14 fn14 false = true := by kernel_rfl
theorem c14 (ok) (k2) : cF w s0 mg mb ok k2 (st 32) false = some fn14.body := by kernel_rfl
theorem i15 : fnIn (mkS w s0 mg mb) 15 fn15 false = true := by kernel_rfl
theorem c15 (ok) (k2) : cF w s0 mg mb ok k2 (st 37) false = some fn15.body := by kernel_rfl
theorem i16 : fnIn (mkS w s0 mg mb) 16 fn16 false = true := by kernel_rfl
theorem c16 (ok) (k2) : cF w s0 mg mb ok k2 (st 45) false = some fn16.body := by kernel_rfl
theorem i17 : fnIn (mkS w s0 mg mb) 17 fn17 false = true := by kernel_rfl
theorem c17 (ok) (k2) : cF w s0 mg mb ok k2 (st 46) false = some fn17.body := by kernel_rfl
theorem i18 : fnIn (mkS w s0 mg mb) 18 fn18 false = true := by kernel_rfl
theorem c18 (ok) (k2) : cF w s0 mg mb ok k2 (st 47) false = some fn18.body := by kernel_rfl
theorem i19 : fnIn (mkS w s0 mg mb) 19 fn19 false = true := by kernel_rfl
theorem c19 (ok) (k2) : cF w s0 mg mb ok k2 (st 48) false = some fn19.body := by kernel_rfl
theorem i20 : fnIn (mkS w s0 mg mb) 20 fn20 false = true := by kernel_rfl
theorem c20 (ok) (k2) : cF w s0 mg mb ok k2 (st 49) false = some fn20.body := by kernel_rfl
theorem i21 : fnIn (mkS w s0 mg mb) 21 fn21 false = true := by kernel_rfl
theorem c21 (ok) (k2) : cF w s0 mg mb ok k2 (st 50) false = some fn21.body := by kernel_rfl
theorem i22 : fnIn (mkS w s0 mg mb) 22 fn22 false = true := by kernel_rfl
theorem c22 (ok) (k2) : cF w s0 mg mb ok k2 (st 51) false = some fn22.body := by kernel_rfl
theorem i23 : fnIn (mkS w s0 mg mb) 23 fn23 false = true := by kernel_rfl
theorem c23 (ok) (k2) : cF w s0 mg mb ok k2 (st 52) false = some fn23.body := by kernel_rfl
theorem i24 : fnIn (mkS w s0 mg mb) 24 fn24 false = true := by kernel_rfl
theorem c24 (ok) (k2) : cF w s0 mg mb ok k2 (st 53) false = some fn24.body := by kernel_rfl
theorem i25 : fnIn (mkS w s0 mg mb) 25 fn25 false = true := by kernel_rfl
theorem c25 (ok) (k2) : cF w s0 mg mb ok k2 (st 54) false = some fn25.body := by kernel_rfl
theorem i26 : fnIn (mkS w s0 mg mb) 26 fn26 false = true := by kernel_rfl
theorem c26 (ok) (k2) : cF w s0 mg mb ok k2 (st 55) false = some fn26.body := by kernel_rfl
theorem i27 : fnIn (mkS w s0 mg mb) 27 fn27 true = true := by kernel_rfl
theorem c27 (ok) (k2) : cF w s0 mg mb ok k2 (st 56) true = some fn27.body := by kernel_rfl
theorem i28 : fnIn (mkS w s0 mg mb) 28 fn28 false = true := by kernel_rfl
theorem c28 (ok) (k2) : cF w s0 mg mb ok k2 (ms 36 1) false = some fn28.body := by kernel_rfl
theorem i29 : fnIn (mkS w s0 mg mb) 29 fn29 false = true := by kernel_rfl
theorem c29 (ok) (k2) : cF w s0 mg mb ok k2 (ms 36 2) false = some fn29.body := by kernel_rfl
theorem i30 : fnIn (mkS w s0 mg mb) 30 fn30 false = true := by kernel_rfl
theorem c30 (ok) (k2) : cF w s0 mg mb ok k2 (ms 36 3) false = some fn30.body := by kernel_rfl
theorem i31 : fnIn (mkS w s0 mg mb) 31 fn31 false = true := by kernel_rfl
theorem c31 (ok) (k2) : cF w s0 mg mb ok k2 (ms 36 7) false = some fn31.body := by kernel_rfl
theorem i32 : fnIn (mkS w s0 mg mb) 32 fn32 false = true := by kernel_rfl
theorem c32 (ok) (k2) : cF w s0 mg mb ok k2 (ms 36 11) false = some fn32.body := by kernel_rfl
theorem i33 : fnIn (mkS w s0 mg mb) 33 fn33 false = true := by kernel_rfl
theorem c33 (ok) (k2) : cF w s0 mg mb ok k2 (ms 36 12) false = some fn33.body := by kernel_rfl
theorem i34 : fnIn (mkS w s0 mg mb) 34 fn34 false = true := by kernel_rfl
theorem c34 (ok) (k2) : cF w s0 mg mb ok k2 (ms 36 13) false = some fn34.body := by kernel_rfl
theorem zoe : NewIn (mkS w s0 mg mb) := ⟨_, _, _, _, _, Str.ofString "self", Str.ofString "scope", _, _, _, _, by kernel_rfl, by kernel_rfl, by kernel_rfl, by kernel_rfl, by kernel_rfl, (by kernel_rfl : findIn (K w.params) (.ref 363) "__init__" = some (some (.ref 275))), by kernel_rfl, rfl, by kernel_rfl, by kernel_rfl, by kernel_rfl, by kernel_rfl, by kernel_rfl, by kernel_rfl, by kernel_rfl, by kernel_rfl, rfl, by decide, by kernel_rfl, by kernel_rfl, by kernel_rfl, by kernel_rfl⟩
theorem zag {P : Nat -> Fn -> Prop} {k : Nat} {f : Fn} {l : List Fn} (h : P k f) (t : ∀ n fn, l[n]? = some fn -> P (k + 1 + n) fn) : ∀ n fn, (f :: l)[n]? = some fn -> P (k + n) fn
 | 0, _, e => Option.some.inj e ▸ h
 | n + 1, fn, e => (by rw [show k + (n + 1) = k + 1 + n by rw [Nat.add_right_comm]; rfl]; exact t n fn e)
theorem znN (ok : StaOk3 (mkS w s0 mg mb)) (k2 : KOk2 (mkS w s0 mg mb)) : ∀ f fn, (mkS w s0 mg mb).tab f = some fn -> FnOk (mkS w s0 mg mb) f fn
 | 0, _, h => nomatch (h : none = some _)
 | n + 1, fn, h => Nat.add_comm 1 n ▸ ((zag (k := 1) (f := fn1) (zav ok.toStaOk (i1 w s0 mg mb) rfl (zaf ok k2 (c1 w s0 mg mb ok k2))) (zag (k := 2) (f := fn2) (zav ok.toStaOk (i2 w s0 mg mb) rfl (zaf ok k2 (c2 w s0 mg mb ok k2))) (zag (k := 3) (f := fn3) (zav ok.toStaOk (i3 w s0 mg mb) rfl (zaf ok k2 (c3 w s0 mg mb ok k2))) (zag (k := 4) (f := fn4) (zav ok.toStaOk (i4 w s0 mg mb) rfl (zaf ok k2 (c4 w s0 mg mb ok k2))) (zag (k := 5) (f := fn5) (zav ok.toStaOk (i5 w s0 mg mb) rfl (zaf ok k2 (c5 w s0 mg mb ok k2))) (zag (k := 6) (f := fn6) (zav ok.toStaOk (i6 w s0 mg mb) rfl (zaf ok k2 (c6 w s0 mg mb ok k2))) (zag (k := 7) (f := fn7) (zav ok.toStaOk (i7 w s0 mg mb) rfl (zaf ok k2 (c7 w s0 mg mb ok k2))) (zag (k := 8) (f := fn8) (zav ok.toStaOk (i8 w s0 mg mb) rfl (zaf ok k2 (c8 w s0 mg mb ok k2))) (zag (k := 9) (f := fn9) (zav ok.toStaOk (i9 w s0 mg mb) rfl (zaf ok k2 (c9 w s0 mg mb ok k2))) (zag (k := 10) (f := fn10) (zav ok.toStaOk (i10 w s0 mg mb) rfl (zaf ok k2 (c10 w s0 mg mb ok k2))) (zag (k := 11) (f := fn11) (zav ok.toStaOk (i11 w s0 mg mb) rfl (zaf ok k2 (c11 w s0 mg mb ok k2))) (zag (k := 12) (f := fn12) (zav ok.toStaOk (i12 w s0 mg mb) rfl (zaf ok k2 (c12 w s0 mg mb ok k2))) (zag (k := 13) (f := fn13) (zav ok.toStaOk (i13 w s0 mg mb) rfl (zaf ok k2 (c13 w s0 mg mb ok k2))) (zag (k := 14) (f := fn14) (zav ok.toStaOk (i14 w s0 mg mb) rfl (zaf ok k2 (c14 w s0 mg mb ok k2))) (zag (k := 15) (f := fn15) (zav ok.toStaOk (i15 w s0 mg mb) rfl (zaf ok k2 (c15 w s0 mg mb ok k2))) (zag (k := 16) (f := fn16) (zav ok.toStaOk (i16 w s0 mg mb) rfl (zaf ok k2 (c16 w s0 mg mb ok k2))) (zag (k := 17) (f := fn17) (zav ok.toStaOk (i17 w s0 mg mb) rfl (zaf ok k2 (c17 w s0 mg mb ok k2))) (zag (k := 18) (f := fn18) (zav ok.toStaOk (i18 w s0 mg mb) rfl (zaf ok k2 (c18 w s0 mg mb ok k2))) (zag (k := 19) (f := fn19) (zav ok.toStaOk (i19 w s0 mg mb) rfl (zaf ok k2 (c19 w s0 mg mb ok k2))) (zag (k := 20) (f := fn20) (zav ok.toStaOk (i20 w s0 mg mb) rfl (zaf ok k2 (c20 w s0 mg mb ok k2))) (zag (k := 21) (f := fn21) (zav ok.toStaOk (i21 w s0 mg mb) rfl (zaf ok k2 (c21 w s0 mg mb ok k2))) (zag (k := 22) (f := fn22) (zav ok.toStaOk (i22 w s0 mg mb) rfl (zaf ok k2 (c22 w s0 mg mb ok k2))) (zag (k := 23) (f := fn23) (zav ok.toStaOk (i23 w s0 mg mb) rfl (zaf ok k2 (c23 w s0 mg mb ok k2))) (zag (k := 24) (f := fn24) (zav ok.toStaOk (i24 w s0 mg mb) rfl (zaf ok k2 (c24 w s0 mg mb ok k2))) (zag (k := 25) (f := fn25) (zav ok.toStaOk (i25 w s0 mg mb) rfl (zaf ok k2 (c25 w s0 mg mb ok k2))) (zag (k := 26) (f := fn26) (zav ok.toStaOk (i26 w s0 mg mb) rfl (zaf ok k2 (c26 w s0 mg mb ok k2))) (zag (k := 27) (f := fn27) (zav ok.toStaOk (i27 w s0 mg mb) rfl (zaf ok k2 (c27 w s0 mg mb ok k2))) (zag (k := 28) (f := fn28) (zav ok.toStaOk (i28 w s0 mg mb) rfl (zaf ok k2 (c28 w s0 mg mb ok k2))) (zag (k := 29) (f := fn29) (zav ok.toStaOk (i29 w s0 mg mb) rfl (zaf ok k2 (c29 w s0 mg mb ok k2))) (zag (k := 30) (f := fn30) (zav ok.toStaOk (i30 w s0 mg mb) rfl (zaf ok k2 (c30 w s0 mg mb ok k2))) (zag (k := 31) (f := fn31) (zav ok.toStaOk (i31 w s0 mg mb) rfl (zaf ok k2 (c31 w s0 mg mb ok k2))) (zag (k := 32) (f := fn32) (zav ok.toStaOk (i32 w s0 mg mb) rfl (zaf ok k2 (c32 w s0 mg mb ok k2))) (zag (k := 33) (f := fn33) (zav ok.toStaOk (i33 w s0 mg mb) rfl (zaf ok k2 (c33 w s0 mg mb ok k2))) (zag (k := 34) (f := fn34) (zav ok.toStaOk (i34 w s0 mg mb) rfl (zaf ok k2 (c34 w s0 mg mb ok k2))) (fun n fn h => nomatch (h : none = some _)))))))))))))))))))))))))))))))))))) : ∀ n fn, zlJ[n]? = some fn -> FnOk (mkS w s0 mg mb) (1 + n) fn) n fn h
theorem k_ok : KOk (mkS w s0 mg mb) where
 eGet := fun x => by kernel_rfl
 eDict := by kernel_rfl
 eScope := by kernel_rfl
 xGa := fun b => by cases b <;> kernel_rfl
 xGn := fun b => by cases b <;> kernel_rfl
 xSub := fun b => by cases b <;> kernel_rfl
 xDict := fun b => by cases b <;> kernel_rfl
 xWhat := fun b => by cases b <;> kernel_rfl
 xSpot := fun b => by cases b <;> kernel_rfl
theorem iniD : IniD (mkS w s0 mg mb) 65 75 := by
 refine ⟨Str.ofString "self", Str.ofString "what", _, _, _, _, _, _, _, _, _, _, by decide, ?_, ⟨_, _, _, 53, _, _, _, 64, _, _, _, _, _, _, rfl, by kernel_rfl, by kernel_rfl, by kernel_rfl, by kernel_rfl, by kernel_rfl, by kernel_rfl, by kernel_rfl, rfl, by kernel_rfl, by kernel_rfl, by decide +kernel, by decide +kernel, by kernel_rfl, by kernel_rfl, by kernel_rfl, rfl, by kernel_rfl, rfl, rfl, by kernel_rfl⟩⟩
 kernel_rfl
theorem iniP : IniP (mkS w s0 mg mb) 94 104 := by
 refine ⟨Str.ofString "self", Str.ofString "what", Str.ofString "spot", _, _, _, _, _, _, _, _, _, _, by decide, by decide, by decide, ?_, ⟨_, _, _, 82, _, _, _, 93, _, _, _, _, _, _, rfl, by kernel_rfl, by kernel_rfl, by kernel_rfl, by kernel_rfl, by kernel_rfl, by kernel_rfl, by kernel_rfl, rfl, by kernel_rfl, by kernel_rfl, by decide +kernel, by decide +kernel, by kernel_rfl, by kernel_rfl, by kernel_rfl, rfl, by kernel_rfl, rfl, rfl, by kernel_rfl⟩⟩
 kernel_rfl
theorem zon (h1 : mg "super" = none) : ExcK (mkS w s0 mg mb) 75 104 65 94 where
 si := ⟨h1, by kernel_rfl⟩
 cls := fun b => by cases b <;> exact ⟨_, _, _, _, _, _, _, _, _, _, _, _, _, _, _, rfl, by kernel_rfl⟩
 f0 := by kernel_rfl
 f1 := by kernel_rfl
 tP := by kernel_rfl
 tD := by kernel_rfl
 iD := iniD w s0 mg mb
 iP := iniP w s0 mg mb
 cD := ⟨_, _, rfl, rfl⟩
 cP := ⟨_, _, rfl, rfl⟩
 mD := fun b => by cases b <;> kernel_rfl
 mP := by kernel_rfl
 aD := fun b => by cases b <;> kernel_rfl
 aP := by kernel_rfl
 no := by kernel_rfl
 sa := fun b => by cases b <;> kernel_rfl
 tw := fun b => by cases b <;> kernel_rfl
 ts := by kernel_rfl
theorem zlU : KSeen (mkS w s0 mg mb) where
 fu := by kernel_rfl
 me := by kernel_rfl
 ek := by kernel_rfl
 eg := by kernel_rfl
 xCl := fun b => by cases b <;> kernel_rfl
 xTy := fun b => by cases b <;> kernel_rfl
 xTu := fun b => by cases b <;> kernel_rfl
 xEq := fun a b => by cases a <;> cases b <;> kernel_rfl
 xKp := fun b => by cases b <;> kernel_rfl
 xF := by kernel_rfl
 xL := by kernel_rfl
 fr := by kernel_rfl
end
theorem noT (P : Params) : noTabs (K P) = true := by kernel_rfl
theorem sysT (P : Params) : ∃ o, (K P).lookup 1 = some o := ⟨_, rfl⟩
theorem sta1 {w : World} {s1 : Shared} {mg mb : Str -> Option Value} {p : Program} {loose : List Str} {mean : ExcName -> Option Value} (T : Top p loose mean mg mb s1.heap) (X : (K w.params).In s1.heap) (hT : TabsAt [(475, 473)] s1.heap) :
  StaOk (mkS w { s1 with heap := ghostOf s1.heap [(475, 473)] } mg mb) where
 K := ghost_K hT X (noT _)
 g := ghost_ns hT T.g
 b := ghost_ns hT T.b
 builtins := T.builtins
 nolimit := let ⟨mc, a, r⟩ := T.nolimit; ⟨mc, ghost_ns hT a, r⟩
 cev := by show 14 < 363; decide
 sm := let ⟨o, e⟩ := sysT w.params; ⟨o, ghost_K hT X (noT _) 1 o e⟩
 lc := (ghost_code hT).1
 tn := hideAll_none _ (by simp)
 ba := fun h st => by
  obtain ⟨bm, ob, a1, a2, a3, a4, a5, a6⟩ := T.bmain
  have n1 : bm ≠ mainGlobals := fun q => by
   obtain ⟨o, es, ep, e, hd, _⟩ := T.g
   rw [q, e] at a3; cases a3
   rw [hd] at a6; cases a6
  have n2 : bm ≠ 473 := fun q => by
   have := (hT (475, 473) (.head _)).2
   rw [q] at a3
   rw [a3] at this; cases this
   cases a6
  exact ⟨bm, ob, a1, a2, n1, n2, st _ _ (ghost_get hT a3 (fun q => by rw [q] at a4; cases a4)), a4, a5, a6⟩
end Mine.Lake
namespace Mine.Lake
open PySem PySem.W PyProof.Rows PySem.Calls
noncomputable abbrev gh (s : Shared) : Shared := { s with heap := ghostOf s.heap [(475, 473)] }
noncomputable abbrev gS (w : World) (s : Shared) (mg mb : Str -> Option Value) : Sta := mkS w (gh s) mg mb
theorem walk1 (hl : ∀ l : List Int, l.length <= 63 -> zaM tab1 gc1 500 27 [.v (.pd (.list (l.map .int)))] [] (fun v _ => v = .pd (.bool true)) (fun _ _ => False)) :
  WalkO q loose (XL q []) HK.says rw.row.toRowW lawD [] fun f vs => PySem.call f vs := by
 intro w s₀ s₁ mg mb G Y fa o pm cd doc dV kV ho hd hcd hD hmg hg args vals as hpre hlay hrd hwl hlo
 have X : (K w.params).In s₁.heap := kIn_of Y
 have T := G.T
 have hT : TabsAt ([(475, 473)] : List (Addr × Addr)) s₁.heap := List.forall_mem_cons.mpr ⟨tab_of (x := PySem.Str.ofString "law") (c := 475) (P := 473) T X rfl (by kernel_rfl), fun _ h => nomatch h⟩
 have e476 : mg (Str.ofString "law") = some (.ref 476) := mg_of X T.g (by kernel_rfl)
 have hfa : fa = 476 := by
  have : mg (Str.ofString "law") = some (.ref fa) := hmg
  rw [e476] at this; cases this; rfl
 subst hfa
 clear ho hd hcd hD
 wrow_args hpre hlay hrd hwl hlo
 rename Heap.IsList _ _ _ => hL
 rename IntsAre _ _ => hI
 rename ¬ _ => hc
 rename_i l _ _ _ _ _ _ _ la vl _ _ _ _ _ _
 have hlen : l.length <= 63 := by omega
 have ok1 := sta1 T X hT
 have hXB := ok1.K
 have cons : ∀ x i, zaW (gS w s₁ mg mb).cx.cons x = some i -> ∃ v, mg x = some v /\ PV w.params (ghostOf s₁.heap [(475, 473)]) (fun _ => .fz) v (gc1 i) := fun x i h => by
  have hm := zaC h
  rcases List.mem_cons.mp hm with hm | hm
  ·cases hm
   exact ⟨.int 100000 342, mg_of X T.g (by kernel_rfl), .int _ _⟩
  ·cases hm
 have ok3 := sta3 ok1 (zlU w (gh s₁) mg mb) (k_ok w (gh s₁) mg mb) cons
 have k2 := zod ok1 (zlU w (gh s₁) mg mb)
 have xk := zon w (gh s₁) mg mb (zjI (n := Str.ofString "super") X T.g (by kernel_rfl))
 have tabs := znN w (gh s₁) mg mb ok3 k2
 have jn := zoe w (gh s₁) mg mb
 have co := zhX ok3 k2 jn xk tabs 499
 have bo : Hy (gS w s₁ mg mb) 499 := ⟨co, zjG ok1 jn, zjM ok1 xk⟩
 have e473 := (hT (475, 473) (.head _)).2
 let g : Gh := { κ := fun a => if a = 473 then .tb else if (s₁.heap.get? a).isSome then .fz else .ot, μ := fun _ => 0, n := 0 }
 have g473 : g.κ 473 = .tb := by
  show (if (473 : Addr) = 473 then Kd.tb else if (s₁.heap.get? 473).isSome then .fz else .ot) = .tb
  exact if_pos rfl
 have gfz : ∀ a o, a ≠ 473 -> s₁.heap.get? a = some o -> g.κ a = .fz := fun a o n e => by
  show (if a = 473 then Kd.tb else if (s₁.heap.get? a).isSome then .fz else .ot) = .fz
  rw [if_neg n, e]; rfl
 have bne : ∀ a o, (ghostOf s₁.heap [(475, 473)]).get? a = some o -> a ≠ 473 := fun a o e q => by
  rw [q] at e
  rw [hideAll_none _ (by simp)] at e; cases e
 have I : Inv (gS w s₁ mg mb) [] g [] s₁.heap := {
  stays := fun b o e => of_hideAll _ e
  bfz := fun a o e => gfz a o (bne a o e) (of_hideAll _ e)
  ot := fun a e => by
   show (if a = 473 then Kd.tb else if (s₁.heap.get? a).isSome then .fz else .ot) = .ot
   rw [if_neg (fun q => by rw [q, e473] at e; cases e), e]; rfl
  num := rfl
  mu := fun i o e => by simp at e
  km := fun i hi => absurd hi (Nat.not_lt_zero i)
  inj := fun i j hi => absurd hi (Nat.not_lt_zero i)
  fr := ⟨trivial, fun L hm => by simp at hm⟩
  tb := ⟨g473, #[], e473, trivial, fun pos cv q => by cases q⟩ }
 have hla : la ≠ 1 := fun q => by
  obtain ⟨o, e, c, _⟩ := hL
  have e1 := X 1 _ rfl
  rw [q, e1] at e; cases e
  injection c with c; exact absurd c (by decide)
 obtain ⟨ol, el, cl, nl, dl⟩ := hL
 have r : LRs (gS w s₁ mg mb) s₁.heap g [.ref la] [.v (.pd (.list (l.map .int)))] := .cons (.v (.pd (.list (gfz la ol (fun q => by rw [q, e473] at el; cases el; cases cl) el) el cl dl hla (zeG hI)))) .nil
 have main := zfI ok3 tabs bo (f := 27) (A := callerA) (s := s₁) rfl rfl rfl (by decide) (by decide) I r (by decide) (hl l hlen)
 refine wpAny_mono main (fun v s' hok => ?_) (fun e s' her => ?_)
 ·obtain ⟨b, σ', g', hb, E, I', R, Z⟩ := hok
  subst hb
  have hv : v = .bool true := by
   cases R with
   | pd p => cases p; rfl
  subst hv
  have keep : ∀ b o, b ≠ 473 -> s₁.heap.get? b = some o -> s'.heap.get? b = some o := fun b o n e => (E.fz b o (gfz b o n e) e).2
  obtain ⟨ps, ep, _⟩ := I'.tb.at_
  refine ⟨.inl ⟨.bool true, .bool true, [], rfl, fun cls => rfl, .bool _, ?_, fun _ => ⟨List.nodup_nil, fun _ h => by cases h⟩⟩, ⟨fun b o e => ?_, fun b o e => ?_⟩, Z.2.2, ?_⟩
  ·wrow_post
  ·by_cases n : b = 473
   ·subst n
    rw [e473] at e; cases e
    exact .inr (.inl ⟨((hT (475, 473) (.head _)).1.tab e473).isCodeTable, rfl, #[], ps, rfl, by rw [Array.empty_append]; exact ep⟩)
   ·exact .inl (keep b o n e)
  ·exact E.still b o e
  ·rw [Z.1, hg]; exact .of_eq rfl
 ·obtain ⟨exc, σ', g', ea, tr, _, _, hE, _⟩ := her
  exact hE.elim
end Mine.Lake
namespace Mine.Lake.Pl
open PySem PySem.W PyProof.Rows
set_option backward.match.sparseCases false
noncomputable def retK (K : KV) : KS := fun fl _ σ' => match fl with
 | .ret v => K v σ'
 | .next => K (.pd .none) σ'
noncomputable def stp (G : zaa) (f : Nat) (as : List Loc) (σ : Hp) (K : KV) (E : KE) : Prop :=
 need (tab1 f) fun fn => need (zdg fn.ps as (List.replicate fn.size none)) fun m => evSs G gc1 fn.body m σ (retK K) E
noncomputable abbrev G1 := zaM tab1 gc1
def Up (G H : zaa) : Prop := ∀ f as σ K E, stp G f as σ K E -> H f as σ K E
theorem zaZ (n : Nat) : Up (G1 n) (G1 (n + 1)) := fun f as σ K E h => h
def Lv (j : Nat) (G : zaa) : Prop := ∃ n, j <= n /\ G = G1 n
inductive Dn (j : Nat) (G : zaa) : Prop
 | mk (H : zaa) (l : Lv j H) (u : Up H G)
theorem Lv.dn {j : Nat} {G : zaa} (h : Lv (j + 1) G) : Dn j G := by
 obtain ⟨n, hn, rfl⟩ := h
 obtain ⟨m, rfl⟩ := Nat.exists_eq_add_of_le' hn
 exact ⟨G1 (m + j), ⟨_, Nat.le_add_left j m, rfl⟩, zaZ (m + j)⟩
theorem Lv.le {i j : Nat} {G : zaa} (h : Lv j G) (q : i <= j) : Lv i G := let ⟨n, hn, e⟩ := h; ⟨n, Nat.le_trans q hn, e⟩
noncomputable abbrev pv (d : PyData) : Loc := .v (.pd d)
noncomputable abbrev iv (i : Int) : Loc := .v (.pd (.int i))
noncomputable abbrev lp (d : PyData) : Option Loc := some (.v (.pd d))
theorem zab {α : Type} {o : Option α} {a : α} {k : α -> Prop} (e : o = some a) (h : k a) : need o k := by subst e; exact h
theorem zhZ {t : Bool} {P Q : Prop} (e : t = true) (h : P) : brn t P Q := by subst e; exact h
theorem zf7 {t : Bool} {P Q : Prop} (e : t = false) (h : Q) : brn t P Q := by subst e; exact h
theorem brn_i {t : Bool} {P Q : Prop} (h : t = true -> P) (g : t = false -> Q) : brn t P Q := by
 cases t with
 | true => exact h rfl
 | false => exact g rfl
theorem gd_i {β : Type} {c : Prop} [Decidable c] {x : β} (h : c) : gd c x = some x := if_pos h
noncomputable abbrev tInt : PyData := .str ⟨#[105,110,116]⟩
noncomputable abbrev znP : PyData := .str ⟨#[98,111,111,108]⟩
noncomputable abbrev znO : PyData := .str ⟨#[110,97,109,101]⟩
noncomputable abbrev zlK : PyData := .str ⟨#[114,97,110,103,101]⟩
noncomputable abbrev tSet : PyData := .str ⟨#[115,101,116]⟩
noncomputable abbrev tAny : PyData := .str ⟨#[105,110,116,95,97,110,121]⟩
noncomputable abbrev tBad : PyData := .str ⟨#[98,97,100]⟩
noncomputable abbrev wNum : Str := ⟨#[97,32,110,117,109,98,101,114,32,105,115,32,119,97,110,116,101,100]⟩
noncomputable abbrev zlu : Str := ⟨#[116,114,117,101,32,111,114,32,102,97,108,115,101,32,105,115,32,119,97,110,116,101,100]⟩
noncomputable abbrev znI : Str := ⟨#[97,32,116,101,120,116,32,105,115,32,119,97,110,116,101,100]⟩
noncomputable abbrev wSet : Str := ⟨#[97,32,115,101,116,32,105,115,32,119,97,110,116,101,100]⟩
noncomputable abbrev wArr : Str := ⟨#[97,110,32,97,114,114,97,121,32,105,115,32,119,97,110,116,101,100]⟩
noncomputable abbrev wNo : Str := ⟨#[122,32,104,97,115,32,110,111,32,118,97,108,117,101]⟩
noncomputable abbrev wBnd : Str := ⟨#[32,105,115,32,110,111,116,32,119,105,116,104,105,110,32,105,116,115,32,98,111,117,110,100,115]⟩
noncomputable def iStr (i : Int) : Str := Str.ofString (toString i)
inductive Kn where
 | int | bool | str | set
noncomputable def Kn.w : Kn -> Str
 | .int => ⟨#[105,110,116]⟩
 | .bool => ⟨#[98,111,111,108]⟩
 | .str => ⟨#[115,116,114]⟩
 | .set => ⟨#[115,101,116]⟩
set_option genCtorIdx false in
inductive Vl where
 | num (i : Int)
 | tru (b : Bool)
 | txt (x : Str)
 | set (l : List Int)
 | arr (p l : List PyData)
noncomputable def Vl.ctorIdx (x : Vl) : Nat := Vl.casesOn x (fun _ => 0) (fun _ => 1) (fun _ => 2) (fun _ => 3) (fun _ _ => 4)
noncomputable abbrev zdo (l : List Int) : PyData := .tuple (l.map .int)
noncomputable abbrev arrD (p l : List PyData) : PyData := .tuple [.tuple p, .list l]
noncomputable def Vl.d : Vl -> PyData
 | .num i => .int i
 | .tru b => .bool b
 | .txt x => .str x
 | .set l => zdo l
 | .arr p l => arrD p l
set_option genCtorIdx false in
inductive Re (α : Type) where
 | ok (v : α)
 | bad (t : Str) (s : Int)
noncomputable def Re.ctorIdx {α : Type} (x : Re α) : Nat := Re.casesOn x (fun _ => 0) (fun _ _ => 1)
noncomputable def Re.bind {α β : Type} (r : Re α) (k : α -> Re β) : Re β := match r with
 | .ok v => k v
 | .bad t s => .bad t s
noncomputable abbrev err (t : Str) (s : Int) : Exc := ⟨false, t, .int s⟩
noncomputable def Out (r : Re Vl) (K : KV) (E : KE) (σ : Hp) : Prop := match r with
 | .ok v => K (.pd v.d) σ
 | .bad t s => E (err t s) σ
noncomputable def badT (t : Str) (s : Int) : PyData := .tuple [tBad, .str t, .int s]
section
variable {α : Type}
noncomputable def cnt (s : Int) (u : Vl) (k : Int -> Re α) : Re α := match u with
 | .num i => k i
 | .tru b => k (if b = true then 1 else 0)
 | _ => .bad wNum s
noncomputable def tru (s : Int) (u : Vl) (k : Bool -> Re α) : Re α := match u with
 | .tru b => k b
 | _ => .bad zlu s
noncomputable def txt' (s : Int) (u : Vl) (k : Str -> Re α) : Re α := match u with
 | .txt b => k b
 | _ => .bad znI s
noncomputable def lot (s : Int) (u : Vl) (k : List Int -> Re α) : Re α := match u with
 | .set l => k l
 | _ => .bad wSet s
end
noncomputable def rI (lo hi : Int) : List Int := (List.range (hi + 1 - lo).toNat).map fun (k : Nat) => lo + (k : Int)
noncomputable def tab6 : List (List Int × Str) := [([], ⟨#[123,125]⟩), ([0, 1, 2], ⟨#[48,46,46,50]⟩), ([1, 3], ⟨#[123,49,44,51,125]⟩), ([2], ⟨#[123,50,125]⟩), ([3, 4], ⟨#[51,46,46,52]⟩), ([0, 2], ⟨#[123,48,44,50,125]⟩)]
noncomputable def shV : Vl -> Str
 | .num i => iStr i
 | .set l => (zaW tab6 l).getD Str.empty
 | _ => Str.empty
noncomputable def out (m : List Int) (l : List Int) : List Int := l.filter fun v => !(m.any (· == v))
noncomputable def chk (s : Int) (bd : Option (List Int)) (l : List Int) (v : Vl) : Re Vl := match bd with
 | none => .ok v
 | some m => (match decide (out m l = []) with
  | true => .ok v
  | false => .bad (shV v ++ wBnd) s)
noncomputable def zan (s : Int) (k : Kn) (bd : Option (List Int)) (u : Vl) : Re Vl := match k with
 | .bool => tru s u fun t => .ok (.tru t)
 | .str => txt' s u fun x => .ok (.txt x)
 | .int => cnt s u fun i => chk s bd [i] (.num i)
 | .set => lot s u fun l => chk s bd l (.set l)
noncomputable def wN (n : Nat) : Str := ⟨#[119]⟩ ++ iStr n
noncomputable def things : List Vl := [.num 0, .num 1, .num 2, .num 3, .num 4, .tru true, .tru false, .txt ⟨#[119]⟩, .txt (wN 0), .txt (wN 1), .txt (wN 2), .txt (wN 3), .txt (wN 4), .txt (wN 5), .txt (wN 6), .txt (wN 7), .txt (wN 8), .txt (wN 9),
 .set [], .set [0, 1, 2], .set [1, 3], .set [2], .set [3, 4], .set [0, 2]]
noncomputable abbrev Pr := Int × Int
noncomputable abbrev prD (p : Pr) : PyData := .tuple [.int p.1, .int p.2]
noncomputable abbrev psD (ps : List Pr) : List PyData := ps.map prD
structure Bd where
 l : Option (List Int)
 b : PyData
 k : PyData
noncomputable def mkB (l : List Int) (ps : List Pr) : Bd := ⟨some l, .tuple (psD ps), .list (l.map .int)⟩
noncomputable def bds : List Bd := [⟨none, .none, .none⟩, mkB [0, 1, 2, 3, 4] [(0, 4)], mkB [-1, 0, 1, 2, 3, 4] [(-1, 4)], mkB [0, 1] [(0, 1)], mkB [-1, 0, 1] [(-1, 1)], mkB [0, 1, 2, 3] [(0, 3)], mkB [0, 2, 5] [(0, 0), (2, 2), (5, 5)]]
noncomputable def kns : List Kn := [.int, .bool, .str, .set]
noncomputable def combos : List (Kn × Bd × Vl) := kns.flatMap fun k => bds.flatMap fun b => things.map fun t => (k, b, t)
theorem zcE {k : Kn} {b : Bd} {t : Vl} (hb : b ∈ bds) (ht : t ∈ things) : (k, b, t) ∈ combos :=
 List.mem_flatMap.mpr ⟨k, by cases k; exact .head _; exact .tail _ (.head _); exact .tail _ (.tail _ (.head _)); exact .tail _ (.tail _ (.tail _ (.head _))), List.mem_flatMap.mpr ⟨b, hb, List.mem_map.mpr ⟨t, ht, rfl⟩⟩⟩
theorem sz : sizeLine = 2 ^ 24 := rfl
theorem za8 {n m : Nat} (h : n <= m) (q : m <= 2 ^ 24) : n <= sizeLine := Nat.le_trans h q
theorem zai {α : Type} {f g : α -> Prop} {l : List α} (h : l.map f = l.map g) {a : α} (m : a ∈ l) (q : g a) : f a := List.map_inj_left.mp h a m ▸ q
noncomputable def OutC (r : Re Vl) (K : KV) (σ : Hp) : Prop := match r with
 | .ok _ => K (.pd .none) σ
 | .bad t s => K (.pd (badT t s)) σ
section
variable {m : Nat} {s : Int} {K : KV} {E : KE} {σ : Hp} {k : Kn} {b : Bd} {u : Vl}
theorem zng : (combos.map fun c => G1 (m + 5) 15 [pv (.str c.1.w), pv c.2.1.b, pv c.2.2.d, iv s] σ K E) = combos.map fun c => Out (zan s c.1 c.2.1.l c.2.2) K E σ := by kernel_rfl
theorem znj : (combos.map fun c => G1 (m + 3) 23 [pv (.str c.1.w), pv c.2.1.k, pv c.2.2.d, iv s] σ K E) = combos.map fun c => OutC (zan s c.1 c.2.1.l c.2.2) K σ := by kernel_rfl
noncomputable def combos2 : List (Kn × Bd) := kns.flatMap fun k => bds.map fun b => (k, b)
theorem zc5 (hb : b ∈ bds) : (k, b) ∈ combos2 :=
 List.mem_flatMap.mpr ⟨k, by cases k; exact .head _; exact .tail _ (.head _); exact .tail _ (.tail _ (.head _)); exact .tail _ (.tail _ (.tail _ (.head _))), List.mem_map.mpr ⟨b, hb, rfl⟩⟩
theorem zlg {p l : List PyData} : (combos2.map fun c => G1 (m + 5) 15 [pv (.str c.1.w), pv c.2.b, pv (arrD p l), iv s] σ K E) = combos2.map fun c => Out (zan s c.1 c.2.l (.arr p l)) K E σ := by kernel_rfl
theorem zli {p l : List PyData} : (combos2.map fun c => G1 (m + 3) 23 [pv (.str c.1.w), pv c.2.k, pv (arrD p l), iv s] σ K E) = combos2.map fun c => OutC (zan s c.1 c.2.l (.arr p l)) K σ := by kernel_rfl
inductive Val : Vl -> Prop
 | th {u : Vl} : u ∈ things -> Val u
 | arr (p l : List PyData) : Val (.arr p l)
theorem zfx (hb : b ∈ bds) (hu : Val u) (h : Out (zan s k b.l u) K E σ) : G1 (m + 5) 15 [pv (.str k.w), pv b.b, pv u.d, iv s] σ K E := by
 cases hu with
 | th hu => exact zai zng (zcE hb hu) h
 | arr p l => exact zai zlg (zc5 hb) h
theorem zjo (hb : b ∈ bds) (hu : Val u) (h : OutC (zan s k b.l u) K σ) : G1 (m + 3) 23 [pv (.str k.w), pv b.k, pv u.d, iv s] σ K E := by
 cases hu with
 | th hu => exact zai znj (zcE hb hu) h
 | arr p l => exact zai zli (zc5 hb) h
end
theorem app1 {α : Type} {acc : List α} {a : α} {l : List α} : acc ++ [a] ++ l = acc ++ a :: l := by rw [List.append_assoc]; rfl
theorem zcw {α : Type} {l : List α} {a : α} : (l ++ [a]).length = l.length + 1 := List.length_append
theorem mv {a b c : Nat} (h : a + (b + 1) <= c) : a + 1 + b <= c := Nat.add_right_comm a b 1 ▸ h
theorem acc1 {α : Type} {acc : List α} {a : α} {n N : Nat} (h : acc.length + (n + 1) <= N) : (acc ++ [a]).length + n <= N := by
 rw [zcw]; exact mv h
noncomputable def runs (p : Pr) : List Int -> List Pr
 | [] => [p]
 | i :: r => if i <= p.2 + 1 then runs (p.1, i) r else p :: runs (i, i) r
noncomputable def zl0 : List Int -> List Pr
 | [] => []
 | i :: r => runs (i, i) r
section
variable {K K' : KV} {E : KE} {σ τ A : Hp} {F G H : zaa} {s i : Int}
theorem znn (n : Nat) : (-1 + ((n + 1 : Nat) : Int)).toNat = n := (congrArg Int.toNat ((congrArg (-1 + ·) (Int.add_comm (n : Int) 1)).trans (Int.neg_add_cancel_left 1 n))).trans (Int.toNat_natCast n)
theorem neg1 (n : Nat) : -((n + 1 : Nat) : Int) <= -1 := Int.neg_le_neg (Int.ofNat_le.mpr (Nat.succ_pos n))
theorem ziY {l : List PyData} {d : PyData} (hl : (l ++ [d]).length <= sizeLine) : idx (l ++ [d]) (-1) = some d := by
 rw [zcw] at hl
 unfold idx
 rw [zcw, if_pos ⟨neg1 _, Int.lt_of_lt_of_le (by decide) (Int.natCast_nonneg _), hl⟩, if_pos (by decide), znn, List.getElem?_append_right (Nat.le_refl _), Nat.sub_self]
 rfl
theorem zhj {l : List PyData} {j : Int} (h0 : 0 <= j) (h1 : j < l.length) (hl : l.length <= sizeLine) : idx l j = l[j.toNat]? := by
 unfold idx
 rw [if_pos ⟨Int.le_trans (Int.neg_nonpos_of_nonneg (Int.natCast_nonneg _)) h0, h1, hl⟩, if_neg (Int.not_lt.mpr h0)]
theorem zd8 {a : PyData} {r : List PyData} (h : (a :: r).length <= sizeLine) : idx (a :: r) 0 = some a := zhj (Int.le_refl 0) (Int.ofNat_lt.mpr (Nat.succ_pos _)) h
theorem gP {o : O} : (A ++ [o])[A.length]? = some o := by rw [List.getElem?_append_right (Nat.le_refl _), Nat.sub_self]; rfl
theorem setP {o o' : O} {B : Hp} : (A ++ o :: B).set A.length o' = A ++ o' :: B := by rw [List.set_append_right _ _ (Nat.le_refl _), Nat.sub_self]; rfl
theorem zeN {p : Nat} {l : List PyData} (e : σ[p]? = some (.list l)) : lstR σ (.ref p) = some (p, l) := congrArg (fun o => Option.bind o fun o => Option.map (fun l => (p, l)) (lstO o)) e
theorem zku {p : Nat} {l : List PyData} (e : σ[p]? = some (.list l)) : rd σ (.ref p) = some (.list l) := congrArg (fun o => Option.bind o rdO) e
theorem zcX {p : Nat} {l : List PyData} (e : σ[p]? = some (.list l)) : seqT σ (.ref p) = some l := congrArg (fun o : Option PyData => Option.bind o fun d => alt (za7 d) (tupP d)) (zku e)
theorem zlL {p : Nat} {l : List PyData} {i : Int} {d : PyData} (e : σ[p]? = some (.list l)) (h : idx l i = some d) : zaA σ (.ref p) (.pd (.int i)) = some (.pd d) := by
 refine (congrArg (fun o : Option PyData => Option.bind o fun d => alt ((za7 d).bind fun l => (idx l i).map V.pd) ((tupP d).bind fun l => (idx l i).map V.pd)) (zku e)).trans ?_
 show alt ((idx l i).map V.pd) none = _
 rw [h]; rfl
noncomputable abbrev els2 (n : Nat) (i : Int) (K : KV) (σ : Hp) : Prop := when ((lstR σ (.ref n)).isSome = true) (evLM .append (.ref n) [.pd (prD (i, i))] σ (fun _ σ => K (.pd .none) σ))
noncomputable abbrev thn2 (n : Nat) (i : Int) (K : KV) (σ : Hp) : Prop := need (zaA σ (.ref n) (.pd (.int (-1)))) fun z => need (zaA σ z (.pd (.int 1))) fun w => need (evOp .gt (.pd (.int i)) w σ) fun d => truth (.pd d) fun t => brn t
 (need (zaA σ (.ref n) (.pd (.int (-1)))) fun z => need (zaA σ z (.pd (.int 0))) fun y => need (zbE [y, .pd (.int i)]) fun ds => when (ds.length <= sizeLine) (need (zhr σ (.ref n) (.pd (.int (-1))) (.pd (.tuple ds))) fun σ' => K (.pd .none) σ')) (K (.pd .none) σ)
theorem put_eq {n : Nat} : stp G 2 [.v (.ref n), iv i, iv i] σ K E = need (seqT σ (.ref n)) fun l => when (l.length <= sizeLine) (brn (decide ((l.length : Int) > 0)) (need (zaA σ (.ref n) (.pd (.int (-1)))) fun z => need (zaA σ z (.pd (.int 1))) fun w => need (evOp .add w (.pd (.int 1)) σ) fun d => need (evOp .le (.pd (.int i)) (.pd d) σ) fun d => truth (.pd d) fun t => brn t (thn2 n i K σ) (els2 n i K σ))
  (brn (decide ((l.length : Int) > 0)) (thn2 n i K σ) (els2 n i K σ))) := by kernel_rfl
theorem zc9 {B : Hp} {l : List PyData} {d : PyData} (hl : l.length < sizeLine) (h : K (.pd .none) (A ++ .list (l ++ [d]) :: B)) : evLM .append (.ref A.length) [.pd d] (A ++ .list l :: B) K := by
 have e : (A ++ .list l :: B)[A.length]? = some (.list l) := by rw [List.getElem?_append_right (Nat.le_refl _), Nat.sub_self]; rfl
 exact zab (zeN e) (zah hl (by show K _ ((A ++ .list l :: B).set A.length _); rw [setP]; exact h))
theorem zbQ {B : Hp} {l : List PyData} : (lstR (A ++ .list l :: B) (.ref A.length)).isSome = true := by
 rw [zeN (l := l) (by rw [List.getElem?_append_right (Nat.le_refl _), Nat.sub_self]; rfl)]; rfl
theorem put0 (X : Up G H) (h : K (.pd .none) (A ++ [.list (psD [(i, i)])])) : H 2 [.v (.ref A.length), iv i, iv i] (A ++ [.list []]) K E :=
 X _ _ _ _ _ (put_eq.mpr (zab (zcX gP) (zah (Nat.zero_le _) (zah zbQ (zc9 (l := []) (by decide) h)))))
theorem zbU {qs : List Pr} {p : Pr} : psD (qs ++ [p]) = psD qs ++ [prD p] := List.map_append
theorem ziv {qs : List Pr} {p : Pr} (hl : (psD (qs ++ [p])).length <= sizeLine) : zhr (A ++ [O.list (psD (qs ++ [p]))]) (.ref A.length) (.pd (.int (-1))) (.pd (prD (p.1, i))) = some (A ++ [O.list (psD (qs ++ [(p.1, i)]))]) := by
 have e : (psD (qs ++ [p])).length = qs.length + 1 := by rw [List.length_map, List.length_append]; rfl
 refine (congrArg (fun o : Option (Nat × List PyData) => Option.bind o fun q => gd ((-1 : Int) < 0 /\ -(q.2.length : Int) <= -1 /\ q.2.length <= sizeLine) ((A ++ [O.list (psD (qs ++ [p]))]).set q.1 (.list (q.2.set (-1 + (q.2.length : Int)).toNat (prD (p.1, i)))))) (zeN gP)).trans ?_
 refine (gd_i ⟨by decide, by show -((psD (qs ++ [p])).length : Int) <= -1; rw [e]; exact neg1 _, hl⟩).trans (congrArg some ?_)
 show (A ++ [O.list (psD (qs ++ [p]))]).set A.length (.list ((psD (qs ++ [p])).set (-1 + ((psD (qs ++ [p])).length : Int)).toNat (prD (p.1, i)))) = _
 rw [setP, show (-1 + ((psD (qs ++ [p])).length : Int)).toNat = (psD qs).length by rw [e, List.length_map]; exact znn _, zbU, zbU, List.set_append_right _ _ (Nat.le_refl _), Nat.sub_self]
 rfl
theorem put1 {qs : List Pr} {p : Pr} (X : Up G H) (hi : p.2 < i) (hl : (qs ++ [p]).length + 1 <= 100) (h : K (.pd .none) (A ++ [.list (psD (if i <= p.2 + 1 then qs ++ [(p.1, i)] else qs ++ [p] ++ [(i, i)]))])) :
  H 2 [.v (.ref A.length), iv i, iv i] (A ++ [.list (psD (qs ++ [p]))]) K E := by
 have hl' : (psD (qs ++ [p])).length + 1 <= 100 := by rw [List.length_map]; exact hl
 have hz : (psD (qs ++ [p])).length <= sizeLine := za8 (Nat.le_of_succ_le hl') (by decide)
 have lst : zaA (A ++ [O.list (psD (qs ++ [p]))]) (.ref A.length) (.pd (.int (-1))) = some (.pd (prD p)) := zlL gP (by rw [zbU]; exact ziY (zbU ▸ hz))
 have pos : decide (((psD (qs ++ [p])).length : Int) > 0) = true := decide_eq_true (by rw [zbU, zcw]; exact Int.ofNat_lt.mpr (Nat.succ_pos _))
 refine X _ _ _ _ _ (put_eq.mpr (zab (zcX gP) (zah hz (zhZ pos (zab lst (zab (a := .pd (.int p.2)) rfl (zab (a := .int (p.2 + 1)) rfl (zab (a := .bool (decide (i <= p.2 + 1))) rfl (zab (a := decide (i <= p.2 + 1)) rfl ?_)))))))))
 by_cases q : i <= p.2 + 1
 ·rw [if_pos q] at h
  exact zhZ (decide_eq_true q) (zab lst (zab (a := .pd (.int p.2)) rfl (zab (a := .bool (decide (i > p.2))) rfl (zab (a := decide (i > p.2)) rfl (zhZ (decide_eq_true hi) (zab lst (zab (a := .pd (.int p.1)) rfl (zab (a := [.int p.1, .int i]) rfl (zah (c := [PyData.int p.1, .int i].length <= sizeLine) (Nat.le_of_ble_eq_true rfl) (zab (ziv (A := A) (p := p) (i := i) hz) h))))))))))
 ·rw [if_neg q] at h
  exact zf7 (decide_eq_false q) (zah zbQ (zc9 (Nat.lt_of_le_of_lt (Nat.le_of_succ_le hl') (by decide)) (by rw [← zbU]; exact h)))
theorem allInt_map : ∀ l : List Int, zbO (l.map .int) = some l
 | [] => rfl
 | i :: r => congrArg (Option.map (i :: ·)) (allInt_map r)
noncomputable def b3 : List Mine.Lake.S := match fn3.body with
 | _ :: .for _ _ b :: _ => b
 | _ => []
noncomputable abbrev FL (G : zaa) (K : KV) (E : KE) (l : List Int) (n : Nat) (its : List PyData) (a : Option Loc) (σ : Hp) : Prop := forN (fun d m' σ' k => need (tgFm m' (.n 2) d) fun m'' => evSs G gc1 b3 m'' σ' k E) (fun _ k => k) (fun f m' σ' => match f with
 | .next => evSs G gc1 (fn3.body.drop 2) m' σ' (retK K) E
 | f => retK K f m' σ') its [lp (zdo l), some (.v (.ref n)), a, none, none, none] σ
theorem zjL {l : List Int} {a : Option Loc} {q : List Pr} (hl : q.length <= 100) (h : K (.pd (.tuple (psD q))) (A ++ [.list (psD q)])) : FL G K E l A.length [] a (A ++ [O.list (psD q)]) :=
 Eq.mpr (by kernel_rfl : _ = need (seqT (A ++ [O.list (psD q)]) (.ref A.length)) fun l => when (l.length <= sizeLine) (K (.pd (.tuple l)) (A ++ [O.list (psD q)]))) (zab (zcX gP) (zah (za8 (by rw [List.length_map]; exact hl) (by decide)) h))
theorem zeT {l : List Int} (X : Up G H) : ∀ (r : List Int) (qs : List Pr) (p : Pr) (a : Option Loc), (∀ x ∈ r, p.2 < x) -> r.Pairwise (· < ·) -> qs.length + r.length <= 90 -> K (.pd (.tuple (psD (qs ++ runs p r)))) (A ++ [.list (psD (qs ++ runs p r))]) -> FL H K E l A.length (r.map .int) a (A ++ [O.list (psD (qs ++ [p]))])
 | [], qs, p, a, _, _, hl, h => zjL (by rw [List.length_append]; exact Nat.le_trans (Nat.succ_le_succ hl) (by decide)) h
 | i :: r, qs, p, a, h1, h2, hl, h => by
  obtain ⟨hi, hr⟩ := List.forall_mem_cons.mp h1
  obtain ⟨h3, h4⟩ := List.pairwise_cons.mp h2
  rw [List.length_cons] at hl
  refine Eq.mpr (by kernel_rfl : _ = H 2 [.v (.ref A.length), iv i, iv i] (A ++ [O.list (psD (qs ++ [p]))]) (fun _ σ => FL H K E l A.length (r.map .int) (lp (.int i)) σ) E) (put1 X hi (by rw [zcw]; exact Nat.le_trans (Nat.succ_le_succ (Nat.succ_le_succ (Nat.le_trans (Nat.le_add_right _ _) hl))) (by decide)) ?_)
  have e : runs p (i :: r) = if i <= p.2 + 1 then runs (p.1, i) r else p :: runs (i, i) r := rfl
  rw [e] at h
  by_cases q : i <= p.2 + 1
  ·rw [if_pos q] at h ⊢
   exact zeT X r qs (p.1, i) _ h3 h4 (Nat.le_of_succ_le hl) h
  ·rw [if_neg q] at h ⊢
   exact zeT X r (qs ++ [p]) (i, i) _ h3 h4 (acc1 hl) (by rw [List.append_assoc]; exact h)
theorem zgv {l : List Int} (hl : l.length <= 8) : zih σ (.pd (zdo l)) = some l := by
 refine (congrArg (fun o : Option (List PyData) => Option.bind o zbO) (gd_i (x := l.map PyData.int) (show (l.map PyData.int).length < 64 by rw [List.length_map]; exact Nat.lt_of_le_of_lt hl (by decide)))).trans (allInt_map l)
theorem zgw {l : List Int} (p : l.Pairwise (· < ·)) : zdM l = l := (zfe (.refl l) (p.imp Int.le_of_lt)).symm
theorem zkX {l : List Int} (X : Up F G) (Y : Up G H) (p : l.Pairwise (· < ·)) (hl : l.length <= 8) (h : ∀ τ, K (.pd (.tuple (psD (zl0 l)))) (σ ++ τ)) : H 3 [pv (zdo l)] σ K E := by
 refine Y _ _ _ _ _ (Eq.mpr (by kernel_rfl : _ = need (zih (σ ++ [O.list []]) (.pd (zdo l))) fun l' => FL G K E l σ.length ((zdM l').map .int) none (σ ++ [O.list []])) (zab (zgv hl) ?_))
 rw [zgw p]
 cases l with
 | nil => exact zjL (q := []) (Nat.zero_le _) (h _)
 | cons i r =>
  obtain ⟨h3, h4⟩ := List.pairwise_cons.mp p
  exact Eq.mpr (by kernel_rfl : _ = G 2 [.v (.ref σ.length), iv i, iv i] (σ ++ [O.list []]) (fun _ σ' => FL G K E (i :: r) σ.length (r.map .int) (lp (.int i)) σ') E) (put0 X (zeT X r [] (i, i) _ h3 h4 (by rw [List.length_nil, Nat.zero_add]; exact Nat.le_trans (Nat.le_of_succ_le hl) (by decide)) (h _)))
end
noncomputable abbrev nN : Str := ⟨#[110]⟩
noncomputable abbrev nT : Str := ⟨#[116]⟩
noncomputable abbrev nP : Str := ⟨#[112]⟩
noncomputable abbrev nZ : Str := ⟨#[122]⟩
noncomputable abbrev SC : PyData := .dict [(.str nN, .int 2), (.str nT, zdo [-1, 0, 1]), (.str nP, zdo [0, 2, 5])]
noncomputable abbrev se (d : PyData) : Loc := .v (.evr (.pd d))
noncomputable abbrev nLit (s i : Int) : PyData := .tuple [tInt, .int s, .int i]
noncomputable abbrev zbG (s : Int) (x : Str) : PyData := .tuple [znO, .int s, .str x]
noncomputable abbrev nRng (s : Int) (a b : PyData) : PyData := .tuple [zlK, .int s, a, b]
noncomputable abbrev hi4 : PyData := nLit 23 4
noncomputable abbrev hiT : PyData := .tuple [znP, .int 23, .bool true]
noncomputable abbrev dSet : PyData := .tuple [tSet, .int 24, .tuple [nLit 25 3, nLit 25 0, nLit 25 1, zbG 26 nN]]
structure Dm where
 d : PyData
 r : Re Bd
noncomputable def doms1 : List Dm := [⟨nRng 21 (nLit 22 0) hi4, .ok (mkB [0, 1, 2, 3, 4] [(0, 4)])⟩, ⟨nRng 21 (nLit 22 (-1)) hi4, .ok (mkB [-1, 0, 1, 2, 3, 4] [(-1, 4)])⟩, ⟨nRng 21 (nLit 22 0) hiT, .ok (mkB [0, 1] [(0, 1)])⟩, ⟨nRng 21 (nLit 22 (-1)) hiT, .ok (mkB [-1, 0, 1] [(-1, 1)])⟩, ⟨zbG 27 nZ, .bad wNo 27⟩, ⟨zbG 27 nN, .bad wSet 27⟩]
noncomputable def doms2 : List (Dm × List Int) := [(⟨dSet, .ok (mkB [0, 1, 2, 3] [(0, 3)])⟩, [0, 1, 2, 3]), (⟨zbG 27 nT, .ok (mkB [-1, 0, 1] [(-1, 1)])⟩, [-1, 0, 1]), (⟨zbG 27 nP, .ok (mkB [0, 2, 5] [(0, 0), (2, 2), (5, 5)])⟩, [0, 2, 5])]
noncomputable abbrev doms : List Dm := doms1 ++ doms2.map (·.1)
noncomputable def OutL (r : Re Bd) (K : KV) (σ : Hp) : Prop := match r with
 | .ok b => K (.pd b.k) σ
 | .bad t s => K (.pd (badT t s)) σ
noncomputable def OutB (r : Re Bd) (K : KV) (E : KE) (σ : Hp) : Prop := match r with
 | .ok b => ∀ τ, K (.pd b.b) (σ ++ τ)
 | .bad t s => E (err t s) σ
noncomputable def OutB0 (r : Re Bd) (K : KV) (E : KE) (σ : Hp) : Prop := match r with
 | .ok b => K (.pd b.b) σ
 | .bad t s => E (err t s) σ
section
variable {m : Nat} {s : Int} {K : KV} {E : KE} {σ : Hp} {k : Kn} {b : Bd} {u : Vl}
theorem zne : (doms.map fun D => G1 (m + 1) 22 [pv D.d, pv SC] σ K E) = doms.map fun D => OutL D.r K σ := by kernel_rfl
theorem znh : (doms1.map fun D => G1 (m + 8) 33 [se SC, pv D.d] σ K E) = doms1.map fun D => OutB0 D.r K E σ := by kernel_rfl
theorem zlh {G : zaa} : (doms2.map fun D => stp G 33 [se SC, pv D.1.d] σ K E) = doms2.map fun D => G 28 [se SC, pv D.1.d] σ (fun u σ => need (zaA σ (.pd D.1.d) (.pd (.int 1))) fun w => G 11 [.v u, .v w] σ (fun l σ => G 3 [.v l] σ K E) E) E := by kernel_rfl
theorem zm9 : (doms2.map fun D => G1 (m + 7) 28 [se SC, pv D.1.d] σ (fun u σ => need (zaA σ (.pd D.1.d) (.pd (.int 1))) fun w => G1 (m + 7) 11 [.v u, .v w] σ K E) E) = doms2.map fun D => K (.pd (zdo D.2)) σ := by kernel_rfl
theorem zlf : ∀ D ∈ doms2, D.2.Pairwise (· < ·) /\ D.2.length <= 8 := by
 have : ∀ l ∈ doms2.map (·.2), l.Pairwise (· < ·) /\ l.length <= 8 := by decide +kernel
 exact fun D h => this _ (List.mem_map.mpr ⟨D, h, rfl⟩)
theorem zoN : doms2.map (fun D => D.1.r) = doms2.map fun D => .ok (mkB D.2 (zl0 D.2)) := by kernel_rfl
theorem zjm {D : Dm} (hD : D ∈ doms) (h : OutB D.r K E σ) : G1 (m + 8) 33 [se SC, pv D.d] σ K E := by
 rcases List.mem_append.mp hD with hD | hD
 ·refine zai znh hD ?_
  obtain ⟨d, r⟩ := D
  cases r with
  | ok b => have := h []; rwa [List.append_nil] at this
  | bad t s => exact h
 ·obtain ⟨D', hD', e⟩ := List.mem_map.mp hD
  subst e
  obtain ⟨p, l⟩ := zlf D' hD'
  rw [List.map_inj_left.mp zoN D' hD'] at h
  exact zaZ (m + 7) _ _ _ _ _ (zai zlh hD' (zai zm9 hD' (zkX (zaZ _) (zaZ _) p l h)))
theorem zeX {D : Dm} (hD : D ∈ doms) {b : Bd} (e : D.r = .ok b) : b ∈ bds := by
 have hD : D ∈ [_, _, _, _, _, _, _, _, _] := hD
 simp only [List.mem_cons, List.not_mem_nil, or_false] at hD
 have i1 : mkB [0, 1, 2, 3, 4] [(0, 4)] ∈ bds := .tail _ (.head _)
 have i2 : mkB [-1, 0, 1, 2, 3, 4] [(-1, 4)] ∈ bds := .tail _ (.tail _ (.head _))
 have i3 : mkB [0, 1] [(0, 1)] ∈ bds := .tail _ (.tail _ (.tail _ (.head _)))
 have i4 : mkB [-1, 0, 1] [(-1, 1)] ∈ bds := .tail _ (.tail _ (.tail _ (.tail _ (.head _))))
 have i5 : mkB [0, 1, 2, 3] [(0, 3)] ∈ bds := .tail _ (.tail _ (.tail _ (.tail _ (.tail _ (.head _)))))
 have i6 : mkB [0, 2, 5] [(0, 0), (2, 2), (5, 5)] ∈ bds := .tail _ (.tail _ (.tail _ (.tail _ (.tail _ (.tail _ (.head _))))))
 rcases hD with rfl | rfl | rfl | rfl | rfl | rfl | rfl | rfl | rfl <;> cases e <;> assumption
end
set_option genCtorIdx false in
inductive Dr where
 | z
 | n
 | ls (l : List Int)
noncomputable def Dr.ctorIdx (x : Dr) : Nat := Dr.casesOn x 0 1 fun _ => 2
structure Dd where
 d : PyData
 r : Dr
noncomputable def lows : List Int := [-3, -2, -1, 0, 1, 2, 3]
noncomputable def zbP (lo : Int) (many : Nat) (gap : Int) : List Int := (List.range many).map fun (k : Nat) => lo + (k : Int) + (match decide ((k : Int) > 0) with | true => gap | false => 0)
noncomputable abbrev dR11 (lo hi : Int) : PyData := nRng 11 (nLit 12 lo) (nLit 13 hi)
noncomputable abbrev dR14 (lo hi : Int) : PyData := nRng 14 (nLit 15 lo) (nLit 16 hi)
noncomputable abbrev dS (l : List Int) : PyData := .tuple [tSet, .int 17, .tuple (l.reverse.map (nLit 18))]
noncomputable def D11 : List Dd := lows.flatMap fun lo => ([0, 1, 2, 3] : List Int).map fun k => ⟨dR11 lo (lo + k - 1), .ls (rI lo (lo + k - 1))⟩
noncomputable def D14 : List Dd := lows.flatMap fun lo => ([-2, -1, 0, 1, 2, 3] : List Int).map fun k => ⟨dR14 lo (lo + k), .ls (rI lo (lo + k))⟩
noncomputable def DS : List Dd := lows.flatMap fun lo => ([0, 1, 2, 3] : List Nat).flatMap fun many => ([0, 1] : List Int).map fun gap => ⟨dS (zbP lo many gap), .ls (zbP lo many gap)⟩
noncomputable def DN : List Dd := [⟨zbG 19 nT, .ls [-1, 0, 1]⟩, ⟨zbG 19 nP, .ls [0, 2, 5]⟩, ⟨zbG 19 nZ, .z⟩, ⟨zbG 19 nN, .n⟩]
noncomputable def dims : List Dd := D11 ++ (D14 ++ (DS ++ DN))
noncomputable abbrev dAny : PyData := .tuple [tAny]
noncomputable def OutW (s : Int) (r : Dr) (K : KV) (E : KE) (σ : Hp) : Prop := match r with
 | .ls l => K (.pd (zdo l)) σ
 | .z => E (err wNo 19) σ
 | .n => E (err wSet s) σ
noncomputable def OutT (r : Dr) (K : KV) (σ : Hp) : Prop := match r with
 | .ls l => K (.pd (.list (l.map .int))) σ
 | .z => K (.pd (badT wNo 19)) σ
 | .n => K (.pd (badT wSet 19)) σ
noncomputable abbrev wEl : Str := ⟨#[32,101,108,101,109,101,110,116,115,32,97,114,101,32,119,97,110,116,101,100,44,32,110,111,116,32]⟩
noncomputable abbrev wGap : Str := ⟨#[116,104,101,32,105,110,100,101,120,101,115,32,111,102,32,97,110,32,97,114,114,97,121,32,104,97,118,101,32,97,32,103,97,112]⟩
noncomputable def gapB : List Int -> Bool
 | [] => false
 | a :: r => match r with
  | [] => false
  | b :: _ => b != a + 1 || gapB r
noncomputable def zmX : List Int -> Pr
 | [] => (1, 0)
 | a :: r => (a, (a :: r).getLast (List.cons_ne_nil a r))
noncomputable def lsR (s : Int) (l : List Int) (p : Pr) : Re Pr := match (l.length : Int) == p.2 - p.1 + 1 with
 | false => .bad (iStr l.length ++ wEl ++ iStr (p.2 - p.1 + 1)) s
 | true => match gapB l with
  | true => .bad wGap s
  | false => .ok (zmX l)
noncomputable def zlN (s : Int) (r : Dr) (p : Pr) : Re Pr := match r with
 | .ls l => lsR s l p
 | .z => .bad wNo 19
 | .n => .bad wSet s
noncomputable def spD : Re Pr -> PyData
 | .ok p => prD p
 | .bad t s => badT t s
noncomputable def los : List Pr := ([-2, -1, 0, 1, 2] : List Int).flatMap fun lo => ([0, 1, 2, -1] : List Int).map fun k => (lo, lo + k)
noncomputable def Ls : List (List Int) := [] :: ((lows.flatMap fun lo => ([0, 1, 2, 3] : List Int).map fun k => rI lo (lo + k)) ++ ((lows.flatMap fun lo => ([2, 3] : List Nat).map fun many => zbP lo many 1) ++ [[0, 2, 5]]))
noncomputable def Lp : List (List Int × Pr) := Ls.flatMap fun l => los.map fun p => (l, p)
section
variable {m : Nat} {s lo hi : Int} {K : KV} {E : KE} {σ : Hp} {G : zaa}
theorem zmJ {l : List Int} {p : Pr} (hl : l ∈ Ls) (hp : p ∈ los) : (l, p) ∈ Lp := List.mem_flatMap.mpr ⟨l, hl, List.mem_map.mpr ⟨p, hp, rfl⟩⟩
noncomputable def lsIn (r : Dr) : Bool := match r with
 | .ls l => decide (l ∈ Ls)
 | _ => true
theorem zdw : dims.all (fun D => lsIn D.r) = true := by decide +kernel
theorem zm6 : (dims.map fun D => G1 (m + 8) 28 [se SC, pv D.d] σ (fun v σ => G1 (m + 8) 11 [.v v, iv s] σ K E) E) = dims.map fun D => OutW s D.r K E σ := by kernel_rfl
theorem znf : (dims.map fun D => G1 (m + 1) 22 [pv D.d, pv SC] σ K E) = dims.map fun D => OutT D.r K σ := by kernel_rfl
noncomputable abbrev f24 (d : PyData) (p : Pr) (s : Int) (l : Option Loc) : Fm := [lp d, lp (.int p.1), lp (.int p.2), lp SC, lp (.int s), l, none, none, none, none, none]
theorem zoL {p : Pr} : (dims.map fun D => stp G 24 [pv D.d, iv p.1, iv p.2, pv SC, iv s] σ K E) = dims.map fun D => G 22 [pv D.d, pv SC] σ (fun v σ => evSs G gc1 (fn24.body.drop 2) (f24 D.d p s (some (.v v))) σ (retK K) E) E := by kernel_rfl
noncomputable def ms (x y z w : PyData) : List ((Int × List PyData) × Pr) := ([(0, []), (1, [x]), (2, [x, y]), (3, [x, y, z]), (4, [x, y, z, w])] : List (Int × List PyData)).flatMap fun a => (los.filter fun p => !(a.1 == p.2 - p.1 + 1)).map fun p => (a, p)
noncomputable def Lq : List (List Int × Pr) := Lp.filter fun c => (c.1.length : Int) == c.2.2 - c.2.1 + 1
noncomputable abbrev badL (s n : Int) (p : Pr) : Re Pr := .bad (iStr n ++ wEl ++ iStr (p.2 - p.1 + 1)) s
theorem ls_4 : ∀ l ∈ Ls, l.length <= 4 := by decide +kernel
theorem zhg {x y z w : PyData} {a : Int × List PyData} {p : Pr} (ha : a ∈ ([(0, []), (1, [x]), (2, [x, y]), (3, [x, y, z]), (4, [x, y, z, w])] : List (Int × List PyData))) (hp : p ∈ los) (h : (a.1 == p.2 - p.1 + 1) = false) : (a, p) ∈ ms x y z w :=
 List.mem_flatMap.mpr ⟨a, ha, List.mem_map.mpr ⟨p, List.mem_filter.mpr ⟨hp, by rw [h]; rfl⟩, rfl⟩⟩
theorem ze9 {F : List PyData -> Pr -> Prop} {R : List PyData -> Re Pr -> Prop} {l : List Int} {p : Pr} (ha : ∀ x y z w, (ms x y z w).map (fun c => F c.1.2 c.2) = (ms x y z w).map fun c => R c.1.2 (badL s c.1.1 c.2))
  (hb : Lq.map (fun c => F (c.1.map .int) c.2) = Lq.map fun c => R (c.1.map .int) (lsR s c.1 c.2)) (hl : l ∈ Ls) (hp : p ∈ los) (h : R (l.map .int) (lsR s l p)) : F (l.map .int) p := by
 cases e : (l.length : Int) == p.2 - p.1 + 1 with
 | true => exact List.map_inj_left.mp hb (l, p) (List.mem_filter.mpr ⟨zmJ hl hp, e⟩) ▸ h
 | false =>
  unfold lsR at h
  rw [e] at h
  have h : R (l.map .int) (badL s l.length p) := h
  match l, ls_4 l hl, e, h with
  | [], _, e, h => exact List.map_inj_left.mp (ha .none .none .none .none) ((0, []), p) (zhg (.head _) hp e) ▸ h
  | [a], _, e, h => exact List.map_inj_left.mp (ha (.int a) .none .none .none) ((1, [.int a]), p) (zhg (.tail _ (.head _)) hp e) ▸ h
  | [a, b], _, e, h => exact List.map_inj_left.mp (ha (.int a) (.int b) .none .none) ((2, [.int a, .int b]), p) (zhg (.tail _ (.tail _ (.head _))) hp e) ▸ h
  | [a, b, c], _, e, h => exact List.map_inj_left.mp (ha (.int a) (.int b) (.int c) .none) ((3, [.int a, .int b, .int c]), p) (zhg (.tail _ (.tail _ (.tail _ (.head _)))) hp e) ▸ h
  | [a, b, c, d], _, e, h => exact List.map_inj_left.mp (ha (.int a) (.int b) (.int c) (.int d)) ((4, [.int a, .int b, .int c, .int d]), p) (zhg (.tail _ (.tail _ (.tail _ (.tail _ (.head _))))) hp e) ▸ h
  | _ :: _ :: _ :: _ :: _ :: _, q, _, _ => exact absurd q (Nat.not_le_of_lt (Nat.le_add_left _ _))
theorem znb {d x y z w : PyData} : ((ms x y z w).map fun c => evSs G gc1 (fn24.body.drop 2) (f24 d c.2 s (lp (.list c.1.2))) σ (retK K) E) = (ms x y z w).map fun c => K (.pd (spD (badL s c.1.1 c.2))) σ := by kernel_rfl
theorem zna {d : PyData} : (Lq.map fun c => evSs G gc1 (fn24.body.drop 2) (f24 d c.2 s (lp (.list (c.1.map .int)))) σ (retK K) E) = Lq.map fun c => K (.pd (spD (lsR s c.1 c.2))) σ := by kernel_rfl
theorem zlQ {p : Pr} (h : K (.pd (prD p)) σ) : G1 (m + 1) 24 [pv dAny, iv p.1, iv p.2, pv SC, iv s] σ K E := Eq.mpr (by kernel_rfl) h
theorem zkb {D : Dd} (hD : D ∈ dims) {p : Pr} (hp : p ∈ los) (h : K (.pd (spD (zlN s D.r p))) σ) : G1 (m + 3) 24 [pv D.d, iv p.1, iv p.2, pv SC, iv s] σ K E := by
 refine zaZ (m + 2) _ _ _ _ _ (zai zoL hD (zai znf hD ?_))
 have q := List.all_eq_true.mp zdw D hD
 obtain ⟨d, r⟩ := D
 cases r with
 | z => exact Eq.mpr (by kernel_rfl) h
 | n => exact Eq.mpr (by kernel_rfl) h
 | ls l =>
  have h : K (.pd (spD (lsR s l p))) σ := h
  have h2 := ze9 (F := fun l p => evSs (G1 (m + 2)) gc1 (fn24.body.drop 2) (f24 d p s (lp (.list l))) σ (retK K) E) (R := fun _ r => K (.pd (spD r)) σ) (fun _ _ _ _ => znb) zna (of_decide_eq_true q) hp h
  exact Eq.mpr (by kernel_rfl) h2
end
noncomputable def b32 : List Mine.Lake.S := match fn32.body with
 | _ :: _ :: .forz _ _ b :: _ => b
 | _ => []
noncomputable def t32 : List Mine.Lake.S := match b32 with
 | .ite _ a _ :: _ => a
 | _ => []
noncomputable abbrev f32 (S dm vl sp fo d lo hi so : Option Loc) : Fm := [S, dm, vl, sp, fo, d, lo, hi, so, none, none, none, none, none]
noncomputable abbrev KI (G : zaa) (KN : KS) (E : KE) : KS := fun f m' σ' => match f with
 | .next => evSs G gc1 (b32.drop 1) m' σ' KN E
 | f => KN f m' σ'
structure It where
 o : Option Dd
 p : Pr
noncomputable def It.d (i : It) : PyData := match i.o with
 | none => dAny
 | some D => D.d
noncomputable def It.r (s : Int) (i : It) : Re Pr := match i.o with
 | none => .ok i.p
 | some D => zlN s D.r i.p
inductive It.Ok : It -> Prop
 | any {p : Pr} : p ∈ los -> It.Ok ⟨none, p⟩
 | some {D : Dd} {p : Pr} : D ∈ dims -> p ∈ los -> It.Ok ⟨some D, p⟩
noncomputable def OutS (r : Re Pr) (P : Pr -> Prop) (E : KE) (σ : Hp) : Prop := match r with
 | .ok q => P q
 | .bad t w => E (err t w) σ
section
variable {m : Nat} {s : Int} {K : KV} {E : KE} {σ A B : Hp} {G : zaa} {KN : KS} {dm vl fo lo hi so : Option Loc} {d : PyData} {acc : List Pr} {n : Nat}
theorem zoM : (dims.map fun D => evSs G gc1 b32 (f32 (some (se SC)) dm vl (lp (.int s)) fo (lp D.d) lo hi so) σ KN E) = dims.map fun D => G 28 [se SC, pv D.d] σ (fun v σ => G 11 [.v v, iv s] σ (fun l σ => evSs G gc1 (t32.drop 1) (f32 (some (se SC)) dm vl (lp (.int s)) fo (lp D.d) lo hi (some (.v l))) σ (KI G KN E) E) E) E := by kernel_rfl
noncomputable abbrev F32 (G : zaa) (dm vl fo : Option Loc) (s : Int) (d : PyData) (KN : KS) (E : KE) (σ : Hp) (l : List PyData) (p : Pr) : Prop := evSs G gc1 (t32.drop 1) (f32 (some (se SC)) dm vl (lp (.int s)) fo (lp d) (lp (.int p.1)) (lp (.int p.2)) (lp (.tuple l))) σ (KI G KN E) E
noncomputable abbrev O32 (G : zaa) (dm vl fo : Option Loc) (s : Int) (d : PyData) (KN : KS) (E : KE) (σ : Hp) (l : List PyData) (r : Re Pr) : Prop := OutS r (fun q => KI G KN E .next (f32 (some (se SC)) dm vl (lp (.int s)) fo (lp d) (lp (.int q.1)) (lp (.int q.2)) (lp (.tuple l))) σ) E σ
theorem znd {x y z w : PyData} : ((ms x y z w).map fun c => F32 G dm vl fo s d KN E σ c.1.2 c.2) = (ms x y z w).map fun c => O32 G dm vl fo s d KN E σ c.1.2 (badL s c.1.1 c.2) := by kernel_rfl
theorem znc : (Lq.map fun c => F32 G dm vl fo s d KN E σ (c.1.map .int) c.2) = Lq.map fun c => O32 G dm vl fo s d KN E σ (c.1.map .int) (lsR s c.1 c.2) := by kernel_rfl
theorem zn0 {l : List Int} {p : Pr} (hl : l ∈ Ls) (hp : p ∈ los) (h : O32 G dm vl fo s d KN E σ (l.map .int) (lsR s l p)) : F32 G dm vl fo s d KN E σ (l.map .int) p :=
 ze9 (F := F32 G dm vl fo s d KN E σ) (R := O32 G dm vl fo s d KN E σ) (fun x y z w => znd (x := x) (y := y) (z := z) (w := w)) znc hl hp h
theorem r_any {p : Pr} : evSs G gc1 b32 (f32 (some (se SC)) dm vl (lp (.int s)) fo (lp dAny) (lp (.int p.1)) (lp (.int p.2)) so) σ KN E = KI G KN E .next (f32 (some (se SC)) dm vl (lp (.int s)) fo (lp dAny) (lp (.int p.1)) (lp (.int p.2)) so) σ := by kernel_rfl
theorem r_app {q : Pr} : KI G KN E .next (f32 (some (se SC)) dm vl (lp (.int s)) (some (.v (.ref n))) (lp d) (lp (.int q.1)) (lp (.int q.2)) so) σ = when ((lstR σ (.ref n)).isSome = true) (evLM .append (.ref n) [.pd (prD q)] σ (fun _ σ => KN .next (f32 (some (se SC)) dm vl (lp (.int s)) (some (.v (.ref n))) (lp d) (lp (.int q.1)) (lp (.int q.2)) so) σ)) := by kernel_rfl
theorem zfl {qs : List Pr} {p : Pr} : psD (qs ++ [p]) = psD qs ++ [prD p] := List.map_append
theorem ziM {r : Re Pr} {P Q : Pr -> Prop} {E' : KE} {σ' : Hp} (h : OutS r P E σ) (hp : ∀ q, P q -> Q q) (he : ∀ t w, E (err t w) σ -> E' (err t w) σ') : OutS r Q E' σ' := by
 cases r with
 | ok q => exact hp q h
 | bad t w => exact he t w h
theorem zl4 {i : It} (hi : i.Ok) (hl : acc.length < 100) (h : OutS (i.r s) (fun q => ∀ d so, KN .next (f32 (some (se SC)) dm vl (lp (.int s)) (some (.v (.ref A.length))) (lp d) (lp (.int q.1)) (lp (.int q.2)) so) (A ++ [.list (psD (acc ++ [q]))])) E (A ++ [.list (psD acc)])) :
  evSs (G1 (m + 8)) gc1 b32 (f32 (some (se SC)) dm vl (lp (.int s)) (some (.v (.ref A.length))) (lp i.d) (lp (.int i.p.1)) (lp (.int i.p.2)) so) (A ++ [.list (psD acc)]) KN E := by
 have app : ∀ {q : Pr} {d : PyData} {so : Option Loc}, (∀ d so, KN .next (f32 (some (se SC)) dm vl (lp (.int s)) (some (.v (.ref A.length))) (lp d) (lp (.int q.1)) (lp (.int q.2)) so) (A ++ [.list (psD (acc ++ [q]))])) ->
   KI (G1 (m + 8)) KN E .next (f32 (some (se SC)) dm vl (lp (.int s)) (some (.v (.ref A.length))) (lp d) (lp (.int q.1)) (lp (.int q.2)) so) (A ++ [.list (psD acc)]) := fun {q d so} h =>
  r_app.mpr (zah zbQ (zc9 (Nat.lt_of_lt_of_le (by rw [List.length_map]; exact hl) (by decide : 100 <= sizeLine)) (by rw [← zfl]; exact h d so)))
 cases hi with
 | any hp => exact r_any.mpr (app h)
 | @some D p hD hp =>
  refine zai zoM hD (zai zm6 hD ?_)
  have q := List.all_eq_true.mp zdw D hD
  obtain ⟨d, r⟩ := D
  cases r with
  | z => exact Eq.mpr (by kernel_rfl) h
  | n => exact Eq.mpr (by kernel_rfl) h
  | ls l =>
   have h : OutS (lsR s l p) _ E _ := h
   have hh : O32 (G1 (m + 8)) dm vl (some (.v (.ref A.length))) s d KN E (A ++ [.list (psD acc)]) (l.map .int) (lsR s l p) := ziM h (fun q h => app h) fun _ _ h => h
   have h2 := zn0 (G := G1 (m + 8)) (dm := dm) (vl := vl) (fo := some (.v (.ref A.length))) (s := s) (d := d) (KN := KN) (E := E) (σ := A ++ [.list (psD acc)]) (of_decide_eq_true q) hp hh
   exact Eq.mpr (by kernel_rfl) h2
noncomputable def seqR (s : Int) : List It -> Re (List Pr)
 | [] => .ok []
 | i :: r => (i.r s).bind fun q => (seqR s r).bind fun qs => .ok (q :: qs)
noncomputable def OutQ (r : Re (List Pr)) (K : KV) (E : KE) (σ : Hp) : Prop := match r with
 | .ok qs => K (.pd (.tuple (psD qs))) σ
 | .bad t w => E (err t w) σ
noncomputable abbrev KF (G : zaa) (K : KV) (E : KE) : KS := fun f m' σ' => match f with
 | .next => evSs G gc1 (fn32.body.drop 3) m' σ' (retK K) E
 | f => retK K f m' σ'
noncomputable abbrev RL (G : zaa) (K : KV) (E : KE) (l : List PyData) (m : Fm) (σ : Hp) : Prop := forN (fun d m' σ' k => need (tgFm m' (.t [.n 5, .t [.n 6, .n 7]]) d) fun m'' => evSs G gc1 b32 m'' σ' k E) (fun _ k => k) (KF G K E) l m σ
theorem zgK : ∀ (its : List It) (acc : List Pr) (d lo hi so : Option Loc), (∀ i ∈ its, i.Ok) -> acc.length + its.length <= 90 -> (∀ τ, OutQ ((seqR s its).bind fun qs => .ok (acc ++ qs)) K E (A ++ τ)) ->
  RL (G1 (m + 8)) K E (its.map fun i => .tuple [i.d, prD i.p]) (f32 (some (se SC)) dm vl (lp (.int s)) (some (.v (.ref A.length))) d lo hi so) (A ++ [.list (psD acc)])
 | [], acc, d, lo, hi, so, _, hl, h => by
  refine Eq.mpr (by kernel_rfl : _ = need (seqT (A ++ [O.list (psD acc)]) (.ref A.length)) fun l => when (l.length <= sizeLine) (K (.pd (.tuple l)) (A ++ [.list (psD acc)]))) (zab (zcX gP) (zah (za8 (m := 100) (by rw [List.length_map]; exact Nat.le_trans (Nat.le_trans (Nat.le_add_right _ _) hl) (by decide)) (by decide)) ?_))
  have := h [.list (psD acc)]
  rwa [show (seqR s []).bind (fun qs => Re.ok (acc ++ qs)) = .ok acc from congrArg Re.ok (List.append_nil _)] at this
 | i :: r, acc, d, lo, hi, so, ho, hl, h => by
  obtain ⟨h1, h2⟩ := List.forall_mem_cons.mp ho
  rw [List.length_cons] at hl
  refine zl4 (KN := fun f m' σ' => match f with | .ret v => KF (G1 (m + 8)) K E (.ret v) m' σ' | _ => RL (G1 (m + 8)) K E (r.map fun i => .tuple [i.d, prD i.p]) m' σ') h1 (Nat.lt_of_le_of_lt (Nat.le_trans (Nat.le_add_right _ _) hl) (by decide)) ?_
  have h : ∀ τ, OutQ (((i.r s).bind fun q => (seqR s r).bind fun qs => .ok (q :: qs)).bind fun qs => .ok (acc ++ qs)) K E (A ++ τ) := h
  cases e : i.r s with
  | bad t w => rw [e] at h; exact h _
  | ok q =>
   rw [e] at h
   refine fun d so => zgK r (acc ++ [q]) _ _ _ _ h2 (acc1 hl) fun τ => ?_
   have h := h τ
   cases e2 : seqR s r with
   | bad t w => rw [e2] at h; exact h
   | ok qs => rw [e2] at h; show OutQ (.ok ((acc ++ [q]) ++ qs)) K E (A ++ τ); rw [app1]; exact h
noncomputable def wLen (a b : Nat) : Str := ⟨#[97,110,32,97,114,114,97,121,32,119,105,116,104,32]⟩ ++ iStr a ++ ⟨#[32,105,110,100,101,120,101,115,32,105,115,32,119,97,110,116,101,100,44,32,110,111,116,32,119,105,116,104,32]⟩ ++ iStr b
section
variable {d1 d2 p1 p2 : PyData} {us : List PyData} {i1 i2 : It}
theorem zl6 : stp G 32 [se SC, pv (.tuple [d1]), pv (arrD [p1, p2] us), iv s] σ K E = E (err (wLen 1 2) s) σ := by kernel_rfl
theorem zl5 : stp G 32 [se SC, pv (.tuple [d1, d2]), pv (arrD [p1] us), iv s] σ K E = E (err (wLen 2 1) s) σ := by kernel_rfl
theorem r32_1 : stp G 32 [se SC, pv (.tuple [d1]), pv (arrD [p1] us), iv s] σ K E = RL G K E [.tuple [d1, p1]] (f32 (some (se SC)) (lp (.tuple [d1])) (lp (arrD [p1] us)) (lp (.int s)) (some (.v (.ref σ.length))) none none none none) (σ ++ [.list []]) := by kernel_rfl
theorem r32_2 : stp G 32 [se SC, pv (.tuple [d1, d2]), pv (arrD [p1, p2] us), iv s] σ K E = RL G K E [.tuple [d1, p1], .tuple [d2, p2]] (f32 (some (se SC)) (lp (.tuple [d1, d2])) (lp (arrD [p1, p2] us)) (lp (.int s)) (some (.v (.ref σ.length))) none none none none) (σ ++ [.list []]) := by kernel_rfl
theorem oq {its : List It} (h : ∀ τ, OutQ (seqR s its) K E (σ ++ τ)) : ∀ τ, OutQ ((seqR s its).bind fun qs => .ok ([] ++ qs)) K E (σ ++ τ) := fun τ => by
 have h := h τ
 cases e : seqR s its with
 | ok q => rw [e] at h; exact h
 | bad t w => rw [e] at h; exact h
theorem rng1 (h1 : i1.Ok) (h : ∀ τ, OutQ (seqR s [i1]) K E (σ ++ τ)) : G1 (m + 9) 32 [se SC, pv (.tuple [i1.d]), pv (arrD [prD i1.p] us), iv s] σ K E :=
 zaZ (m + 8) _ _ _ _ _ (r32_1.mpr (zgK [i1] [] none none none none (List.forall_mem_cons.mpr ⟨h1, fun _ h => nomatch h⟩) (Nat.le_of_ble_eq_true rfl) (oq h)))
theorem rng2 (h1 : i1.Ok) (h2 : i2.Ok) (h : ∀ τ, OutQ (seqR s [i1, i2]) K E (σ ++ τ)) : G1 (m + 9) 32 [se SC, pv (.tuple [i1.d, i2.d]), pv (arrD [prD i1.p, prD i2.p] us), iv s] σ K E :=
 zaZ (m + 8) _ _ _ _ _ (r32_2.mpr (zgK [i1, i2] [] none none none none (List.forall_mem_cons.mpr ⟨h1, List.forall_mem_cons.mpr ⟨h2, fun _ h => nomatch h⟩⟩) (Nat.le_of_ble_eq_true rfl) (oq h)))
end
end
noncomputable def domA : List Dm := ⟨.none, .ok ⟨none, .none, .none⟩⟩ :: doms
noncomputable abbrev tyD (k : Kn) (ds : List PyData) (d : PyData) : PyData := .tuple [.str k.w, .bool false, .tuple ds, d]
noncomputable abbrev f34 (k : Kn) (ds : List PyData) (d v : PyData) (s : Int) (w so : Option Loc) : Fm := [some (se SC), lp (tyD k ds d), lp v, lp (.int s), lp (.str k.w), lp (.bool false), lp (.tuple ds), lp d, w, so, none, none, none]
noncomputable def OutD (r : Re PyData) (K : KV) (E : KE) (σ : Hp) : Prop := match r with
 | .ok d => K (.pd d) σ
 | .bad t w => E (err t w) σ
noncomputable def zba : Re PyData -> PyData
 | .ok d => d
 | .bad t w => badT t w
noncomputable def zam (s : Int) (k : Kn) (b : Option (List Int)) : List Vl -> Re (List Vl)
 | [] => .ok []
 | u :: r => (zan s k b u).bind fun v => (zam s k b r).bind fun vs => .ok (v :: vs)
section
variable {m : Nat} {s : Int} {K K' : KV} {E : KE} {σ A B : Hp} {G : zaa} {KN : KS} {k : Kn} {ds us : List PyData} {d v d1 d2 : PyData} {w : V} {b : Bd}
noncomputable abbrev T34 (G : zaa) (k : Kn) (ds : List PyData) (d v : PyData) (s : Int) (K : KV) (E : KE) (w : V) (σ : Hp) : Prop := evSs G gc1 (fn34.body.drop 2) (f34 k ds d v s (some (.v w)) none) σ (retK K) E
theorem bf_f0 : (doms.map fun D => stp G 34 [se SC, pv (tyD k ds D.d), pv v, iv s] σ K E) = doms.map fun D => G 33 [se SC, pv D.d] σ (fun w σ => T34 G k ds D.d v s K E w σ) E := by kernel_rfl
theorem f_none : stp G 34 [se SC, pv (tyD k ds .none), pv v, iv s] σ K E = T34 G k ds .none v s K E (.pd .none) σ := by kernel_rfl
theorem zeU {D : Dm} (hD : D ∈ domA) (h : ∀ τ, match D.r with | .ok b => b ∈ bds -> T34 (G1 (m + 8)) k ds D.d v s K E (.pd b.b) (σ ++ τ) | .bad t w => E (err t w) (σ ++ τ)) : G1 (m + 9) 34 [se SC, pv (tyD k ds D.d), pv v, iv s] σ K E := by
 refine zaZ (m + 8) _ _ _ _ _ ?_
 rcases List.mem_cons.mp hD with e | hD
 ·subst e
  have h := h [] (.head _)
  rw [List.append_nil] at h
  exact f_none.mpr h
 ·refine zai bf_f0 hD (zjm hD ?_)
  have q := @zeX D hD
  obtain ⟨d, r⟩ := D
  cases r with
  | ok b => exact fun τ => h τ (q rfl)
  | bad t w => have := h []; rwa [List.append_nil] at this
theorem f_0 : T34 G k [] d v s K E w σ = G 15 [pv (.str k.w), .v w, pv v, iv s] σ K E := by kernel_rfl
noncomputable abbrev TF (G : zaa) (k : Kn) (w : PyData) (s : Int) (E : KE) (d : PyData) (acc : List PyData) (σ : Hp) (kk : List PyData -> Hp -> Prop) : Prop := when (acc.length <= sizeLine) (G 15 [pv (.str k.w), pv w, pv d, iv s] σ (fun v σ => need (pdV v) fun d' => kk (acc ++ [d']) σ) E)
noncomputable abbrev R34 (G : zaa) (ds : List PyData) (v : PyData) (s : Int) (K : KV) (E : KE) (l : List PyData) (σ : Hp) : Prop := when (l.length <= sizeLine) (G 32 [se SC, pv (.tuple ds), pv v, iv s] σ (fun w σ => need (zbE [w, .pd (.list l)]) fun ds => when (ds.length <= sizeLine) (K (.pd (.tuple ds)) σ)) E)
noncomputable abbrev C34 (G : zaa) (k : Kn) (ds : List PyData) (v w : PyData) (s : Int) (K : KV) (E : KE) (l : List PyData) (σ : Hp) : Prop := zau (TF G k w s E) (fun _ kk => kk) (R34 G ds v s K E) l [] σ
noncomputable abbrev M34 (G : zaa) (k : Kn) (ds : List PyData) (v w : PyData) (s : Int) (K : KV) (E : KE) (σ : Hp) : Prop := G 12 [pv v, iv s] σ (fun l σ' => need (zac σ' l) fun its => zau (TF G k w s E) (fun σ'' kk => still σ' σ'' l kk) (R34 G ds v s K E) its [] σ') E
theorem f_1 {x : PyData} : T34 G k [d1] d v s K E (.pd x) σ = M34 G k [d1] v x s K E σ := by kernel_rfl
theorem f_2 {x : PyData} : T34 G k [d1, d2] d v s K E (.pd x) σ = M34 G k [d1, d2] v x s K E σ := by kernel_rfl
theorem zjS : (things.map fun u => G1 (m + 2) 12 [pv u.d, iv s] σ K E) = things.map fun _ => E (err wArr s) σ := by kernel_rfl
theorem zlo {p : List PyData} : G1 (m + 2) 12 [pv (arrD p us), iv s] σ K E = K (.pd (.list us)) σ := by kernel_rfl
theorem zc1 {KK : List PyData -> Hp -> Prop} (hb : b ∈ bds) : ∀ (us : List Vl) (acc : List PyData), (∀ u ∈ us, u ∈ things) -> acc.length + us.length <= 90 -> (match zam s k b.l us with | .ok vs => KK (acc ++ vs.map Vl.d) σ | .bad t w => E (err t w) σ) -> zau (TF (G1 (m + 5)) k b.b s E) (fun _ kk => kk) KK (us.map Vl.d) acc σ
 | [], acc, _, hl, h => by have h : KK (acc ++ []) σ := h; rw [List.append_nil] at h; exact h
 | u :: r, acc, hu, hl, h => by
  obtain ⟨h1, h2⟩ := List.forall_mem_cons.mp hu
  rw [List.length_cons] at hl
  refine zah (za8 (m := 90) (Nat.le_trans (Nat.le_add_right _ _) hl) (by decide)) (zfx hb (.th h1) ?_)
  have h : match (zan s k b.l u).bind fun v => (zam s k b.l r).bind fun vs => .ok (v :: vs) with | .ok vs => KK (acc ++ vs.map Vl.d) σ | .bad t w => E (err t w) σ := h
  cases e : zan s k b.l u with
  | bad t w => rw [e] at h; exact h
  | ok v =>
   rw [e] at h
   show need (pdV (.pd v.d)) fun d' => zau (TF (G1 (m + 5)) k b.b s E) (fun _ kk => kk) KK (r.map Vl.d) (acc ++ [d']) σ
   refine zab (a := v.d) rfl (zc1 hb r _ h2 (acc1 hl) ?_)
   cases e2 : zam s k b.l r with
   | bad t w => rw [e2] at h; exact h
   | ok vs => rw [e2] at h; show KK (acc ++ [v.d] ++ vs.map Vl.d) σ; rw [app1]; exact h
theorem zbI {o : Option (List Int)} : ∀ {us vs : List Vl}, zam s k o us = .ok vs -> vs.length = us.length
 | [], vs, h => by cases h; rfl
 | u :: r, vs, h => by
  have h : ((zan s k o u).bind fun v => (zam s k o r).bind fun vs => .ok (v :: vs)) = .ok vs := h
  cases e : zan s k o u with
  | bad t w => rw [e] at h; cases h
  | ok v =>
   rw [e] at h
   cases e2 : zam s k o r with
   | bad t w => rw [e2] at h; cases h
   | ok ws =>
    rw [e2] at h
    have h : Re.ok (v :: ws) = Re.ok vs := h
    cases h
    rw [List.length_cons, List.length_cons, zbI e2]
noncomputable def fitA (s : Int) (k : Kn) (D : Dm) (u : Vl) : Re PyData := D.r.bind fun b => (zan s k b.l u).bind fun v => .ok v.d
noncomputable def fitB (s : Int) (D : Dm) : Re PyData := D.r.bind fun _ => .bad wArr s
noncomputable def fitC (s : Int) (k : Kn) (D : Dm) (us : List Vl) (sp : Re (List Pr)) : Re PyData := D.r.bind fun b => (zam s k b.l us).bind fun vs => sp.bind fun qs => .ok (arrD (psD qs) (vs.map Vl.d))
noncomputable abbrev lenR (a b : Nat) (s : Int) : Re (List Pr) := .bad (wLen a b) s
theorem zom {D : Dm} {u : Vl} (hD : D ∈ domA) (hu : Val u) (h : ∀ τ, OutD (fitA s k D u) K E (σ ++ τ)) : G1 (m + 9) 34 [se SC, pv (tyD k [] D.d), pv u.d, iv s] σ K E := by
 refine zeU hD fun τ => ?_
 have h := h τ
 unfold fitA at h
 cases e : D.r with
 | bad t w => rw [e] at h; exact h
 | ok b =>
  rw [e] at h
  refine fun hb => f_0.mpr (zfx (m := m + 3) hb hu ?_)
  have h : OutD ((zan s k b.l u).bind fun v => .ok v.d) K E (σ ++ τ) := h
  cases e2 : zan s k b.l u with
  | bad t w => rw [e2] at h; exact h
  | ok v => rw [e2] at h; exact h
theorem zol {D : Dm} {u : Vl} (hD : D ∈ domA) (hu : u ∈ things) (hds : ds = [d1] \/ ds = [d1, d2]) (h : ∀ τ, OutD (fitB s D) K E (σ ++ τ)) : G1 (m + 9) 34 [se SC, pv (tyD k ds D.d), pv u.d, iv s] σ K E := by
 refine zeU hD fun τ => ?_
 have h := h τ
 unfold fitB at h
 cases e : D.r with
 | bad t w => rw [e] at h; exact h
 | ok b =>
  rw [e] at h
  rcases hds with rfl | rfl
  ·exact fun hb => f_1.mpr (zai (zjS (m := m + 6)) hu h)
  ·exact fun hb => f_2.mpr (zai (zjS (m := m + 6)) hu h)
theorem zok {D : Dm} {us : List Vl} {p : List PyData} {sp : Re (List Pr)} (hD : D ∈ domA) (hu : ∀ u ∈ us, u ∈ things) (hl : us.length <= 30) (hds : ds = [d1] \/ ds = [d1, d2])
  (hr : ∀ {K : KV} {E : KE} {σ : Hp}, (∀ τ, OutQ sp K E (σ ++ τ)) -> G1 (m + 9) 32 [se SC, pv (.tuple ds), pv (arrD p (us.map Vl.d)), iv s] σ K E) (h : ∀ τ, OutD (fitC s k D us sp) K E (σ ++ τ)) : G1 (m + 10) 34 [se SC, pv (tyD k ds D.d), pv (arrD p (us.map Vl.d)), iv s] σ K E := by
 refine zeU (m := m + 1) hD fun τ => ?_
 have go : ∀ b : Bd, b ∈ bds -> (∀ τ, OutD ((zam s k b.l us).bind fun vs => sp.bind fun qs => .ok (arrD (psD qs) (vs.map Vl.d))) K E (σ ++ τ)) -> M34 (G1 (m + 9)) k ds (arrD p (us.map Vl.d)) b.b s K E (σ ++ τ) := fun b hb h => by
  refine (zlo (m := m + 7)).mpr (zab (a := us.map Vl.d) rfl (zc1 (m := m + 4) hb us [] hu (by rw [List.length_nil, Nat.zero_add]; exact Nat.le_trans hl (by decide)) ?_))
  cases e2 : zam s k b.l us with
  | bad t w => have h := h τ; rw [e2] at h; exact h
  | ok vs =>
   refine zah (za8 (m := 30) (by rw [List.nil_append, List.length_map, zbI e2]; exact hl) (by decide)) (hr fun τ' => ?_)
   have h := h (τ ++ τ')
   rw [e2, ← List.append_assoc] at h
   have h : OutD (sp.bind fun qs => .ok (arrD (psD qs) (vs.map Vl.d))) K E (σ ++ τ ++ τ') := h
   cases e3 : sp with
   | bad t w => rw [e3] at h; exact h
   | ok qs => rw [e3] at h; show need (zbE [.pd (.tuple (psD qs)), .pd (.list (vs.map Vl.d))]) fun ds => when (ds.length <= sizeLine) (K (.pd (.tuple ds)) (σ ++ τ ++ τ')); exact zab (a := [PyData.tuple (psD qs), .list (vs.map Vl.d)]) rfl (zah (c := [PyData.tuple (psD qs), .list (vs.map Vl.d)].length <= sizeLine) (Nat.le_of_ble_eq_true rfl) h)
 unfold fitC at h
 cases e : D.r with
 | bad t w => rw [e] at h; exact h τ
 | ok b =>
  rw [e] at h
  rcases hds with rfl | rfl
  ·exact fun hb => f_1.mpr (go b hb h)
  ·exact fun hb => f_2.mpr (go b hb h)
end
noncomputable abbrev f25 (k : Kn) (ds : List PyData) (d v : PyData) (s : Int) (lt so wr sn : Option Loc) : Fm := [lp (.str k.w), lp (.tuple ds), lp d, lp v, lp SC, lp (.int s), lt, so, wr, sn, none, none, none, none, none, none]
noncomputable def okS' (t : Str) : Bool := PyData.strOk t && decide (t.length <= 200)
noncomputable def okRe {α : Type} : Re α -> Bool
 | .ok _ => true
 | .bad t _ => okS' t
noncomputable def zhW : Re Vl -> PyData
 | .ok _ => .none
 | .bad t s => badT t s
theorem zh3 (x y : Str) : (x ++ y).length = x.length + y.length := by
 show (x.cps ++ y.cps).size = _
 rw [Array.size_append]; rfl
theorem zdK {x y : Str} (h : PyData.strOk x = true) (q : PyData.strOk y = true) : PyData.strOk (x ++ y) = true := by
 unfold PyData.strOk at *
 show (x.cps ++ y.cps).all _ = true
 rw [Array.all_append, h, q]; rfl
theorem zfd (s : String) : PyData.strOk (Str.ofString s) = true := by
 unfold PyData.strOk
 rw [Str.ofString_eq_toList]
 simp only [List.all_toArray, List.all_eq_true, List.mem_map, decide_eq_true_eq]
 rintro a ⟨c, _, rfl⟩
 have := c.valid
 unfold UInt32.isValidChar Nat.isValidChar at this
 show c.val.toNat < 0x110000
 omega
theorem zeS (i : Int) : (iStr i).length <= i.natAbs + 2 := Int.ofNat_le.mp (len_str_of_int i : ((PyData.shown (.int i)).length : Int) <= i.natAbs + 2)
theorem zn4 {a b : Int} (ha : a.natAbs <= 20) (hb : b.natAbs <= 20) : okS' (iStr a ++ wEl ++ iStr b) = true := by
 refine Bool.and_eq_true_iff.mpr ⟨zdK (zdK (zfd _) (by decide +kernel)) (zfd _), decide_eq_true ?_⟩
 rw [zh3, zh3]
 exact Nat.le_trans (Nat.add_le_add (Nat.add_le_add_right (Nat.le_trans (zeS a) (Nat.add_le_add_right ha 2)) _) (Nat.le_trans (zeS b) (Nat.add_le_add_right hb 2))) (Nat.le_of_ble_eq_true rfl)
section
variable {m : Nat} {s : Int} {K K' : KV} {E : KE} {σ A B : Hp} {G : zaa} {KN : KS} {k : Kn} {ds us L ws cs p : List PyData} {d v d1 d2 x lt : PyData} {w : V} {b : Bd} {so wr sn : Option Loc} {o : Option (List Int)} {u : Vl} {t : Str}
theorem zmf : combos.all (fun c => okRe (zan s c.1 c.2.1.l c.2.2)) = true := by kernel_rfl
theorem zmx : ∀ l ∈ Ls, l.length <= 20 := by decide +kernel
theorem zkK : ∀ p ∈ los, (p.2 - p.1 + 1).natAbs <= 20 := by decide +kernel
theorem zn3 {l : List Int} {p : Pr} (hl : l ∈ Ls) (hp : p ∈ los) : okRe (lsR s l p) = true := by
 unfold lsR
 cases (l.length : Int) == p.2 - p.1 + 1 with
 | false => exact zn4 (zmx l hl) (zkK p hp)
 | true => cases gapB l <;> first | rfl | exact (by decide +kernel : okS' wGap = true)
theorem zmg {p l : List PyData} : okRe (zan s k o (.arr p l)) = true := by cases k <;> kernel_rfl
theorem zg0 (hb : b ∈ bds) (hu : Val u) : okRe (zan s k b.l u) = true := by
 cases hu with
 | th h => exact List.all_eq_true.mp zmf _ (zcE (k := k) hb h)
 | arr p l => exact zmg
theorem ziO {i : It} (hi : i.Ok) : okRe (i.r s) = true := by
 cases hi with
 | any hp => rfl
 | @some D p hD hp =>
  have q := List.all_eq_true.mp zdw D hD
  obtain ⟨d, r⟩ := D
  cases r with
  | z => kernel_rfl
  | n => kernel_rfl
  | ls l => exact zn3 (of_decide_eq_true q) hp
theorem bf_d0 : (doms.map fun D => stp G 25 [pv (.str k.w), pv (.tuple ds), pv D.d, pv v, pv SC, iv s] σ K E) = doms.map fun D => G 22 [pv D.d, pv SC] σ (fun w σ => evSs G gc1 (fn25.body.drop 1) (f25 k ds D.d v s (some (.v w)) none none none) σ (retK K) E) E := by kernel_rfl
theorem d_none : stp G 25 [pv (.str k.w), pv (.tuple ds), pv .none, pv v, pv SC, iv s] σ K E = evSs G gc1 (fn25.body.drop 1) (f25 k ds .none v s (lp .none) none none none) σ (retK K) E := by kernel_rfl
theorem zni : (bds.map fun b => evSs G gc1 (fn25.body.drop 1) (f25 k ds d v s (lp b.k) none none none) σ (retK K) E) = bds.map fun b => evSs G gc1 (fn25.body.drop 2) (f25 k ds d v s (lp b.k) none none none) σ (retK K) E := by kernel_rfl
theorem d_bad {w : Int} : evSs G gc1 (fn25.body.drop 1) (f25 k ds d v s (lp (badT t w)) none none none) σ (retK K) E = K (.pd (badT t w)) σ := by kernel_rfl
theorem zk7 {D : Dm} (hD : D ∈ domA) (h : match D.r with | .ok b => b ∈ bds -> evSs (G1 (m + 1)) gc1 (fn25.body.drop 2) (f25 k ds D.d v s (lp b.k) none none none) σ (retK K) E | .bad t w => K (.pd (badT t w)) σ) : G1 (m + 2) 25 [pv (.str k.w), pv (.tuple ds), pv D.d, pv v, pv SC, iv s] σ K E := by
 refine zaZ (m + 1) _ _ _ _ _ ?_
 rcases List.mem_cons.mp hD with e | hD
 ·subst e
  exact d_none.mpr (zai zni (.head _) (h (.head _)))
 ·refine zai bf_d0 hD (zai zne hD ?_)
  have q := @zeX D hD
  obtain ⟨d, r⟩ := D
  cases r with
  | ok b => exact zai zni (q rfl) (h (q rfl))
  | bad t w => exact d_bad.mpr h
noncomputable abbrev TC (G : zaa) (k : Kn) (lt : PyData) (s : Int) (E : KE) (d : PyData) (acc : List PyData) (σ : Hp) (kk : List PyData -> Hp -> Prop) : Prop := when (acc.length <= sizeLine) (G 23 [pv (.str k.w), pv lt, pv d, iv s] σ (fun v σ => need (pdV v) fun d' => kk (acc ++ [d']) σ) E)
noncomputable abbrev TN (d : PyData) (acc : List PyData) (σ : Hp) (kk : List PyData -> Hp -> Prop) : Prop := brn (!isN d) (when (acc.length <= sizeLine) (kk (acc ++ [d]) σ)) (kk acc σ)
noncomputable abbrev C25 (G : zaa) (k : Kn) (ds : List PyData) (d v : PyData) (s : Int) (lt : PyData) (K : KV) (E : KE) (L : List PyData) (σ : Hp) : Prop :=
 zau (TC G k lt s E) (fun _ kk => kk) (fun cs σ => when (cs.length <= sizeLine) (zau TN (fun _ kk => kk) (fun ws σ => when (ws.length <= sizeLine) (evSs G gc1 (fn25.body.drop 5) (f25 k ds d v s (lp lt) (lp (.list L)) (lp (.list ws)) none) σ (retK K) E)) cs [] σ)) L [] σ
theorem e4 : evSs G gc1 (fn25.body.drop 4) (f25 k ds d v s (lp lt) (lp (.list L)) none none) σ (retK K) E = C25 G k ds d v s lt K E L σ := by kernel_rfl
theorem e2A : evSs G gc1 (fn25.body.drop 2) (f25 k [] d v s (lp lt) none none none) σ (retK K) E = evSs G gc1 (fn25.body.drop 4) (f25 k [] d v s (lp lt) (lp (.list [v])) none none) σ (retK K) E := by kernel_rfl
theorem e2B : evSs G gc1 (fn25.body.drop 2) (f25 k ds d v s (lp lt) none none none) σ (retK K) E = need (evOp .ne (.pd (.tuple ds)) (.pd (.tuple [])) σ) fun x => truth (.pd x) fun t => brn t (G 21 [pv v] σ (fun w σ => truth w fun t => brn (!t) (K (.pd (badT wArr s)) σ) (evSs G gc1 (fn25.body.drop 3) (f25 k ds d v s (lp lt) none none none) σ (retK K) E)) E)
  (truth (.pd x) fun t => brn t (K (.pd (badT wArr s)) σ) (evSs G gc1 (fn25.body.drop 3) (f25 k ds d v s (lp lt) none none none) σ (retK K) E)) := by kernel_rfl
theorem e3 : evSs G gc1 (fn25.body.drop 3) (f25 k ds d (arrD p L) s (lp lt) none none none) σ (retK K) E = need (evOp .eq (.pd (.tuple ds)) (.pd (.tuple [])) σ) fun x => truth (.pd x) fun t => brn t (evSs G gc1 (fn25.body.drop 4) (f25 k ds d (arrD p L) s (lp lt) (lp (.list [arrD p L])) none none) σ (retK K) E) (evSs G gc1 (fn25.body.drop 4) (f25 k ds d (arrD p L) s (lp lt) (lp (.list L)) none none) σ (retK K) E) := by kernel_rfl
theorem e5 : evSs G gc1 (fn25.body.drop 5) (f25 k ds d v s (lp lt) so (lp (.list ws)) none) σ (retK K) E = need (evOp .ne (.pd (.list ws)) (.pd (.list [])) σ) fun x => truth (.pd x) fun t => brn t (need (zaA σ (.pd (.list ws)) (.pd (.int 0))) fun z => K z σ) (evSs G gc1 (fn25.body.drop 6) (f25 k ds d v s (lp lt) so (lp (.list ws)) none) σ (retK K) E) := by kernel_rfl
noncomputable abbrev TI (d : PyData) (acc : List PyData) (σ : Hp) (kk : List PyData -> Hp -> Prop) : Prop := when (acc.length <= sizeLine) (need (zga d) fun i => kk (acc ++ [.int i]) σ)
noncomputable abbrev TJ (d : PyData) (acc : List PyData) (σ : Hp) (kk : List PyData -> Hp -> Prop) : Prop := when (acc.length <= sizeLine) (kk (acc ++ [d]) σ)
noncomputable def TK (k : Kn) : PyData -> List PyData -> Hp -> (List PyData -> Hp -> Prop) -> Prop := match k with
 | .int => TI
 | _ => TJ
noncomputable abbrev F7 (G : zaa) (k : Kn) (ds : List PyData) (d v : PyData) (s : Int) (lt : PyData) (wr : Option Loc) (K : KV) (E : KE) (cs : List PyData) (σ : Hp) : Prop := when (cs.length <= sizeLine) (evSs G gc1 (fn25.body.drop 7) (f25 k ds d v s (lp lt) (lp (.list cs)) wr none) σ (retK K) E)
theorem e6 : evSs G gc1 (fn25.body.drop 6) (f25 k ds d v s (lp lt) (lp (.list L)) wr none) σ (retK K) E = zau (TK k) (fun _ kk => kk) (F7 G k ds d v s lt wr K E) L [] σ := by cases k <;> kernel_rfl
theorem e7A : evSs G gc1 (fn25.body.drop 7) (f25 k [] d v s (lp lt) (lp (.list [x])) wr none) σ (retK K) E = K (.pd x) σ := by kernel_rfl
theorem e7B : evSs G gc1 (fn25.body.drop 7) (f25 k ds d v s (lp lt) so wr none) σ (retK K) E = need (evOp .eq (.pd (.tuple ds)) (.pd (.tuple [])) σ) fun x => truth (.pd x) fun t => brn t (evS G gc1 (.ret (.sub (.v 7) (.c (.int 0)))) (f25 k ds d v s (lp lt) so wr none) σ (retK K) E) (evSs G gc1 (fn25.body.drop 8) (f25 k ds d v s (lp lt) so wr none) σ (retK K) E) := by kernel_rfl
end
noncomputable def wrongs (s : Int) (k : Kn) (o : Option (List Int)) : List Vl -> List PyData
 | [] => []
 | u :: r => match zan s k o u with
  | .ok _ => wrongs s k o r
  | .bad t w => badT t w :: wrongs s k o r
section
variable {m : Nat} {s : Int} {K K' : KV} {E : KE} {σ A B : Hp} {G : zaa} {KN : KS} {k : Kn} {ds L ws cs p : List PyData} {d v d1 d2 x lt p1 p2 : PyData} {w : V} {b : Bd} {so wr sn : Option Loc} {o : Option (List Int)} {u : Vl} {t : Str} {us : List Vl} {D : Dm}
theorem zdj {l : List PyData} {i : Int} {d : PyData} (h : idx l i = some d) : zaA σ (.pd (.list l)) (.pd (.int i)) = some (.pd d) := by
 show alt ((idx l i).map V.pd) none = _
 rw [h]; rfl
theorem zhw : ∀ l : List PyData, PyData.eqvAll l [] = l.isEmpty
 | [] => rfl
 | _ :: _ => rfl
theorem zjH {l : List PyData} (h : PyData.canLayAll0 l = true /\ PyData.depthAll l <= 60) : evOp .ne (.pd (.list l)) (.pd (.list [])) σ = some (.bool (!l.isEmpty)) :=
 congrArg (Option.map fun r => PyData.bool (!r)) ((gd_i (x := PyData.eqvAll l []) ⟨h.1, rfl, Nat.le_trans (Nat.succ_le_succ h.2) (by decide)⟩).trans (congrArg some (zhw l)))
theorem zgj {l : List PyData} (h : PyData.canLayAll0 l = true /\ PyData.depthAll l <= 60) : eqP (.tuple l) (.tuple []) = some l.isEmpty :=
 (gd_i (x := PyData.eqvAll l []) ⟨h.1, rfl, Nat.le_trans (Nat.succ_le_succ h.2) (by decide)⟩).trans (congrArg some (zhw l))
theorem zdE {w : Int} (h : okRe (α := Vl) (.bad t w) = true) : (badT t w).canLay0 = true /\ (badT t w).depth <= 1 := by
 have h := (Bool.and_eq_true_iff.mp h).1
 exact ⟨Bool.and_eq_true_iff.mpr ⟨(by decide +kernel : PyData.strOk ⟨#[98,97,100]⟩ = true), Bool.and_eq_true_iff.mpr ⟨h, rfl⟩⟩, Nat.le_of_ble_eq_true rfl⟩
theorem zaL {d : PyData} {l : List PyData} (h : d.canLay0 = true /\ d.depth <= 60) (q : PyData.canLayAll0 l = true /\ PyData.depthAll l <= 60) : PyData.canLayAll0 (d :: l) = true /\ PyData.depthAll (d :: l) <= 60 :=
 ⟨Bool.and_eq_true_iff.mpr ⟨h.1, q.1⟩, Nat.max_le.mpr ⟨h.2, q.2⟩⟩
theorem zjv (hb : b ∈ bds) : ∀ {us : List Vl}, (∀ u ∈ us, Val u) -> PyData.canLayAll0 (wrongs s k b.l us) = true /\ PyData.depthAll (wrongs s k b.l us) <= 60
 | [], _ => ⟨rfl, Nat.zero_le _⟩
 | u :: r, h => by
  obtain ⟨h1, h2⟩ := List.forall_mem_cons.mp h
  have i := zjv hb h2
  have q := zg0 (s := s) (k := k) hb h1
  unfold wrongs
  cases e : zan s k b.l u with
  | ok v => exact i
  | bad t w => rw [e] at q; exact zaL ⟨(zdE q).1, Nat.le_trans (zdE q).2 (by decide)⟩ i
theorem zhY {KK : List PyData -> Hp -> Prop} (hb : b ∈ bds) : ∀ (us : List Vl) (acc : List PyData), (∀ u ∈ us, Val u) -> acc.length + us.length <= 90 -> KK (acc ++ us.map fun u => zhW (zan s k b.l u)) σ -> zau (TC (G1 (m + 3)) k b.k s E) (fun _ kk => kk) KK (us.map Vl.d) acc σ
 | [], acc, _, hl, h => by have h : KK (acc ++ []) σ := h; rw [List.append_nil] at h; exact h
 | u :: r, acc, hu, hl, h => by
  obtain ⟨h1, h2⟩ := List.forall_mem_cons.mp hu
  rw [List.length_cons] at hl
  refine zah (za8 (m := 90) (Nat.le_trans (Nat.le_add_right _ _) hl) (by decide)) (zjo hb h1 ?_)
  have go : ∀ x, x = zhW (zan s k b.l u) -> zau (TC (G1 (m + 3)) k b.k s E) (fun _ kk => kk) KK (r.map Vl.d) (acc ++ [x]) σ := fun x e => zhY hb r _ h2 (acc1 hl) (by subst e; rw [app1]; exact h)
  cases e : zan s k b.l u with
  | ok v => rw [e] at go; exact go .none rfl
  | bad t w => rw [e] at go; exact go (badT t w) rfl
theorem ze1 {KK : List PyData -> Hp -> Prop} : ∀ (us : List Vl) (acc : List PyData), acc.length + us.length <= 90 -> KK (acc ++ wrongs s k o us) σ -> zau TN (fun _ kk => kk) KK (us.map fun u => zhW (zan s k o u)) acc σ
 | [], acc, hl, h => by have h : KK (acc ++ []) σ := h; rw [List.append_nil] at h; exact h
 | u :: r, acc, hl, h => by
  rw [List.length_cons] at hl
  unfold wrongs at h
  show TN (zhW (zan s k o u)) acc σ fun acc' σ' => zau TN (fun _ kk => kk) KK (r.map fun u => zhW (zan s k o u)) acc' σ'
  cases e : zan s k o u with
  | ok v => rw [e] at h; exact ze1 r _ (Nat.le_of_succ_le hl) h
  | bad t w => rw [e] at h; exact zah (za8 (m := 90) (Nat.le_trans (Nat.le_add_right _ _) hl) (by decide)) (ze1 r _ (acc1 hl) (by rw [app1]; exact h))
theorem ze6 : ∀ {us : List Vl}, (wrongs s k o us).length <= us.length
 | [] => Nat.le_refl _
 | u :: r => by
  unfold wrongs
  cases zan s k o u with
  | ok v => exact Nat.le_succ_of_le ze6
  | bad t w => exact Nat.succ_le_succ ze6
theorem zc7 {l : List Int} {v0 v : Vl} (h : chk s o l v0 = .ok v) : v = v0 := by
 cases o with
 | none => cases h; rfl
 | some m =>
  have h : (match decide (out m l = []) with | true => Re.ok v0 | false => .bad (shV v0 ++ wBnd) s) = .ok v := h
  cases q : decide (out m l = []) with
  | true => rw [q] at h; cases h; rfl
  | false => rw [q] at h; cases h
theorem zoz {v : Vl} {acc : List PyData} {kk : List PyData -> Hp -> Prop} (e : zan s k o u = .ok v) (ha : acc.length <= sizeLine) (h : kk (acc ++ [v.d]) σ) : TK k u.d acc σ kk := by
 cases k with
 | bool => cases u <;> cases e <;> exact zah ha h
 | str => cases u <;> cases e <;> exact zah ha h
 | set => cases u with
  | set l => rw [zc7 (v0 := .set l) e] at h; exact zah ha h
  | _ => cases e
 | int => cases u with
  | num i => rw [zc7 (v0 := .num i) e] at h; exact zah ha (zab (a := i) rfl h)
  | tru b => rw [zc7 (v0 := .num (if b = true then 1 else 0)) e] at h; exact zah ha (zab (a := if b = true then 1 else 0) rfl h)
  | _ => cases e
theorem zen {KK : List PyData -> Hp -> Prop} : ∀ (us : List Vl) (acc : List PyData) (vs : List Vl), acc.length + us.length <= 90 -> zam s k o us = .ok vs -> KK (acc ++ vs.map Vl.d) σ -> zau (TK k) (fun _ kk => kk) KK (us.map Vl.d) acc σ
 | [], acc, vs, hl, e, h => by cases e; have h : KK (acc ++ []) σ := h; rw [List.append_nil] at h; exact h
 | u :: r, acc, vs, hl, e, h => by
  rw [List.length_cons] at hl
  have e : ((zan s k o u).bind fun v => (zam s k o r).bind fun vs => .ok (v :: vs)) = .ok vs := e
  cases e1 : zan s k o u with
  | bad t w => rw [e1] at e; cases e
  | ok v =>
   rw [e1] at e
   cases e2 : zam s k o r with
   | bad t w => rw [e2] at e; cases e
   | ok ws =>
    rw [e2] at e
    have e : Re.ok (v :: ws) = Re.ok vs := e
    cases e
    exact zoz e1 (za8 (m := 90) (Nat.le_trans (Nat.le_add_right _ _) hl) (by decide)) (zen r _ ws (acc1 hl) e2 (by rw [app1]; exact h))
theorem zls : ∀ {us vs : List Vl}, zam s k o us = .ok vs -> wrongs s k o us = []
 | [], _, _ => rfl
 | u :: r, vs, e => by
  have e : ((zan s k o u).bind fun v => (zam s k o r).bind fun vs => .ok (v :: vs)) = .ok vs := e
  unfold wrongs
  cases e1 : zan s k o u with
  | bad t w => rw [e1] at e; cases e
  | ok v =>
   rw [e1] at e
   cases e2 : zam s k o r with
   | bad t w => rw [e2] at e; cases e
   | ok ws => exact zls e2
theorem zjw : ∀ {us : List Vl} {t : Str} {w : Int}, zam s k o us = .bad t w -> ∃ r, wrongs s k o us = badT t w :: r
 | [], _, _, e => nomatch e
 | u :: r, t, w, e => by
  have e : ((zan s k o u).bind fun v => (zam s k o r).bind fun vs => .ok (v :: vs)) = .bad t w := e
  unfold wrongs
  cases e1 : zan s k o u with
  | bad t' w' => rw [e1] at e; cases e; exact ⟨_, rfl⟩
  | ok v =>
   rw [e1] at e
   cases e2 : zam s k o r with
   | bad t' w' => rw [e2] at e; cases e; exact zjw e2
   | ok ws => rw [e2] at e; cases e
theorem elems (hb : b ∈ bds) (hu : ∀ u ∈ us, Val u) (hl : us.length <= 30) (h : match zam s k b.l us with | .ok vs => evSs (G1 (m + 3)) gc1 (fn25.body.drop 7) (f25 k ds d v s (lp b.k) (lp (.list (vs.map Vl.d))) (lp (.list [])) none) σ (retK K) E | .bad t w => K (.pd (badT t w)) σ) :
  evSs (G1 (m + 3)) gc1 (fn25.body.drop 4) (f25 k ds d v s (lp b.k) (lp (.list (us.map Vl.d))) none none) σ (retK K) E := by
 have z : ∀ {n : Nat}, n <= us.length -> n <= sizeLine := fun q => za8 (m := 30) (Nat.le_trans q hl) (by decide)
 have z0 : ([] : List PyData).length + us.length <= 90 := by rw [List.length_nil, Nat.zero_add]; exact Nat.le_trans hl (by decide)
 refine e4.mpr (zhY hb us [] hu z0 (zah (z (by rw [List.nil_append, List.length_map]; exact Nat.le_refl _)) (ze1 us [] z0 (zah (z ze6) (e5.mpr (zab (zjH (zjv hb hu)) (zab rfl ?_)))))))
 cases e : zam s k b.l us with
 | ok vs =>
  rw [e] at h
  have q : wrongs s k b.l us = [] := zls e
  show brn (!(wrongs s k b.l us).isEmpty) _ (evSs _ _ _ (f25 k ds d v s (lp b.k) _ (lp (.list (wrongs s k b.l us))) none) _ _ _)
  rw [q]
  exact zf7 rfl (e6.mpr (zen us [] vs z0 e (zah (z (by rw [List.nil_append, List.length_map, zbI e]; exact Nat.le_refl _)) h)))
 | bad t w =>
  rw [e] at h
  obtain ⟨r, q⟩ := zjw e
  have zl := z (ze6 (s := s) (k := k) (o := b.l) (us := us))
  show brn (!(wrongs s k b.l us).isEmpty) (need (zaA σ (.pd (.list (wrongs s k b.l us))) (.pd (.int 0))) fun z => K z σ) _
  rw [q] at zl ⊢
  exact zhZ rfl (zab (a := .pd (badT t w)) (zdj (zd8 zl)) h)
end
section
variable {m : Nat} {s : Int} {K K' : KV} {E : KE} {σ A B : Hp} {G : zaa} {KN : KS} {k : Kn} {ds L ws cs p : List PyData} {d v d1 d2 x lt p1 p2 : PyData} {w : V} {b : Bd} {so wr sn : Option Loc} {o : Option (List Int)} {u : Vl} {t : Str} {us : List Vl} {D : Dm} {q1 q2 : Pr} {i1 i2 : It} {lo : Option Loc}
theorem zou (hD : D ∈ domA) (hu : Val u) (h : K (.pd (zba (fitA s k D u))) σ) : G1 (m + 4) 25 [pv (.str k.w), pv (.tuple []), pv D.d, pv u.d, pv SC, iv s] σ K E := by
 refine zk7 (m := m + 2) hD ?_
 unfold fitA at h
 cases e : D.r with
 | bad t w => rw [e] at h; exact h
 | ok b =>
  rw [e] at h
  refine fun hb => e2A.mpr (elems (us := [u]) hb (List.forall_mem_cons.mpr ⟨hu, fun _ h => nomatch h⟩) (Nat.le_of_ble_eq_true rfl) ?_)
  have h : K (.pd (zba ((zan s k b.l u).bind fun v => .ok v.d))) σ := h
  show match (zan s k b.l u).bind fun v => Re.ok [v] with | .ok vs => _ | .bad t w => _
  cases e2 : zan s k b.l u with
  | bad t w => rw [e2] at h; exact h
  | ok v => rw [e2] at h; exact e7A.mpr h
theorem znk : (things.map fun u => G1 (m + 1) 21 [pv u.d] σ K E) = things.map fun _ => K (.pd (.bool false)) σ := by kernel_rfl
theorem arr_21 {p l : List PyData} : G1 (m + 1) 21 [pv (arrD p l)] σ K E = K (.pd (.bool true)) σ := by kernel_rfl
def Lay (ds : List PyData) : Prop := PyData.canLayAll0 ds = true /\ PyData.depthAll ds <= 60 /\ ds.isEmpty = false
theorem Lay.ne (h : Lay ds) : evOp .ne (.pd (.tuple ds)) (.pd (.tuple [])) σ = some (.bool true) := congrArg (Option.map fun r => PyData.bool (!r)) ((zgj ⟨h.1, h.2.1⟩).trans (congrArg some h.2.2))
theorem Lay.eq (h : Lay ds) : evOp .eq (.pd (.tuple ds)) (.pd (.tuple [])) σ = some (.bool false) := congrArg (Option.map PyData.bool) ((zgj ⟨h.1, h.2.1⟩).trans (congrArg some h.2.2))
theorem zot (hD : D ∈ domA) (hu : u ∈ things) (hl : Lay ds) (h : K (.pd (zba (fitB s D))) σ) : G1 (m + 3) 25 [pv (.str k.w), pv (.tuple ds), pv D.d, pv u.d, pv SC, iv s] σ K E := by
 refine zk7 (m := m + 1) hD ?_
 unfold fitB at h
 cases e : D.r with
 | bad t w => rw [e] at h; exact h
 | ok b =>
  rw [e] at h
  exact fun hb => e2B.mpr (zab hl.ne (zab (a := true) rfl (zai (znk (m := m + 1)) hu (zab (a := false) rfl h))))
noncomputable def E10 (G : zaa) (k : Kn) (ds : List PyData) (d v : PyData) (s : Int) (lt so wr : Option Loc) (K : KV) (E : KE) (xs : List PyData) (σ : Hp) : Prop := when (xs.length <= sizeLine) (evSs G gc1 (fn25.body.drop 10) (f25 k ds d v s lt so wr (lp (.list xs))) σ (retK K) E)
theorem zor : evSs G gc1 (fn25.body.drop 8) (f25 k [d1] d (arrD [p1, p2] L) s lo so wr none) σ (retK K) E = K (.pd (badT (wLen 1 2) s)) σ := by kernel_rfl
theorem zoq : evSs G gc1 (fn25.body.drop 8) (f25 k [d1, d2] d (arrD [p1] L) s lo so wr none) σ (retK K) E = K (.pd (badT (wLen 2 1) s)) σ := by kernel_rfl
theorem e8_1 : evSs G gc1 (fn25.body.drop 8) (f25 k [d1] d (arrD [prD q1] L) s lo so wr none) σ (retK K) E = G 24 [pv d1, iv q1.1, iv q1.2, pv SC, iv s] σ (fun w σ => need (pdV w) fun x => E10 G k [d1] d (arrD [prD q1] L) s lo so wr K E [x] σ) E := by kernel_rfl
theorem e8_2 : evSs G gc1 (fn25.body.drop 8) (f25 k [d1, d2] d (arrD [prD q1, prD q2] L) s lo so wr none) σ (retK K) E = G 24 [pv d1, iv q1.1, iv q1.2, pv SC, iv s] σ (fun w σ => need (pdV w) fun x => G 24 [pv d2, iv q2.1, iv q2.2, pv SC, iv s] σ (fun w σ => need (pdV w) fun y => E10 G k [d1, d2] d (arrD [prD q1, prD q2] L) s lo so wr K E [x, y] σ) E) E := by kernel_rfl
theorem t1 : E10 G k ds d v s lo (lp (.list cs)) wr K E [prD q1] σ = K (.pd (arrD [prD q1] cs)) σ := by kernel_rfl
theorem t2 : E10 G k ds d v s lo (lp (.list cs)) wr K E [prD q1, prD q2] σ = K (.pd (arrD [prD q1, prD q2] cs)) σ := by kernel_rfl
noncomputable def E11 (G : zaa) (k : Kn) (ds : List PyData) (d v : PyData) (s : Int) (lt so sn : Option Loc) (K : KV) (E : KE) (ws : List PyData) (σ : Hp) : Prop := need (evOp .ne (.pd (.list ws)) (.pd (.list [])) σ) fun x => truth (.pd x) fun t => brn t (need (zaA σ (.pd (.list ws)) (.pd (.int 0))) fun z => K z σ) (evX G gc1 (f25 k ds d v s lt so (lp (.list ws)) sn) [] (.tup [.prim .tuple [.v 9], .v 7]) σ K E)
theorem t1b {w : Int} : E10 G k ds d v s lo so wr K E [badT t w] σ = E11 G k ds d v s lo so (lp (.list [badT t w])) K E [badT t w] σ := by kernel_rfl
theorem t2a {w : Int} : E10 G k ds d v s lo so wr K E [badT t w, prD q2] σ = E11 G k ds d v s lo so (lp (.list [badT t w, prD q2])) K E [badT t w] σ := by kernel_rfl
theorem t2b {w : Int} : E10 G k ds d v s lo so wr K E [prD q1, badT t w] σ = E11 G k ds d v s lo so (lp (.list [prD q1, badT t w])) K E [badT t w] σ := by kernel_rfl
theorem t2c {w w' : Int} {t' : Str} : E10 G k ds d v s lo so wr K E [badT t w, badT t' w'] σ = E11 G k ds d v s lo so (lp (.list [badT t w, badT t' w'])) K E [badT t w, badT t' w'] σ := by kernel_rfl
theorem e11 {w : Int} {r : List PyData} (hl : PyData.canLayAll0 (badT t w :: r) = true /\ PyData.depthAll (badT t w :: r) <= 60) (hz : (badT t w :: r).length <= sizeLine) (h : K (.pd (badT t w)) σ) : E11 G k ds d v s lo so sn K E (badT t w :: r) σ :=
 show need _ _ from zab (zjH hl) (zab (a := true) rfl (zab (zdj (zd8 hz)) h))
theorem zkT (hi : i1.Ok) (h : K (.pd (spD (i1.r s))) σ) : G1 (m + 3) 24 [pv i1.d, iv i1.p.1, iv i1.p.2, pv SC, iv s] σ K E := by
 cases hi with
 | any hp => exact zlQ h
 | some hD hp => exact zkb hD hp h
theorem zcx {w : Int} {r : List PyData} (h : okRe (α := Pr) (.bad t w) = true) (q : PyData.canLayAll0 r = true /\ PyData.depthAll r <= 60) : PyData.canLayAll0 (badT t w :: r) = true /\ PyData.depthAll (badT t w :: r) <= 60 :=
 zaL ⟨(zdE (t := t) (w := w) h).1, Nat.le_trans (zdE (t := t) (w := w) h).2 (by decide)⟩ q
theorem pd_i {w : PyData} {f : PyData -> Prop} (h : f w) : need (pdV (.pd w)) f := h
structure R25 (G : zaa) (kn : Kn) (ds p : List PyData) (us : List Vl) (s : Int) (sp : Re (List Pr)) : Prop where
 go : ∀ {σ : Hp} {K : KV} {E : KE} {cs : List PyData} {d : PyData} {lo wr : Option Loc}, K (.pd (zba (sp.bind fun qs => .ok (arrD (psD qs) cs)))) σ -> evSs G gc1 (fn25.body.drop 8) (f25 kn ds d (arrD p (us.map Vl.d)) s lo (lp (.list cs)) wr none) σ (retK K) E
structure R24 (G : zaa) (i : It) (s : Int) : Prop where
 go : ∀ {K : KV} {σ : Hp} {E : KE}, K (.pd (spD (i.r s))) σ -> G 24 [pv i.d, iv i.p.1, iv i.p.2, pv SC, iv s] σ K E
theorem r24 {i : It} (hi : i.Ok) : R24 (G1 (m + 3)) i s := ⟨fun h => zkT hi h⟩
theorem sp1 (h1 : i1.Ok) (hG : R24 G i1 s) : R25 G k [i1.d] [prD i1.p] us s (seqR s [i1]) := by
 refine ⟨?_⟩
 intro σ K E cs d lo wr h
 have ok := ziO (s := s) h1
 have h : K (.pd (zba (((i1.r s).bind fun q => (seqR s []).bind fun qs => .ok (q :: qs)).bind fun qs => .ok (arrD (psD qs) cs)))) σ := h
 rw [e8_1 (q1 := i1.p)]
 refine hG.go (pd_i ?_)
 cases e : i1.r s with
 | ok q => rw [e] at h; exact t1.mpr h
 | bad t w => rw [e] at h ok; exact t1b.mpr (e11 (zcx ok ⟨rfl, Nat.zero_le _⟩) (Nat.le_of_ble_eq_true rfl) h)
theorem sp2 (h1 : i1.Ok) (h2 : i2.Ok) (hG : R24 G i1 s) (hG2 : R24 G i2 s) : R25 G k [i1.d, i2.d] [prD i1.p, prD i2.p] us s (seqR s [i1, i2]) := by
 refine ⟨?_⟩
 intro σ K E cs d lo wr h
 have ok := ziO (s := s) h1
 have ok2 := ziO (s := s) h2
 have h : K (.pd (zba (((i1.r s).bind fun q => ((i2.r s).bind fun q => (seqR s []).bind fun qs => .ok (q :: qs)).bind fun qs => .ok (q :: qs)).bind fun qs => .ok (arrD (psD qs) cs)))) σ := h
 rw [e8_2 (q1 := i1.p) (q2 := i2.p)]
 refine hG.go (pd_i ?_)
 refine hG2.go (pd_i ?_)
 cases e : i1.r s with
 | ok q =>
  rw [e] at h
  cases e2 : i2.r s with
  | ok q' => rw [e2] at h; exact t2.mpr h
  | bad t w => rw [e2] at h ok2; exact t2b.mpr (e11 (zcx ok2 ⟨rfl, Nat.zero_le _⟩) (Nat.le_of_ble_eq_true rfl) h)
 | bad t w =>
  rw [e] at h ok
  cases e2 : i2.r s with
  | ok q' => exact t2a.mpr (e11 (zcx ok ⟨rfl, Nat.zero_le _⟩) (Nat.le_of_ble_eq_true rfl) h)
  | bad t' w' => rw [e2] at ok2; exact t2c.mpr (e11 (zcx ok (zcx ok2 ⟨rfl, Nat.zero_le _⟩)) (Nat.le_of_ble_eq_true rfl) h)
theorem zos {sp : Re (List Pr)} (hD : D ∈ domA) (hu : ∀ u ∈ us, u ∈ things) (hz : us.length <= 30) (hl : Lay ds)
  (hr : R25 (G1 (m + 3)) k ds p us s sp)
  (h : K (.pd (zba (fitC s k D us sp))) σ) : G1 (m + 4) 25 [pv (.str k.w), pv (.tuple ds), pv D.d, pv (arrD p (us.map Vl.d)), pv SC, iv s] σ K E := by
 refine zk7 (m := m + 2) hD ?_
 unfold fitC at h
 cases e : D.r with
 | bad t w => rw [e] at h; exact h
 | ok b =>
  rw [e] at h
  have h : K (.pd (zba ((zam s k b.l us).bind fun vs => sp.bind fun qs => .ok (arrD (psD qs) (vs.map Vl.d))))) σ := h
  refine fun hb => e2B.mpr (zab hl.ne (zab (a := true) rfl (arr_21.mpr (zab (a := true) rfl (e3.mpr (zab hl.eq (zab (a := false) rfl (elems hb (fun u h => .th (hu u h)) hz ?_))))))))
  cases e2 : zam s k b.l us with
  | bad t w => rw [e2] at h; exact h
  | ok vs => rw [e2] at h; exact e7B.mpr (zab hl.eq (zab (a := false) rfl (hr.go h)))
theorem ziW : dims.all (fun D => D.d.canLay0 && decide (D.d.depth <= 50)) = true := by decide +kernel
theorem zc2 (hi : i1.Ok) : i1.d.canLay0 = true /\ i1.d.depth <= 60 := by
 cases hi with
 | any hp => exact ⟨(by decide +kernel : dAny.canLay0 = true), (by decide +kernel : dAny.depth <= 60)⟩
 | some hD hp =>
  have h := Bool.and_eq_true_iff.mp (List.all_eq_true.mp ziW _ hD)
  exact ⟨h.1, Nat.le_trans (of_decide_eq_true h.2) (by decide)⟩
theorem lay1 (h1 : i1.Ok) : Lay [i1.d] := ⟨(zaL (zc2 h1) ⟨rfl, Nat.zero_le _⟩).1, (zaL (zc2 h1) ⟨rfl, Nat.zero_le _⟩).2, rfl⟩
theorem lay2 (h1 : i1.Ok) (h2 : i2.Ok) : Lay [i1.d, i2.d] := ⟨(zaL (zc2 h1) (zaL (zc2 h2) ⟨rfl, Nat.zero_le _⟩)).1, (zaL (zc2 h1) (zaL (zc2 h2) ⟨rfl, Nat.zero_le _⟩)).2, rfl⟩
end
noncomputable abbrev zmm : Str := ⟨#[116,111,108,100]⟩
noncomputable abbrev seT (d : PyData) : Loc := se (.dict [(.str zmm, d)])
noncomputable abbrev nIx (pl : List PyData) : PyData := .tuple [.str ⟨#[105,110,100,101,120]⟩, .int 1, zbG 2 zmm, .tuple (pl.map fun k => .tuple [tInt, .int 3, k])]
noncomputable def Qs : List Pr := (lows.flatMap fun lo => ([0, 1, 2] : List Int).map fun k => (lo, lo + k)) ++ ([-2, -1, 0, 1, 2] : List Int).map fun lo => (lo, lo + -1)
noncomputable def szP (q : Pr) : Nat := (q.2 - q.1 + 1).toNat
noncomputable def cells : List (Pr × Nat × Nat) := Qs.flatMap fun q => (List.range (szP q)).flatMap fun j => ([0, 1, 2] : List Nat).map fun p => (q, j, p)
noncomputable def b31 : List Mine.Lake.S := match fn31.body with
 | _ :: _ :: _ :: _ :: .forz _ _ b :: _ => b
 | _ => []
noncomputable abbrev f31 (S nd vl so : Option Loc) (pl : Int) (lo hi one ix : Option Loc) : Fm := [S, nd, vl, lp (.int 1), so, lp (.int pl), lo, hi, one, ix, none, none, none, none, none]
noncomputable def a26 : List Mine.Lake.S := match fn26.body with
 | _ :: _ :: .for _ _ b :: _ => b
 | _ => []
noncomputable def b26 : List Mine.Lake.S := match fn26.body with
 | _ :: _ :: _ :: .for _ _ b :: _ => b
 | _ => []
noncomputable abbrev f26 (d : PyData) (n : Nat) (its : PyData) (lo hi p : Option Loc) : Fm := [lp d, some (seT d), some (.v (.ref n)), lp its, lo, hi, p, none, none, none]
noncomputable def znS (pl : PyData) (k : PyData) : PyData := match pl with
 | .list l => .list (l ++ [k])
 | d => d
noncomputable def grow (q : Pr) (acc : List PyData) : List PyData := acc.flatMap fun pl => (List.range (szP q)).map fun k => znS pl (.int (q.1 + (k : Nat)))
noncomputable def gcs (x y z : PyData) : List (Pr × List PyData) := Qs.flatMap fun q => ([[.list []], [], [.list [x]], [.list [x], .list [y]], [.list [x], .list [y], .list [z]]] : List (List PyData)).map fun a => (q, a)
section
variable {m n : Nat} {s : Int} {K K' : KV} {E : KE} {σ A B : Hp} {G : zaa} {KN : KS} {ds its : List PyData} {d x y z : PyData} {lo hi p S nd vl so lx hx ox ix : Option Loc} {q1 q2 : Pr} {i j : Int} {qs : List Pr}
noncomputable abbrev KZ (G : zaa) (K : KV) (E : KE) : KS := fun f m' σ' => match f with
 | .next => evSs G gc1 (fn31.body.drop 5) m' σ' (retK K) E
 | f => retK K f m' σ'
noncomputable abbrev ZL (G : zaa) (K : KV) (E : KE) (l : List PyData) (m : Fm) (σ : Hp) : Prop := forN (fun d m' σ' k => need (tgFm m' (.t [.t [.n 6, .n 7], .n 8]) d) fun m'' => evSs G gc1 b31 m'' σ' k E) (fun _ k => k) (KZ G K E) l m σ
noncomputable abbrev f31z (d nd : PyData) (ds : List PyData) : Fm := f31 (some (seT d)) (lp nd) (lp d) (lp (.list ds)) 0 none none none none
theorem z_1 : G1 (m + 4) 28 [seT (arrD [prD q1] ds), pv (nIx [.int i])] σ K E = ZL (G1 (m + 2)) K E [.tuple [prD q1, .int i]] (f31z (arrD [prD q1] ds) (nIx [.int i]) ds) σ := by kernel_rfl
theorem z_2 : G1 (m + 4) 28 [seT (arrD [prD q1, prD q2] ds), pv (nIx [.int i, .int j])] σ K E = ZL (G1 (m + 2)) K E [.tuple [prD q1, .int i], .tuple [prD q2, .int j]] (f31z (arrD [prD q1, prD q2] ds) (nIx [.int i, .int j]) ds) σ := by kernel_rfl
theorem bf_z : (cells.map fun c => evSs (G1 (m + 2)) gc1 b31 (f31 S nd vl so c.2.2 (lp (.int c.1.1)) (lp (.int c.1.2)) (lp (.int (c.1.1 + c.2.1))) ix) σ KN E) = cells.map fun c => KN .next (f31 S nd vl so (c.2.2 * szP c.1 + c.2.1 : Nat) (lp (.int c.1.1)) (lp (.int c.1.2)) (lp (.int (c.1.1 + c.2.1))) (lp (.int (c.1.1 + c.2.1)))) σ := by kernel_rfl
theorem zlr {pl : Int} : ZL G K E [] (f31 S nd vl (lp (.list ds)) pl lx hx ox ix) σ = need (zaA σ (.pd (.list ds)) (.pd (.int pl))) fun z => K z σ := by kernel_rfl
theorem z_cons {pl : Int} {l : List PyData} : ZL G K E (.tuple [prD q1, .int i] :: l) (f31 S nd vl so pl lx hx ox ix) σ = evSs G gc1 b31 (f31 S nd vl so pl (lp (.int q1.1)) (lp (.int q1.2)) (lp (.int i)) ix) σ (fun f m' σ' => match f with | .ret v => KZ G K E (.ret v) m' σ' | _ => ZL G K E l m' σ') E := by kernel_rfl
theorem zi3 {a b : Nat} (hq : q1 ∈ Qs) (ha : a < szP q1) (hb : b < 3) : (q1, a, b) ∈ cells := by
 refine List.mem_flatMap.mpr ⟨q1, hq, List.mem_flatMap.mpr ⟨a, List.mem_range.mpr ha, List.mem_map.mpr ⟨b, ?_, rfl⟩⟩⟩
 match b, hb with
 | 0, _ => exact .head _
 | 1, _ => exact .tail _ (.head _)
 | 2, _ => exact .tail _ (.tail _ (.head _))
theorem Qs_sz : Qs.all (fun q => decide (szP q <= 3)) = true := by decide +kernel
theorem sz3 (hq : q1 ∈ Qs) : szP q1 <= 3 := of_decide_eq_true (List.all_eq_true.mp Qs_sz _ hq)
theorem zgd {a b : Nat} {l : List PyData} (hq : q1 ∈ Qs) (ha : a < szP q1) (hb : b < 3) (h : ZL (G1 (m + 2)) K E l (f31 S nd vl so (b * szP q1 + a : Nat) (lp (.int q1.1)) (lp (.int q1.2)) (lp (.int (q1.1 + a))) (lp (.int (q1.1 + a)))) σ) : ZL (G1 (m + 2)) K E (.tuple [prD q1, .int (q1.1 + a)] :: l) (f31 S nd vl so b lx hx ox ix) σ :=
 z_cons.mpr (zai (a := (q1, a, b)) bf_z (zi3 hq ha hb) h)
theorem rd_1 {a : Nat} (hq : q1 ∈ Qs) (ha : a < szP q1) (h : need (zaA σ (.pd (.list ds)) (.pd (.int a))) fun z => K z σ) : G1 (m + 4) 28 [seT (arrD [prD q1] ds), pv (nIx [.int (q1.1 + a)])] σ K E := by
 rw [z_1]
 refine zgd (b := 0) hq ha (by decide) ?_
 rw [Nat.zero_mul, Nat.zero_add, zlr]
 exact h
theorem rd_2 {a b : Nat} (hq : q1 ∈ Qs) (ha : a < szP q1) (hq2 : q2 ∈ Qs) (hb : b < szP q2) (h : need (zaA σ (.pd (.list ds)) (.pd (.int (a * szP q2 + b : Nat)))) fun z => K z σ) : G1 (m + 4) 28 [seT (arrD [prD q1, prD q2] ds), pv (nIx [.int (q1.1 + a), .int (q2.1 + b)])] σ K E := by
 rw [z_2]
 refine zgd (b := 0) hq ha (by decide) ?_
 rw [Nat.zero_mul, Nat.zero_add]
 refine zgd (b := a) hq2 hb (Nat.lt_of_lt_of_le ha (sz3 hq)) ?_
 rw [zlr]
 exact h
noncomputable abbrev KA (G : zaa) (K : KV) (E : KE) : KS := fun f m' σ' => match f with
 | .next => evSs G gc1 (fn26.body.drop 3) m' σ' (retK K) E
 | f => retK K f m' σ'
noncomputable abbrev AL (G : zaa) (K : KV) (E : KE) (l : List PyData) (m : Fm) (σ : Hp) : Prop := forN (fun d m' σ' k => need (tgFm m' (.t [.n 4, .n 5]) d) fun m'' => evSs G gc1 a26 m'' σ' k E) (fun _ k => k) (KA G K E) l m σ
theorem a_0 : stp G 26 [pv (arrD (psD qs) ds)] σ K E = AL G K E (psD qs) (f26 (arrD (psD qs) ds) σ.length (.list [.list []]) none none none) (σ ++ [.list []]) := by kernel_rfl
theorem bf_a : ((gcs x y z).map fun c => evSs G gc1 a26 (f26 d n (.list c.2) (lp (.int c.1.1)) (lp (.int c.1.2)) none) σ KN E) = (gcs x y z).map fun c => KN .next (f26 d n (.list (grow c.1 c.2)) (lp (.int c.1.1)) (lp (.int c.1.2)) none) σ := by kernel_rfl
theorem a_cons {l its : List PyData} : AL G K E (prD q1 :: l) (f26 d n (.list its) lo hi none) σ = evSs G gc1 a26 (f26 d n (.list its) (lp (.int q1.1)) (lp (.int q1.2)) none) σ (fun f m' σ' => match f with | .ret v => KA G K E (.ret v) m' σ' | _ => AL G K E l m' σ') E := by kernel_rfl
noncomputable abbrev KB (G : zaa) (K : KV) (E : KE) : KS := fun f m' σ' => match f with
 | .next => evSs G gc1 (fn26.body.drop 4) m' σ' (retK K) E
 | f => retK K f m' σ'
noncomputable abbrev BL (G : zaa) (K : KV) (E : KE) (l : List PyData) (m : Fm) (σ : Hp) : Prop := forN (fun d m' σ' k => need (tgFm m' (.n 6) d) fun m'' => evSs G gc1 b26 m'' σ' k E) (fun _ k => k) (KB G K E) l m σ
theorem c_0 : evSs G gc1 (fn26.body.drop 3) (f26 d n (.list its) lo hi p) σ (retK K) E = BL G K E its (f26 d n (.list its) lo hi p) σ := by kernel_rfl
theorem c_1 : evSs G gc1 b26 (f26 d n z lo hi (lp (.list [x]))) σ KN E = when ((lstR σ (.ref n)).isSome = true) (G 28 [seT d, pv (nIx [x])] σ (fun v σ => evLM .append (.ref n) [v] σ (fun _ σ => KN .next (f26 d n z lo hi (lp (.list [x]))) σ)) E) := by kernel_rfl
theorem c_2 : evSs G gc1 b26 (f26 d n z lo hi (lp (.list [x, y]))) σ KN E = when ((lstR σ (.ref n)).isSome = true) (G 28 [seT d, pv (nIx [x, y])] σ (fun v σ => evLM .append (.ref n) [v] σ (fun _ σ => KN .next (f26 d n z lo hi (lp (.list [x, y]))) σ)) E) := by kernel_rfl
theorem zoD {f : Fm} : BL G K E [] f σ = KB G K E .next f σ := by kernel_rfl
theorem zm4 : BL G K E (x :: its) (f26 d n z lo hi p) σ = evSs G gc1 b26 (f26 d n z lo hi (lp x)) σ (fun f m' σ' => match f with | .ret v => KB G K E (.ret v) m' σ' | _ => BL G K E its m' σ') E := by kernel_rfl
theorem c_end {ps : List PyData} : evSs G gc1 (fn26.body.drop 4) (f26 (arrD ps ds) n z lo hi p) σ (retK K) E = zaX .repr [.ref n] σ (fun t σ => zaX .repr [.pd (.list ds)] σ (fun u σ => need (evOp .eq t u σ) fun x => K (.pd x) σ)) := by kernel_rfl
structure Sh (d : PyData) : Prop where
 able : d.showable = true
 deep : d.depth <= 64
 len : d.shown.length <= sizeLine
theorem zeF (h : Sh d) (k : K (.pd (.str d.shown)) σ) : zaX .repr [.pd d] σ K := zab rfl (zge ⟨h.able, h.deep, h.len⟩ k)
theorem znZ {a : Nat} {l : List PyData} (e : σ[a]? = some (.list l)) (h : Sh (.list l)) (k : K (.pd (.str (PyData.shown (.list l)))) σ) : zaX .repr [.ref a] σ K := zab (zku e) (zge ⟨h.able, h.deep, h.len⟩ k)
theorem zgF (x : Str) : sb x x = true := beq_self_eq_true _
theorem s_eq {t : Str} : evOp .eq (.pd (.str t)) (.pd (.str t)) σ = some (.bool true) := congrArg (fun b => some (PyData.bool b)) (zgF t)
def Reads (G : zaa) (d : PyData) (ds : List PyData) (pl : PyData) (k : Nat) : Prop := ∀ {A : Hp} {acc : List PyData} {z : PyData} {lo hi : Option Loc} {KN : KS} {E : KE}, acc.length < 100 -> k < ds.length -> ds.length <= 100 -> KN .next (f26 d A.length z lo hi (lp pl)) (A ++ [.list (acc ++ [(ds[k]?).getD .none])]) ->
 evSs G gc1 b26 (f26 d A.length z lo hi (lp pl)) (A ++ [.list acc]) KN E
theorem zgJ {k : Nat} (hk : k < ds.length) (hl : ds.length <= 100) : zaA σ (.pd (.list ds)) (.pd (.int k)) = some (.pd ((ds[k]?).getD .none)) :=
 zdj ((zhj (Int.natCast_nonneg k) (Int.ofNat_lt.mpr hk) (za8 hl (by decide))).trans (by rw [Int.toNat_natCast, List.getElem?_eq_getElem hk]; rfl))
theorem zkt {a : Nat} (hq : q1 ∈ Qs) (ha : a < szP q1) : Reads (G1 (m + 4)) (arrD [prD q1] ds) ds (.list [.int (q1.1 + a)]) a := fun hc hk hl h =>
 c_1.mpr (zah zbQ (rd_1 hq ha (zab (zgJ hk hl) (zc9 (Nat.lt_of_lt_of_le hc (by decide)) h))))
theorem zks {a b : Nat} (hq : q1 ∈ Qs) (ha : a < szP q1) (hq2 : q2 ∈ Qs) (hb : b < szP q2) : Reads (G1 (m + 4)) (arrD [prD q1, prD q2] ds) ds (.list [.int (q1.1 + a), .int (q2.1 + b)]) (a * szP q2 + b) := fun hc hk hl h =>
 c_2.mpr (zah zbQ (rd_2 hq ha hq2 hb (zab (zgJ hk hl) (zc9 (Nat.lt_of_lt_of_le hc (by decide)) h))))
theorem zm3 (hl : ds.length <= 100) (l : List (PyData × Nat)) : ∀ (acc : List PyData) (p : Option Loc), (∀ c ∈ l, Reads G d ds c.1 c.2 /\ c.2 < ds.length) -> acc.length + l.length <= 90 -> (∀ p, KB G K E .next (f26 d A.length z lo hi p) (A ++ [.list (acc ++ l.map fun c => (ds[c.2]?).getD .none)])) -> BL G K E (l.map (·.1)) (f26 d A.length z lo hi p) (A ++ [.list acc]) := by
 induction l with
 | nil =>
  intro acc p _ _ h
  have h := h p
  rw [List.map_nil, List.append_nil] at h
  rw [List.map_nil, zoD]
  exact h
 | cons c r ih =>
  intro acc p hr hc h
  obtain ⟨⟨h1, h3⟩, h2⟩ := List.forall_mem_cons.mp hr
  rw [List.length_cons] at hc
  rw [List.map_cons, zm4]
  refine h1 (Nat.lt_of_le_of_lt (Nat.le_trans (Nat.le_add_right _ _) hc) (by decide)) h3 hl ?_
  refine ih _ _ h2 (acc1 hc) ?_
  rw [app1]; exact h
theorem zf5 : (List.range ds.length).map (fun k => (ds[k]?).getD .none) = ds := by
 refine List.ext_getElem? fun k => ?_
 rw [List.getElem?_map]
 by_cases h : k < ds.length
 ·rw [List.getElem?_range h]
  show some ((ds[k]?).getD .none) = ds[k]?
  rw [List.getElem?_eq_getElem h]; rfl
 ·rw [List.getElem?_eq_none (Nat.le_of_not_lt h), List.getElem?_eq_none (by rw [List.length_range]; exact Nat.le_of_not_lt h)]; rfl
theorem zm5 {l : List (PyData × Nat)} {ps : List PyData} (hr : ∀ c ∈ l, Reads G (arrD ps ds) ds c.1 c.2) (hn : l.map (·.2) = List.range ds.length) (hl : ds.length <= 30) (sh : Sh (.list ds)) (h : K (.pd (.bool true)) (A ++ [.list ds])) :
  evSs G gc1 (fn26.body.drop 3) (f26 (arrD ps ds) A.length (.list (l.map (·.1))) lo hi p) (A ++ [.list []]) (retK K) E := by
 have ll : l.length = ds.length := by have := congrArg List.length hn; rwa [List.length_map, List.length_range] at this
 have e : (l.map fun c => (ds[c.2]?).getD .none) = ds := by
  have : (l.map (·.2)).map (fun k => (ds[k]?).getD .none) = ds := by rw [hn]; exact zf5
  rwa [List.map_map] at this
 refine c_0.mpr (zm3 (Nat.le_trans hl (by decide)) l [] p (fun c hc => ⟨hr c hc, List.mem_range.mp (hn ▸ List.mem_map.mpr ⟨c, hc, rfl⟩)⟩) (by rw [List.length_nil, Nat.zero_add, ll]; exact Nat.le_trans hl (by decide)) fun p => ?_)
 rw [e, List.nil_append]
 exact c_end.mpr (znZ gP sh (zeF sh (zab s_eq h)))
theorem zmM : grow q1 [.list []] = (List.range (szP q1)).map fun (k : Nat) => PyData.list [.int (q1.1 + (k : Int))] := List.append_nil _
theorem zoi {f : Nat -> PyData} {n : Nat} : grow q2 ((List.range n).map fun k => PyData.list [f k]) = (List.range n).flatMap fun a => (List.range (szP q2)).map fun (b : Nat) => PyData.list [f a, .int (q2.1 + (b : Int))] := List.flatMap_map ..
theorem zmI {f : Nat -> PyData} : ∀ {n : Nat}, n <= 3 -> q2 ∈ Qs -> (q2, (List.range n).map fun k => PyData.list [f k]) ∈ gcs (f 0) (f 1) (f 2)
 | 0, _, h => List.mem_flatMap.mpr ⟨q2, h, List.mem_map.mpr ⟨_, .tail _ (.head _), rfl⟩⟩
 | 1, _, h => List.mem_flatMap.mpr ⟨q2, h, List.mem_map.mpr ⟨_, .tail _ (.tail _ (.head _)), rfl⟩⟩
 | 2, _, h => List.mem_flatMap.mpr ⟨q2, h, List.mem_map.mpr ⟨_, .tail _ (.tail _ (.tail _ (.head _))), rfl⟩⟩
 | 3, _, h => List.mem_flatMap.mpr ⟨q2, h, List.mem_map.mpr ⟨_, .tail _ (.tail _ (.tail _ (.tail _ (.head _)))), rfl⟩⟩
 | n + 4, q, _ => absurd q (Nat.not_le_of_lt (Nat.le_add_left _ _))
theorem zhi {x y z : PyData} (h : q1 ∈ Qs) : (q1, [PyData.list []]) ∈ gcs x y z := List.mem_flatMap.mpr ⟨q1, h, List.mem_map.mpr ⟨_, .head _, rfl⟩⟩
theorem zh5 {x y z : PyData} {l its : List PyData} (hc : (q1, its) ∈ gcs x y z) (h : AL G K E l (f26 d n (.list (grow q1 its)) (lp (.int q1.1)) (lp (.int q1.2)) none) σ) : AL G K E (prD q1 :: l) (f26 d n (.list its) lo hi none) σ :=
 a_cons.mpr (zai (a := (q1, its)) (bf_a (KN := fun f m' σ' => match f with | .ret v => KA G K E (.ret v) m' σ' | _ => AL G K E l m' σ')) hc h)
theorem zeK : ∀ a < 4, ∀ b < 4, ((List.range a).flatMap fun x => (List.range b).map fun y => x * b + y) = List.range (a * b) := by decide
theorem zj9 (hq : q1 ∈ Qs) (hn : ds.length = szP q1) (sh : Sh (.list ds)) (h : ∀ τ, K (.pd (.bool true)) (σ ++ τ)) : G1 (m + 5) 26 [pv (arrD [prD q1] ds)] σ K E := by
 have hl : ds.length <= 30 := hn ▸ Nat.le_trans (sz3 hq) (by decide)
 refine zaZ (m + 4) _ _ _ _ _ ((a_0 (qs := [q1])).mpr (zh5 (x := .none) (y := .none) (z := .none) (zhi hq) ?_))
 rw [zmM]
 have c := zm5 (G := G1 (m + 4)) (A := σ) (K := K) (E := E) (lo := lp (.int q1.1)) (hi := lp (.int q1.2)) (p := none) (ps := [prD q1]) (ds := ds) (l := (List.range (szP q1)).map fun (k : Nat) => (PyData.list [.int (q1.1 + (k : Int))], k)) (fun c hc => by
  obtain ⟨a, ha, rfl⟩ := List.mem_map.mp hc
  exact zkt hq (List.mem_range.mp ha)) (by rw [List.map_map, hn]; exact List.map_id _) hl sh (h _)
 rw [List.map_map] at c
 exact c
theorem zj8 (hq : q1 ∈ Qs) (hq2 : q2 ∈ Qs) (hn : ds.length = szP q1 * szP q2) (sh : Sh (.list ds)) (h : ∀ τ, K (.pd (.bool true)) (σ ++ τ)) : G1 (m + 5) 26 [pv (arrD [prD q1, prD q2] ds)] σ K E := by
 have hl : ds.length <= 30 := hn ▸ Nat.le_trans (Nat.mul_le_mul (sz3 hq) (sz3 hq2)) (by decide)
 refine zaZ (m + 4) _ _ _ _ _ ((a_0 (qs := [q1, q2])).mpr (zh5 (x := .none) (y := .none) (z := .none) (zhi hq) ?_))
 rw [zmM]
 refine zh5 (zmI (f := fun (k : Nat) => .int (q1.1 + (k : Int))) (sz3 hq) hq2) ?_
 rw [zoi]
 have c := zm5 (G := G1 (m + 4)) (A := σ) (K := K) (E := E) (lo := lp (.int q2.1)) (hi := lp (.int q2.2)) (p := none) (ps := [prD q1, prD q2]) (ds := ds) (l := (List.range (szP q1)).flatMap fun (a : Nat) => (List.range (szP q2)).map fun (b : Nat) => (PyData.list [.int (q1.1 + (a : Int)), .int (q2.1 + (b : Int))], a * szP q2 + b)) (fun c hc => by
  obtain ⟨a, ha, hc⟩ := List.mem_flatMap.mp hc
  obtain ⟨b, hb, rfl⟩ := List.mem_map.mp hc
  exact zks hq (List.mem_range.mp ha) hq2 (List.mem_range.mp hb)) (by
   rw [List.map_flatMap, hn, ← zeK _ (Nat.lt_succ_of_le (sz3 hq)) _ (Nat.lt_succ_of_le (sz3 hq2))]
   exact congrArg (fun f => List.flatMap f _) (funext fun a => List.map_map ..)) hl sh (h _)
 rw [List.map_flatMap] at c
 have e : (fun a : Nat => ((List.range (szP q2)).map fun (b : Nat) => (PyData.list [.int (q1.1 + (a : Int)), .int (q2.1 + (b : Int))], a * szP q2 + b)).map (·.1)) = fun a : Nat => (List.range (szP q2)).map fun (b : Nat) => PyData.list [.int (q1.1 + (a : Int)), .int (q2.1 + (b : Int))] := funext fun a => List.map_map ..
 rw [e] at c
 exact c
end
noncomputable def sk (cs : List Int) (k : Int) : O := .dict [(⟨#[99,101,108,108,115]⟩, .pd (.list (cs.map .int))), (⟨#[107]⟩, .pd (.int k))]
noncomputable abbrev r0 : Loc := .v (.ref 0)
structure Bu (cs : List Int) (k : Int) (b : Nat) : Prop where
 c : cs.length <= 60
 k0 : 0 <= k
 kb : k + b <= 20000
noncomputable def below (n : Nat) : List Int := (List.range n).map fun (k : Nat) => (k : Int)
theorem zbq {r : Int} {n : Nat} (h0 : 0 <= r) (h : r < n) : r ∈ below n := List.mem_map.mpr ⟨r.toNat, List.mem_range.mpr ((Int.toNat_lt h0).mpr h), Int.toNat_of_nonneg h0⟩
noncomputable def ans (v : V) (σ' : Hp) : zaa := fun _ _ _ K _ => K v σ'
section
variable {cs : List Int} {k : Int} {b c n : Nat} {σ σ' τ : Hp} {K : KV} {E : KE} {G H : zaa} {v : V}
theorem leD {n : Int} {b c : Nat} (q : b <= c) (h : n + c <= 20000) : n + b <= 20000 := Int.le_trans (Int.add_le_add_left (Int.ofNat_le.mpr q) n) h
theorem leS {n : Int} {b : Nat} (h : n + (b + 1 : Nat) <= 20000) : n + 1 + b <= 20000 := by rw [Int.add_right_comm, Int.add_assoc]; exact h
theorem Bu.draw (h : Bu cs k (b + 1)) : Bu cs (k + 1) b := ⟨h.c, Int.le_add_one h.k0, leS h.kb⟩
theorem Bu.le (h : Bu cs k c) (q : b <= c) : Bu cs k b := ⟨h.c, h.k0, leD q h.kb⟩
theorem zie {σ : Hp} (h0 : 0 <= k) (h1 : k < (cs.map PyData.int).length) (hl : cs.length <= 60) : ∃ c, zaA σ (.pd (.list (cs.map .int))) (.pd (.int k)) = some (.pd (.int c)) := by
 have hj : k.toNat < cs.length := (Int.toNat_lt h0).mpr (List.length_map PyData.int ▸ h1)
 exact ⟨cs[k.toNat], zdj ((zhj h0 h1 (za8 (m := 60) (by rw [List.length_map]; exact hl) (by decide))).trans (by rw [List.getElem?_map, List.getElem?_eq_getElem hj]; rfl))⟩
theorem draw {m : Nat} {many : Nat} (hm : 0 < many) (q : Bu cs k (b + 1)) (h : ∀ r ∈ below many, Bu cs (k + 1) b -> K (.pd (.int r)) (sk cs (k + 1) :: τ)) : G1 (m + 1) 16 [r0, iv many] (sk cs k :: τ) K E := by
 have hm' : (0 : Int) < many := Int.ofNat_lt.mpr hm
 have hl : (cs.map PyData.int).length <= sizeLine := za8 (m := 60) (by rw [List.length_map]; exact q.c) (by decide)
 have fin : ∀ i : Int, K (.pd (.int (Int.emod i many))) (sk cs (k + 1) :: τ) := fun i => h _ (zbq (Int.emod_nonneg _ (Int.ne_of_gt hm')) (Int.emod_lt_of_pos _ hm')) q.draw
 have md : ∀ i : Int, modP (.int i) (.int many) = some (.int (Int.emod i many)) := fun i => gd_i hm'
 refine zaZ m _ _ _ _ _ (Eq.mpr (by kernel_rfl : _ = when ((cs.map PyData.int).length <= sizeLine) (brn (decide (k < (cs.map PyData.int).length)) (need (zaA (sk cs (k + 1) :: τ) (.pd (.list (cs.map .int))) (.pd (.int k))) fun z => need (evOp .mod z (.pd (.int many)) (sk cs (k + 1) :: τ)) fun d => K (.pd d) (sk cs (k + 1) :: τ))
  (need (mulP (.int (6 * k)) (.int k)) fun a => need (addP a (.int (5 * k))) fun b => when ((cs.map PyData.int).length <= sizeLine) (need (addP b (.int (3 * (cs.map PyData.int).length))) fun c => need (addP c (.int 1)) fun d => need (modP d (.int 83)) fun e => need (modP e (.int many)) fun f => K (.pd f) (sk cs (k + 1) :: τ))))) (zah hl ?_))
 cases e : decide (k < (cs.map PyData.int).length) with
 | true =>
  obtain ⟨c, hc⟩ := zie (σ := sk cs (k + 1) :: τ) q.k0 (of_decide_eq_true e) q.c
  exact zab hc (zab (md c) (fin c))
 | false =>
  have := q.k0
  have := q.kb
  exact zab (gd_i (by omega)) (zab rfl (zah hl (zab rfl (zab rfl (zab rfl (zab (md _) (fin _)))))))
noncomputable abbrev f18 (w : Int) : Fm := [some r0, lp (.int w), none]
noncomputable abbrev T18 (G : zaa) (w : Int) (K : KV) (E : KE) (σ : Hp) : Prop := evSs G gc1 (fn18.body.drop 1) (f18 w) σ (retK K) E
theorem m_0 : stp G 18 [r0] σ K E = G 16 [r0, iv 8] σ (fun v σ => evSs G gc1 (fn18.body.drop 1) [some r0, some (.v v), none] σ (retK K) E) E := by kernel_rfl
noncomputable def mA : List (Int × Dm) := ([0, 1, 2] : List Int).map (fun w => (w, ⟨.none, .ok ⟨none, .none, .none⟩⟩)) ++ [(6, ⟨dSet, .ok (mkB [0, 1, 2, 3] [(0, 3)])⟩)]
theorem bf_mA : (mA.map fun c => T18 G c.1 K E σ) = mA.map fun c => K (.pd c.2.d) σ := by kernel_rfl
noncomputable def mB : List (Int × Nat) := [(3, 2), (4, 2), (5, 2), (7, 4)]
theorem bf_mB : (mB.map fun c => T18 G c.1 K E σ) = mB.map fun c => G 16 [r0, iv c.2] σ (fun v σ' => T18 (ans v σ') c.1 K E σ) E := by kernel_rfl
noncomputable def mC : List ((Int × Int) × Dm) := [((3, 0), ⟨nRng 21 (nLit 22 0) hi4, .ok (mkB [0, 1, 2, 3, 4] [(0, 4)])⟩), ((3, 1), ⟨nRng 21 (nLit 22 (-1)) hi4, .ok (mkB [-1, 0, 1, 2, 3, 4] [(-1, 4)])⟩), ((4, 0), ⟨nRng 21 (nLit 22 0) hi4, .ok (mkB [0, 1, 2, 3, 4] [(0, 4)])⟩), ((4, 1), ⟨nRng 21 (nLit 22 (-1)) hi4, .ok (mkB [-1, 0, 1, 2, 3, 4] [(-1, 4)])⟩),
 ((5, 0), ⟨nRng 21 (nLit 22 0) hiT, .ok (mkB [0, 1] [(0, 1)])⟩), ((5, 1), ⟨nRng 21 (nLit 22 (-1)) hiT, .ok (mkB [-1, 0, 1] [(-1, 1)])⟩), ((7, 0), ⟨zbG 27 nT, .ok (mkB [-1, 0, 1] [(-1, 1)])⟩), ((7, 1), ⟨zbG 27 nP, .ok (mkB [0, 2, 5] [(0, 0), (2, 2), (5, 5)])⟩), ((7, 2), ⟨zbG 27 nZ, .bad wNo 27⟩), ((7, 3), ⟨zbG 27 nN, .bad wSet 27⟩)]
theorem bf_mC : (mC.map fun c => T18 (ans (.pd (.int c.1.2)) σ') c.1.1 K E σ) = mC.map fun c => K (.pd c.2.d) σ' := by kernel_rfl
theorem zmu : ∀ c ∈ mA, c.2 ∈ domA := by
 intro c hc
 have hc : c ∈ [_, _, _, _] := hc
 simp only [List.mem_cons, List.not_mem_nil, or_false] at hc
 rcases hc with rfl | rfl | rfl | rfl
 ·exact .head _
 ·exact .head _
 ·exact .head _
 ·exact .tail _ (List.mem_append_right _ (.head _))
theorem zmt : ∀ c ∈ mC, c.2 ∈ domA := by
 intro c hc
 have hc : c ∈ [_, _, _, _, _, _, _, _, _, _] := hc
 have d1 : ∀ {D}, D ∈ doms1 -> D ∈ domA := fun h => .tail _ (List.mem_append_left _ h)
 have d2 : ∀ {D}, D ∈ doms2.map (·.1) -> D ∈ domA := fun h => .tail _ (List.mem_append_right _ h)
 simp only [List.mem_cons, List.not_mem_nil, or_false] at hc
 rcases hc with rfl | rfl | rfl | rfl | rfl | rfl | rfl | rfl | rfl | rfl
 ·exact d1 (.head _)
 ·exact d1 (.tail _ (.head _))
 ·exact d1 (.head _)
 ·exact d1 (.tail _ (.head _))
 ·exact d1 (.tail _ (.tail _ (.head _)))
 ·exact d1 (.tail _ (.tail _ (.tail _ (.head _))))
 ·exact d2 (.tail _ (.head _))
 ·exact d2 (.tail _ (.tail _ (.head _)))
 ·exact d1 (.tail _ (.tail _ (.tail _ (.tail _ (.head _)))))
 ·exact d1 (.tail _ (.tail _ (.tail _ (.tail _ (.tail _ (.head _))))))
theorem cov8 : (below 8).all (fun w => (mA.map (·.1)).contains w || (mB.map (·.1)).contains w) = true := by decide +kernel
theorem covB : mB.all (fun c => (below c.2).all fun r => (mC.map (·.1)).contains (c.1, r)) = true := by decide +kernel
theorem posB : mB.all (fun c => decide (0 < c.2)) = true := by decide +kernel
theorem zmY {m : Nat} (B : Bu cs k (b + 2)) (h : ∀ D ∈ domA, ∀ k', Bu cs k' b -> K (.pd D.d) (sk cs k' :: τ)) : G1 (m + 2) 18 [r0] (sk cs k :: τ) K E := by
 refine zaZ (m + 1) _ _ _ _ _ (m_0.mpr (draw (many := 8) (by decide) B fun w hw B => ?_))
 rcases Bool.or_eq_true_iff.mp (List.all_eq_true.mp cov8 w hw) with q | q
 ·obtain ⟨c, hc, rfl⟩ := List.mem_map.mp (List.contains_iff_mem.mp q)
  exact zai bf_mA hc (h _ (zmu c hc) _ (B.le (Nat.le_succ _)))
 ·obtain ⟨c, hc, rfl⟩ := List.mem_map.mp (List.contains_iff_mem.mp q)
  refine zai bf_mB hc (draw (of_decide_eq_true (List.all_eq_true.mp posB c hc)) B fun r hr B => ?_)
  obtain ⟨d, hd, e⟩ := List.mem_map.mp (List.contains_iff_mem.mp (List.all_eq_true.mp (List.all_eq_true.mp covB c hc) r hr))
  have e1 : d.1.1 = c.1 := congrArg Prod.fst e
  have e2 : d.1.2 = r := congrArg Prod.snd e
  rw [← e1, ← e2]
  exact zai bf_mC hd (h _ (zmt d hd) _ B)
noncomputable abbrev T17 (G : zaa) (w lo n : Int) (K : KV) (E : KE) (σ : Hp) : Prop := evSs G gc1 (fn17.body.drop 1) [some r0, lp (.int n), lp (.int w), lp (.int lo), none, none, none, none, none] σ (retK K) E
variable {lo r w i : Int}
theorem n_0 : stp G 17 [r0, iv i] σ K E = G 16 [r0, iv 12] σ (fun v σ => G 16 [r0, iv 7] σ (fun u σ => need (evOp .sub u (.pd (.int 3)) σ) fun d => evSs G gc1 (fn17.body.drop 1) [some r0, lp (.int i), some (.v v), lp d, none, none, none, none, none] σ (retK K) E) E) E := by kernel_rfl
theorem bf_n1 : (([0, 1] : List Int).map fun w => T17 G w lo i K E σ) = ([0, 1] : List Int).map fun _ => K (.pd dAny) σ := by kernel_rfl
theorem bf_n2 : (([2, 3, 4, 5, 6] : List Int).map fun w => T17 G w lo i K E σ) = ([2, 3, 4, 5, 6] : List Int).map fun _ => K (.pd (dR11 lo (lo + i - 1))) σ := by kernel_rfl
theorem n_3 : T17 G 7 lo i K E σ = G 16 [r0, iv 2] σ (fun v σ' => T17 (ans v σ') 7 lo i K E σ) E := by kernel_rfl
theorem n_4 : T17 (ans (.pd (.int r)) σ') 7 lo i K E σ = K (.pd (dR14 lo (lo + i - 2 + 2 * r))) σ' := by kernel_rfl
noncomputable def n4 : List (Int × Nat) := [(0, 0), (1, 1), (2, 2), (3, 3)]
noncomputable def nB : List (Int × Int × Nat) := lows.flatMap fun lo => n4.map fun c => (lo, c.1, c.2)
theorem bf_n5 : (nB.map fun c => T17 G 8 c.1 c.2.1 K E σ) = nB.map fun c => K (.pd (dS (zbP c.1 c.2.2 0))) σ := by kernel_rfl
theorem bf_n6 : (nB.map fun c => T17 G 9 c.1 c.2.1 K E σ) = nB.map fun c => K (.pd (dS (zbP c.1 c.2.2 1))) σ := by kernel_rfl
theorem zi0 : ∀ {n : Nat}, n < 4 -> ((n : Int), n) ∈ n4
 | 0, _ => .head _
 | 1, _ => .tail _ (.head _)
 | 2, _ => .tail _ (.tail _ (.head _))
 | 3, _ => .tail _ (.tail _ (.tail _ (.head _)))
 | n + 4, h => absurd h (Nat.not_lt_of_le (Nat.le_add_left _ _))
theorem zmH {n : Nat} (hl : lo ∈ lows) (h : n < 4) : (lo, (n : Int), n) ∈ nB := List.mem_flatMap.mpr ⟨lo, hl, List.mem_map.mpr ⟨_, zi0 h, rfl⟩⟩
theorem n5_0 {n : Nat} (hl : lo ∈ lows) (h : n < 4) : T17 G 8 lo n K E σ = K (.pd (dS (zbP lo n 0))) σ := by
 have e := List.map_inj_left.mp (bf_n5 (G := G) (K := K) (E := E) (σ := σ)) _ (zmH hl h)
 exact e
theorem n5_1 {n : Nat} (hl : lo ∈ lows) (h : n < 4) : T17 G 9 lo n K E σ = K (.pd (dS (zbP lo n 1))) σ := by
 have e := List.map_inj_left.mp (bf_n6 (G := G) (K := K) (E := E) (σ := σ)) _ (zmH hl h)
 exact e
theorem bf_n7 : (([10, 11] : List Int).map fun w => T17 G w lo i K E σ) = ([10, 11] : List Int).map fun w => G 16 [r0, iv 4] σ (fun v σ' => T17 (ans v σ') w lo i K E σ) E := by kernel_rfl
noncomputable def nC : List ((Int × Int) × Dd) := ([10, 11] : List Int).flatMap fun w => ((below 4).zip DN).map fun c => ((w, c.1), c.2)
theorem bf_n8 : (nC.map fun c => T17 (ans (.pd (.int c.1.2)) σ') c.1.1 lo i K E σ) = nC.map fun c => K (.pd c.2.d) σ' := by kernel_rfl
def OkO (o : Option Dd) : Prop := ∀ D, o = some D -> D ∈ dims
theorem OkO.it {o : Option Dd} (h : OkO o) {p : Pr} (hp : p ∈ los) : It.Ok ⟨o, p⟩ := by
 cases o with
 | none => exact .any hp
 | some D => exact .some (h D rfl) hp
theorem oks {D : Dd} (h : D ∈ dims) : OkO (some D) := fun _ e => Option.some.inj e ▸ h
theorem zox : (below 12).all (fun w => ([0, 1] : List Int).contains w || (([2, 3, 4, 5, 6] : List Int).contains w || (w == 7 || (w == 8 || (w == 9 || ([10, 11] : List Int).contains w))))) = true := by decide +kernel
theorem covN : (([10, 11] : List Int).all fun w => (below 4).all fun r => (nC.map (·.1)).contains (w, r)) = true := by decide +kernel
theorem zmo : ∀ c ∈ nC, c.2 ∈ dims := by
 intro c hc
 obtain ⟨w, _, hc⟩ := List.mem_flatMap.mp hc
 obtain ⟨e, he, rfl⟩ := List.mem_map.mp hc
 exact List.mem_append_right _ (List.mem_append_right _ (List.mem_append_right _ (List.of_mem_zip he).2))
theorem zmy (h : r ∈ below 7) : r - 3 ∈ lows := by
 have h : r - 3 ∈ (below 7).map (· - 3) := List.mem_map.mpr ⟨r, h, rfl⟩
 exact h
theorem in4 {n : Nat} (h : n < 4) : (n : Int) ∈ ([0, 1, 2, 3] : List Int) := List.mem_map.mpr ⟨n, List.mem_range.mpr h, rfl⟩
theorem zjP {m : Nat} (hn : n < 4) (B : Bu cs k (b + 3)) (h : ∀ o, OkO o -> ∀ k', Bu cs k' b -> K (.pd (It.d ⟨o, (0, 0)⟩)) (sk cs k' :: τ)) : G1 (m + 2) 17 [r0, iv n] (sk cs k :: τ) K E := by
 refine zaZ (m + 1) _ _ _ _ _ (n_0.mpr (draw (many := 12) (by decide) B fun w hw B => draw (many := 7) (by decide) B fun r hr B => zab (a := .int (r - 3)) rfl ?_))
 have hl := zmy hr
 generalize r - 3 = lo at hl ⊢
 have B1 := B.le (Nat.le_succ b)
 rcases Bool.or_eq_true_iff.mp (List.all_eq_true.mp zox w hw) with q | q
 ·exact zai bf_n1 (List.contains_iff_mem.mp q) (h none (fun _ e => nomatch e) _ B1)
 rcases Bool.or_eq_true_iff.mp q with q | q
 ·exact zai bf_n2 (List.contains_iff_mem.mp q) (h (some ⟨dR11 lo (lo + n - 1), .ls (rI lo (lo + n - 1))⟩) (oks (List.mem_append_left _ (List.mem_flatMap.mpr ⟨lo, hl, List.mem_map.mpr ⟨n, in4 hn, rfl⟩⟩))) _ B1)
 rcases Bool.or_eq_true_iff.mp q with q | q
 ·have q := eq_of_beq q
  subst q
  refine n_3.mpr (draw (many := 2) (by decide) B fun r hr B => n_4.mpr ?_)
  have e : lo + (n : Int) - 2 + 2 * r = lo + ((n : Int) - 2 + 2 * r) := by omega
  rw [e]
  have hk : (n : Int) - 2 + 2 * r ∈ ([-2, -1, 0, 1, 2, 3] : List Int) := by
   have : ((List.range 4).all fun (n : Nat) => (below 2).all fun r => ([-2, -1, 0, 1, 2, 3] : List Int).contains ((n : Int) - 2 + 2 * r)) = true := by decide +kernel
   exact List.contains_iff_mem.mp (List.all_eq_true.mp (List.all_eq_true.mp this n (List.mem_range.mpr hn)) r hr)
  exact h (some ⟨dR14 lo (lo + ((n : Int) - 2 + 2 * r)), .ls (rI lo (lo + ((n : Int) - 2 + 2 * r)))⟩) (oks (List.mem_append_right _ (List.mem_append_left _ (List.mem_flatMap.mpr ⟨lo, hl, List.mem_map.mpr ⟨_, hk, rfl⟩⟩)))) _ B
 rcases Bool.or_eq_true_iff.mp q with q | q
 ·have q := eq_of_beq q
  subst q
  have hh : K (.pd (dS (zbP lo n 0))) (sk cs (k + 1 + 1) :: τ) := h (some ⟨dS (zbP lo n 0), .ls (zbP lo n 0)⟩) (oks (List.mem_append_right _ (List.mem_append_right _ (List.mem_append_left _ (List.mem_flatMap.mpr ⟨lo, hl, List.mem_flatMap.mpr ⟨n, List.mem_range.mpr hn, .head _⟩⟩))))) _ B1
  show T17 (G1 (m + 1)) 8 lo n K E _
  rw [n5_0 hl hn]
  exact hh
 rcases Bool.or_eq_true_iff.mp q with q | q
 ·have q := eq_of_beq q
  subst q
  have hh : K (.pd (dS (zbP lo n 1))) (sk cs (k + 1 + 1) :: τ) := h (some ⟨dS (zbP lo n 1), .ls (zbP lo n 1)⟩) (oks (List.mem_append_right _ (List.mem_append_right _ (List.mem_append_left _ (List.mem_flatMap.mpr ⟨lo, hl, List.mem_flatMap.mpr ⟨n, List.mem_range.mpr hn, .tail _ (.head _)⟩⟩))))) _ B1
  show T17 (G1 (m + 1)) 9 lo n K E _
  rw [n5_1 hl hn]
  exact hh
 ·have q := List.contains_iff_mem.mp q
  refine zai bf_n7 q (draw (many := 4) (by decide) B fun r hr B => ?_)
  obtain ⟨d, hd, e⟩ := List.mem_map.mp (List.contains_iff_mem.mp (List.all_eq_true.mp (List.all_eq_true.mp covN w q) r hr))
  have e1 : d.1.1 = w := congrArg Prod.fst e
  have e2 : d.1.2 = r := congrArg Prod.snd e
  rw [← e1, ← e2]
  exact zai bf_n8 hd (h (some d.2) (oks (zmo d hd)) _ B)
noncomputable abbrev T19 (G : zaa) (k : Kn) (w : Int) (K : KV) (E : KE) (σ : Hp) : Prop := evSs G gc1 (fn19.body.drop 1) [some r0, lp (.str k.w), lp (.int w), none, none] σ (retK K) E
variable {kn : Kn}
theorem u_0 : stp G 19 [r0, pv (.str kn.w)] σ K E = G 16 [r0, iv 11] σ (fun v σ => evSs G gc1 (fn19.body.drop 1) [some r0, lp (.str kn.w), some (.v v), none, none] σ (retK K) E) E := by kernel_rfl
noncomputable def thI : Kn -> List Nat
 | .int => [0, 1, 2, 3, 4, 0, 1, 2, 5, 6]
 | .bool => [5, 6, 5, 6, 5, 6, 5, 6, 5, 6]
 | .str => [8, 9, 10, 11, 12, 13, 14, 15, 16, 17]
 | .set => [18, 19, 20, 21, 22, 18, 19, 20, 21, 22]
noncomputable def thT (i : Nat) : Vl := (things[i]?).getD (.num 0)
theorem zjx (i : Nat) : thT i ∈ things := by
 unfold thT
 cases e : things[i]? with
 | none => exact .head _
 | some u => exact List.mem_of_getElem? e
noncomputable def uA : List (Kn × Int × Nat) := kns.flatMap fun k => ((below 10).zip (thI k)).map fun c => (k, c.1, c.2)
theorem zoK : (uA.map fun c => T19 G c.1 c.2.1 K E σ) = uA.map fun c => K (.pd (thT c.2.2).d) σ := by kernel_rfl
theorem zoJ : (kns.map fun k => T19 G k 10 K E σ) = kns.map fun k => G 16 [r0, iv 4] σ (fun v σ' => T19 (ans v σ') k 10 K E σ) E := by kernel_rfl
noncomputable def uC : List (Kn × Int × Nat) := kns.flatMap fun k => ([(0, 3), (1, 5), (2, 7), (3, 23)] : List (Int × Nat)).map fun c => (k, c.1, c.2)
theorem zoI : (uC.map fun c => T19 (ans (.pd (.int c.2.1)) σ') c.1 10 K E σ) = uC.map fun c => K (.pd (thT c.2.2).d) σ' := by kernel_rfl
theorem zhh (k : Kn) : k ∈ kns := by cases k; exact .head _; exact .tail _ (.head _); exact .tail _ (.tail _ (.head _)); exact .tail _ (.tail _ (.tail _ (.head _)))
theorem zoh (k : Kn) {r : Int} (hr : r ∈ below 10) : ∃ j, (k, r, j) ∈ uA := by
 have : ∀ k : Kn, ((below 10).zip (thI k)).map (·.1) = below 10 := fun k => by cases k <;> decide +kernel
 obtain ⟨c, hc, rfl⟩ := List.mem_map.mp ((this k).symm ▸ hr)
 exact ⟨c.2, List.mem_flatMap.mpr ⟨k, zhh k, List.mem_map.mpr ⟨c, hc, rfl⟩⟩⟩
theorem zog (k : Kn) {r : Int} (hr : r ∈ below 4) : ∃ j, (k, r, j) ∈ uC := by
 have hr : r ∈ ([(0, 3), (1, 5), (2, 7), (3, 23)] : List (Int × Nat)).map (·.1) := hr
 obtain ⟨c, hc, rfl⟩ := List.mem_map.mp hr
 exact ⟨c.2, List.mem_flatMap.mpr ⟨k, zhh k, List.mem_map.mpr ⟨c, hc, rfl⟩⟩⟩
theorem zoy : (below 11).all (fun w => (below 10).contains w || w == 10) = true := by decide +kernel
theorem zlF {m : Nat} (B : Bu cs k (b + 2)) (h : ∀ u ∈ things, ∀ k', Bu cs k' b -> K (.pd u.d) (sk cs k' :: τ)) : G1 (m + 2) 19 [r0, pv (.str kn.w)] (sk cs k :: τ) K E := by
 refine zaZ (m + 1) _ _ _ _ _ (u_0.mpr (draw (many := 11) (by decide) B fun w hw B => ?_))
 rcases Bool.or_eq_true_iff.mp (List.all_eq_true.mp zoy w hw) with q | q
 ·obtain ⟨j, hj⟩ := zoh kn (List.contains_iff_mem.mp q)
  exact zai (a := (kn, w, j)) zoK hj (h _ (zjx j) _ (B.le (Nat.le_succ _)))
 ·have q := eq_of_beq q
  subst q
  refine zai zoJ (zhh kn) (draw (many := 4) (by decide) B fun r hr B => ?_)
  obtain ⟨j, hj⟩ := zog kn hr
  exact zai (a := (kn, r, j)) zoI hj (h _ (zjx j) _ B)
end
noncomputable abbrev f20 (kn : Kn) (i : Int) (way wide rg lap low sizes whole : Option Loc) : Fm := [some r0, lp (.str kn.w), lp (.int i), way, wide, rg, lap, low, sizes, whole, none, none, none, none]
noncomputable def b20 : List Mine.Lake.S := match fn20.body with
 | _ :: _ :: _ :: _ :: .for _ _ b :: _ => b
 | _ => []
noncomputable def e8 : Mine.Lake.X := match fn20.body with
 | _ :: _ :: _ :: _ :: _ :: .asg _ (.comp _ e _ _ _) :: _ => e
 | _ => .c .none
structure VK (cs : List Int) (b : Nat) (K : KV) : Prop where
 t : ∀ u ∈ things, ∀ k τ, Bu cs k b -> K (.pd (.tuple [u.d, .list []])) (sk cs k :: τ)
 a : ∀ p ∈ los, ∀ us : List Vl, (∀ u ∈ us, u ∈ things) -> us.length = szP p -> ∀ k τ, Bu cs k b -> K (.pd (.tuple [arrD [prD p] (us.map Vl.d), .list [.int (szP p)]])) (sk cs k :: τ)
 b : ∀ p ∈ los, ∀ q ∈ los, ∀ us : List Vl, (∀ u ∈ us, u ∈ things) -> us.length = szP p * szP q -> ∀ k τ, Bu cs k b -> K (.pd (.tuple [arrD [prD p, prD q] (us.map Vl.d), .list [.int (szP p), .int (szP q)]])) (sk cs k :: τ)
section
variable {cs : List Int} {k i w lo s0 s1 : Int} {b c n p : Nat} {σ σ' τ A : Hp} {K : KV} {E : KE} {G H : zaa} {KN : KS} {kn : Kn} {way wide rg lap low sizes whole : Option Loc} {d sz : PyData} {acc ps : List Pr} {p1 p2 : Pr}
noncomputable abbrev T20a (G : zaa) (kn : Kn) (i w : Int) (K : KV) (E : KE) (σ : Hp) : Prop := evSs G gc1 (fn20.body.drop 1) (f20 kn i (lp (.int w)) none none none none none none) σ (retK K) E
noncomputable abbrev T20b (G : zaa) (kn : Kn) (i w : Int) (wd : PyData) (K : KV) (E : KE) (σ : Hp) : Prop := evSs G gc1 (fn20.body.drop 2) (f20 kn i (lp (.int w)) (lp wd) none none none none none) σ (retK K) E
theorem v_0 : stp G 20 [r0, pv (.str kn.w), iv i] σ K E = G 16 [r0, iv 9] σ (fun v σ => evSs G gc1 (fn20.body.drop 1) (f20 kn i (some (.v v)) none none none none none none) σ (retK K) E) E := by kernel_rfl
theorem zoH : ((below 7).map fun w => T20a G kn i w K E σ) = (below 7).map fun w => T20b G kn i w (.int i) K E σ := by kernel_rfl
theorem v_7 : T20a G kn i 7 K E σ = T20b G kn i 7 (.int 0) K E σ := by kernel_rfl
theorem v_8 : T20a G kn i 8 K E σ = G 16 [r0, iv 2] σ (fun v σ => need (evOp .add (.pd (.int 1)) v σ) fun d => T20b G kn i 8 d K E σ) E := by kernel_rfl
theorem v_b0 : T20b G kn i w (.int 0) K E σ = G 19 [r0, pv (.str kn.w)] σ (fun v σ => need (zbE [v, .pd (.list [])]) fun ds => when (ds.length <= sizeLine) (K (.pd (.tuple ds)) σ)) E := by kernel_rfl
noncomputable abbrev KV20 (G : zaa) (K : KV) (E : KE) : KS := fun f m' σ' => match f with
 | .next => evSs G gc1 (fn20.body.drop 5) m' σ' (retK K) E
 | f => retK K f m' σ'
noncomputable abbrev VL (G : zaa) (K : KV) (E : KE) (l : List PyData) (m : Fm) (σ : Hp) : Prop := forN (fun d m' σ' k => need (tgFm m' (.n 6) d) fun m'' => evSs G gc1 b20 m'' σ' k E) (fun _ k => k) (KV20 G K E) l m σ
theorem v_b1 : T20b G kn i w (.int 1) K E σ = VL G K E [.int 0] (f20 kn i (lp (.int w)) (lp (.int 1)) (some (.v (.ref σ.length))) none none none none) (σ ++ [.list []]) := by kernel_rfl
theorem v_b2 : T20b G kn i w (.int 2) K E σ = VL G K E [.int 0, .int 1] (f20 kn i (lp (.int w)) (lp (.int 2)) (some (.v (.ref σ.length))) none none none none) (σ ++ [.list []]) := by kernel_rfl
theorem zgi {l : List PyData} : VL G K E (d :: l) (f20 kn i way wide rg lap low sizes whole) σ = evSs G gc1 b20 (f20 kn i way wide rg (lp d) low sizes whole) σ (fun f m' σ' => match f with | .ret v => KV20 G K E (.ret v) m' σ' | _ => VL G K E l m' σ') E := by kernel_rfl
theorem zlz {m : Fm} : VL G K E [] m σ = evSs G gc1 (fn20.body.drop 5) m σ (retK K) E := by kernel_rfl
theorem v_ta : evSs G gc1 b20 (f20 kn i way wide rg lap low sizes whole) σ KN E = G 16 [r0, iv 5] σ (fun v σ => need (evOp .sub v (.pd (.int 2)) σ) fun d => evSs G gc1 (b20.drop 1) (f20 kn i way wide rg lap (lp d) sizes whole) σ KN E) E := by kernel_rfl
theorem v_tb : evSs G gc1 (b20.drop 1) (f20 kn i way wide (some (.v (.ref p))) lap (lp (.int lo)) sizes whole) σ KN E = when ((lstR σ (.ref p)).isSome = true) (G 16 [r0, iv 4] σ (fun v σ => need (zaA σ (.pd (.tuple [.int 0, .int 1, .int 2, .int (-1)])) v) fun z => need (evOp .add (.pd (.int lo)) z σ) fun d => evLM .append (.ref p) [.pd (.tuple [.int lo, d])] σ (fun _ σ => KN .next (f20 kn i way wide (some (.v (.ref p))) lap (lp (.int lo)) sizes whole) σ)) E) := by kernel_rfl
theorem sub4 {r : Int} (hr : r ∈ below 4) : ∃ x ∈ ([0, 1, 2, -1] : List Int), zaA σ (.pd (.tuple [.int 0, .int 1, .int 2, .int (-1)])) (.pd (.int r)) = some (.pd (.int x)) := by
 have hr : r ∈ ([0, 1, 2, 3] : List Int) := hr
 simp only [List.mem_cons, List.not_mem_nil, or_false] at hr
 rcases hr with rfl | rfl | rfl | rfl
 ·exact ⟨0, .head _, by kernel_rfl⟩
 ·exact ⟨1, .tail _ (.head _), by kernel_rfl⟩
 ·exact ⟨2, .tail _ (.tail _ (.head _)), by kernel_rfl⟩
 ·exact ⟨-1, .tail _ (.tail _ (.tail _ (.head _))), by kernel_rfl⟩
theorem low5 {r : Int} (h : r ∈ below 5) : r - 2 ∈ ([-2, -1, 0, 1, 2] : List Int) := by
 have h : r - 2 ∈ (below 5).map (· - 2) := List.mem_map.mpr ⟨r, h, rfl⟩
 exact h
theorem zgh {m : Nat} {τ : Hp} (B : Bu cs k (b + 2)) (hl : acc.length <= 10) (h : ∀ q ∈ los, ∀ k' low, Bu cs k' b -> KN .next (f20 kn i way wide (some (.v (.ref (τ.length + 1)))) lap low sizes whole) (sk cs k' :: (τ ++ [.list (psD (acc ++ [q]))]))) :
  evSs (G1 (m + 1)) gc1 b20 (f20 kn i way wide (some (.v (.ref (τ.length + 1)))) lap low sizes whole) (sk cs k :: (τ ++ [.list (psD acc)])) KN E := by
 rw [v_ta]
 refine draw (many := 5) (by decide) B fun r hr B => ?_
 refine zab (a := .int (r - 2)) rfl ?_
 rw [v_tb]
 refine zah (zbQ (A := sk cs (k + 1) :: τ)) ?_
 refine draw (many := 4) (by decide) B fun r' hr' B => ?_
 obtain ⟨x, hx, e⟩ := sub4 (σ := sk cs (k + 1 + 1) :: (τ ++ [.list (psD acc)])) hr'
 have hh := h (r - 2, r - 2 + x) (List.mem_flatMap.mpr ⟨_, low5 hr, List.mem_map.mpr ⟨x, hx, rfl⟩⟩) _ (lp (.int (r - 2))) B
 rw [zfl] at hh
 refine zab e ?_
 refine zab (a := .int (r - 2 + x)) rfl ?_
 exact zc9 (A := sk cs (k + 1 + 1) :: τ) (B := []) (l := psD acc) (d := prD (r - 2, r - 2 + x)) (K := fun _ σ => KN .next (f20 kn i way wide (some (.v (.ref (τ.length + 1)))) lap (lp (.int (r - 2))) sizes whole) σ) (Nat.lt_of_le_of_lt (by rw [List.length_map]; exact hl) (by decide)) hh
noncomputable abbrev T8 (G : zaa) (m : Fm) (E : KE) (d : PyData) (acc : List PyData) (σ : Hp) (k : List PyData -> Hp -> Prop) : Prop := need (tgFm mc0 (.t [.n 1, .n 2]) d) fun mc' => when (acc.length <= sizeLine) (evX G gc1 m mc' e8 σ (fun v σ => need (pdV v) fun d' => k (acc ++ [d']) σ) E)
theorem v_c : evSs G gc1 (fn20.body.drop 5) (f20 kn i way wide (some (.v (.ref p))) lap low none none) σ (retK K) E = need (zac σ (.ref p)) fun l => zau (T8 G (f20 kn i way wide (some (.v (.ref p))) lap low none none) E) (fun σ' k => still σ σ' (.ref p) k) (fun ds σ' => when (ds.length <= sizeLine) (evSs G gc1 (fn20.body.drop 6) (f20 kn i way wide (some (.v (.ref p))) lap low (lp (.list ds)) none) σ' (retK K) E)) l [] σ := by kernel_rfl
theorem c8_1 {m : Fm} {KK : List PyData -> Hp -> Prop} : zau (T8 G m E) (fun σ' k => still σ σ' (.ref p) k) KK [prD p1] [] σ = (σ[p]? = σ[p]? /\ KK [.int (p1.2 - p1.1 + 1)] σ) := by kernel_rfl
theorem c8_2 {m : Fm} {KK : List PyData -> Hp -> Prop} : zau (T8 G m E) (fun σ' k => still σ σ' (.ref p) k) KK [prD p1, prD p2] [] σ = (σ[p]? = σ[p]? /\ σ[p]? = σ[p]? /\ KK [.int (p1.2 - p1.1 + 1), .int (p2.2 - p2.1 + 1)] σ) := by kernel_rfl
theorem zm8 : (n4.map fun c => evSs G gc1 (fn20.body.drop 6) (f20 kn i way (lp (.int 1)) rg lap low (lp (.list [.int c.1])) none) σ (retK K) E) = n4.map fun c => evSs G gc1 (fn20.body.drop 7) (f20 kn i way (lp (.int 1)) rg lap low (lp (.list [.int c.1])) (lp (.int c.1))) σ (retK K) E := by kernel_rfl
noncomputable def n16 : List ((Int × Nat) × (Int × Nat)) := n4.flatMap fun a => n4.map fun b => (a, b)
theorem zm7 : (n16.map fun c => evSs G gc1 (fn20.body.drop 6) (f20 kn i way (lp (.int 2)) rg lap low (lp (.list [.int c.1.1, .int c.2.1])) none) σ (retK K) E) = n16.map fun c => evSs G gc1 (fn20.body.drop 7) (f20 kn i way (lp (.int 2)) rg lap low (lp (.list [.int c.1.1, .int c.2.1])) (lp (.int (c.1.2 * c.2.2 : Nat)))) σ (retK K) E := by kernel_rfl
noncomputable abbrev TV (G : zaa) (kn : Kn) (E : KE) (d : PyData) (acc : List PyData) (σ : Hp) (k : List PyData -> Hp -> Prop) : Prop := when (acc.length <= sizeLine) (G 19 [r0, pv (.str kn.w)] σ (fun v σ => need (pdV v) fun d' => k (acc ++ [d']) σ) E)
theorem v_e : evSs G gc1 (fn20.body.drop 7) (f20 kn i way wide (some (.v (.ref p))) lap low (lp sz) (lp (.int w))) σ (retK K) E = need (seqT σ (.ref p)) fun l => when (l.length <= sizeLine) (need (zac σ (.rng 0 w)) fun its => zau (TV G kn E) (fun _ k => k) (fun us σ => when (us.length <= sizeLine) (K (.pd (.tuple [arrD l us, sz])) σ)) its [] σ) := by kernel_rfl
theorem zjZ {m : Nat} {KK : List PyData -> Hp -> Prop} (its : List PyData) : ∀ (acc : List PyData) (k : Int), Bu cs k (b + 2 * its.length) -> acc.length + its.length <= 90 -> (∀ us : List Vl, (∀ u ∈ us, u ∈ things) -> us.length = its.length -> ∀ k', Bu cs k' b -> KK (acc ++ us.map Vl.d) (sk cs k' :: τ)) -> zau (TV (G1 (m + 2)) kn E) (fun _ k => k) KK its acc (sk cs k :: τ) := by
 induction its with
 | nil =>
  intro acc k B _ h
  have h := h [] (fun _ h => nomatch h) rfl k B
  rw [List.map_nil, List.append_nil] at h
  exact h
 | cons d r ih =>
  intro acc k B hl h
  rw [List.length_cons] at hl B
  refine zah (za8 (m := 90) (Nat.le_trans (Nat.le_add_right _ _) hl) (by decide)) ?_
  refine zlF (b := b + 2 * r.length) B fun u hu k' B => ?_
  refine zab (a := u.d) rfl ?_
  refine ih _ _ B (acc1 hl) fun us hus e k' B => ?_
  rw [app1]
  exact h (u :: us) (List.forall_mem_cons.mpr ⟨hu, hus⟩) (congrArg (· + 1) e) k' B
theorem zfs {l : List PyData} (e : σ[p]? = some (.list l)) : zac σ (.ref p) = some l := by
 show alt (seqT σ (.ref p)) _ = _
 rw [zcX e]; rfl
theorem zf4 : zac σ (.rng 0 w) = gd (-(2 ^ 62) <= (0 : Int) /\ (0 : Int) < 2 ^ 62 /\ -(2 ^ 62) <= w /\ w < 2 ^ 62) (zaQ 0 w) := by kernel_rfl
theorem zd2 (h : n <= 9) : zac σ (.rng 0 (n : Int)) = some (zaQ 0 n) := by
 rw [zf4]
 exact gd_i ⟨by omega, by omega, by omega, by omega⟩
theorem zcZ : (zaQ 0 (n : Int)).length = n := by
 unfold zaQ
 rw [List.length_map, List.length_range]; omega
theorem zkL : los.all (fun p => p.2 - p.1 + 1 == (szP p : Int) && decide (szP p < 4)) = true := by decide +kernel
theorem zby (h : p1 ∈ los) : p1.2 - p1.1 + 1 = (szP p1 : Int) /\ szP p1 < 4 := by
 have q := Bool.and_eq_true_iff.mp (List.all_eq_true.mp zkL _ h)
 exact ⟨eq_of_beq q.1, of_decide_eq_true q.2⟩
theorem v6a (h : n < 4) : evSs G gc1 (fn20.body.drop 6) (f20 kn i way (lp (.int 1)) rg lap low (lp (.list [.int n])) none) σ (retK K) E = evSs G gc1 (fn20.body.drop 7) (f20 kn i way (lp (.int 1)) rg lap low (lp (.list [.int n])) (lp (.int n))) σ (retK K) E := by
 have e := List.map_inj_left.mp (zm8 (G := G) (kn := kn) (i := i) (way := way) (rg := rg) (lap := lap) (low := low) (K := K) (E := E) (σ := σ)) _ (zi0 h)
 exact e
theorem v6b {n' : Nat} (h : n < 4) (h' : n' < 4) : evSs G gc1 (fn20.body.drop 6) (f20 kn i way (lp (.int 2)) rg lap low (lp (.list [.int n, .int n'])) none) σ (retK K) E = evSs G gc1 (fn20.body.drop 7) (f20 kn i way (lp (.int 2)) rg lap low (lp (.list [.int n, .int n'])) (lp (.int (n * n' : Nat)))) σ (retK K) E := by
 have e := List.map_inj_left.mp (zm7 (G := G) (kn := kn) (i := i) (way := way) (rg := rg) (lap := lap) (low := low) (K := K) (E := E) (σ := σ)) (((n : Int), n), ((n' : Int), n')) (List.mem_flatMap.mpr ⟨_, zi0 h, List.mem_map.mpr ⟨_, zi0 h', rfl⟩⟩)
 exact e
theorem zlC {m : Nat} {l its : List PyData} (hl : l.length <= 9) (hn : n <= 9) (e : zac (sk cs k :: τ) (.rng 0 w) = some its) (el : its.length = n) (eg : ∀ k : Int, (sk cs k :: τ)[p]? = some (.list l)) (B : Bu cs k (b + 18)) (h : ∀ us : List Vl, (∀ u ∈ us, u ∈ things) -> us.length = n -> ∀ k', Bu cs k' b -> K (.pd (.tuple [arrD l (us.map Vl.d), sz])) (sk cs k' :: τ)) :
  evSs (G1 (m + 2)) gc1 (fn20.body.drop 7) (f20 kn i way wide (some (.v (.ref p))) lap low (lp sz) (lp (.int w))) (sk cs k :: τ) (retK K) E := by
 rw [v_e]
 refine zab (zcX (eg k)) ?_
 refine zah (za8 hl (by decide)) ?_
 refine zab e ?_
 refine zjZ its [] k (by rw [el]; exact B.le (Nat.add_le_add_left (Nat.mul_le_mul_left 2 hn) b)) (by rw [el, List.length_nil, Nat.zero_add]; exact Nat.le_trans hn (by decide)) fun us hu e k' B => ?_
 rw [el] at e
 exact zah (za8 (m := 9) (by rw [List.nil_append, List.length_map, e]; exact hn) (by decide)) (h us hu e k' B)
theorem zlB {m : Nat} (hp : p1 ∈ los) (hK : VK cs b K) (B : Bu cs k (b + 18)) : evSs (G1 (m + 2)) gc1 (fn20.body.drop 5) (f20 kn i way (lp (.int 1)) (some (.v (.ref (τ.length + 1)))) lap low none none) (sk cs k :: (τ ++ [.list (psD [p1])])) (retK K) E := by
 have eg : ∀ k : Int, (sk cs k :: (τ ++ [O.list (psD [p1])]))[τ.length + 1]? = some (.list (psD [p1])) := fun k => gP (A := sk cs k :: τ)
 obtain ⟨e1, h1⟩ := zby hp
 rw [v_c]
 refine zab (zfs (eg k)) ?_
 show zau _ _ _ [prD p1] [] _
 rw [c8_1]
 refine ⟨rfl, zah (c := [PyData.int (p1.2 - p1.1 + 1)].length <= sizeLine) (Nat.le_of_ble_eq_true rfl) ?_⟩
 rw [e1, v6a h1]
 exact zlC (l := [prD p1]) (Nat.le_of_ble_eq_true rfl) (Nat.le_trans (Nat.le_of_lt h1) (by decide)) (zd2 (Nat.le_trans (Nat.le_of_lt h1) (by decide))) zcZ eg B fun us hu e k' B => hK.a p1 hp us hu e k' _ B
theorem zlA {m : Nat} (hp : p1 ∈ los) (hq : p2 ∈ los) (hK : VK cs b K) (B : Bu cs k (b + 18)) : evSs (G1 (m + 2)) gc1 (fn20.body.drop 5) (f20 kn i way (lp (.int 2)) (some (.v (.ref (τ.length + 1)))) lap low none none) (sk cs k :: (τ ++ [.list (psD [p1, p2])])) (retK K) E := by
 have eg : ∀ k : Int, (sk cs k :: (τ ++ [O.list (psD [p1, p2])]))[τ.length + 1]? = some (.list (psD [p1, p2])) := fun k => gP (A := sk cs k :: τ)
 obtain ⟨e1, h1⟩ := zby hp
 obtain ⟨e2, h2⟩ := zby hq
 rw [v_c]
 refine zab (zfs (eg k)) ?_
 show zau _ _ _ [prD p1, prD p2] [] _
 rw [c8_2]
 refine ⟨rfl, rfl, zah (c := [PyData.int (p1.2 - p1.1 + 1), PyData.int (p2.2 - p2.1 + 1)].length <= sizeLine) (Nat.le_of_ble_eq_true rfl) ?_⟩
 rw [e1, e2, v6b h1 h2]
 exact zlC (l := [prD p1, prD p2]) (Nat.le_of_ble_eq_true rfl) (Nat.mul_le_mul (Nat.le_of_lt_succ h1) (Nat.le_of_lt_succ h2)) (zd2 (Nat.mul_le_mul (Nat.le_of_lt_succ h1) (Nat.le_of_lt_succ h2))) zcZ eg B fun us hu e k' B => hK.b p1 hp p2 hq us hu e k' _ B
theorem v_w0 {m : Nat} (hK : VK cs b K) (B : Bu cs k (b + 2)) : T20b (G1 (m + 2)) kn i w (.int 0) K E (sk cs k :: τ) := by
 rw [v_b0]
 exact zlF B fun u hu k' B => zab (a := [u.d, .list []]) rfl (zah (c := [u.d, PyData.list []].length <= sizeLine) (Nat.le_of_ble_eq_true rfl) (hK.t u hu k' _ B))
theorem v_w1 {m : Nat} (hK : VK cs b K) (B : Bu cs k (b + 18 + 2)) : T20b (G1 (m + 2)) kn i w (.int 1) K E (sk cs k :: τ) := by
 rw [v_b1, zgi]
 refine zgh (acc := []) B (Nat.zero_le _) fun q hq k' low B => ?_
 show VL (G1 (m + 2)) K E [] _ _
 rw [zlz]
 exact zlB hq hK B
theorem v_w2 {m : Nat} (hK : VK cs b K) (B : Bu cs k (b + 18 + 2 + 2)) : T20b (G1 (m + 2)) kn i w (.int 2) K E (sk cs k :: τ) := by
 rw [v_b2, zgi]
 refine zgh (acc := []) B (Nat.zero_le _) fun q hq k' low B => ?_
 show VL (G1 (m + 2)) K E [.int 1] (f20 _ _ _ _ _ _ low none none) _
 rw [zgi]
 refine zgh (acc := [q]) B (Nat.le_of_ble_eq_true rfl) fun q' hq' k' low B => ?_
 show VL (G1 (m + 2)) K E [] _ _
 rw [zlz]
 exact zlA hq hq' hK B
theorem v_w {m : Nat} {i' : Int} (hi : i' ∈ below 3) (hK : VK cs b K) (B : Bu cs k (b + 22)) : T20b (G1 (m + 2)) kn i w (.int i') K E (sk cs k :: τ) := by
 have hi : i' ∈ ([0, 1, 2] : List Int) := hi
 simp only [List.mem_cons, List.not_mem_nil, or_false] at hi
 rcases hi with rfl | rfl | rfl
 ·exact v_w0 hK (B.le (Nat.add_le_add_left (by decide : 2 <= 22) b))
 ·exact v_w1 hK (B.le (Nat.add_le_add_left (by decide : 20 <= 22) b))
 ·exact v_w2 hK B
theorem cov9 : (below 9).all (fun w => (below 7).contains w || (w == 7 || w == 8)) = true := by decide +kernel
theorem zlx {m : Nat} (hi : i ∈ below 3) (hK : VK cs b K) (B : Bu cs k (b + 24)) : G1 (m + 3) 20 [r0, pv (.str kn.w), iv i] (sk cs k :: τ) K E := by
 refine zaZ (m + 2) _ _ _ _ _ ?_
 rw [v_0]
 refine draw (many := 9) (by decide) B fun w hw B => ?_
 rcases Bool.or_eq_true_iff.mp (List.all_eq_true.mp cov9 w hw) with q | q
 ·exact zai zoH (List.contains_iff_mem.mp q) (v_w hi hK (B.le (Nat.le_succ _)))
 rcases Bool.or_eq_true_iff.mp q with q | q
 ·have q := eq_of_beq q
  subst q
  show T20a (G1 (m + 2)) kn i 7 K E _
  rw [v_7]
  exact v_w0 hK (B.le (Nat.add_le_add_left (by decide : 2 <= 23) b))
 ·have q := eq_of_beq q
  subst q
  show T20a (G1 (m + 2)) kn i 8 K E _
  rw [v_8]
  refine draw (many := 2) (by decide) B fun r hr B => ?_
  have hr : r ∈ ([0, 1] : List Int) := hr
  simp only [List.mem_cons, List.not_mem_nil, or_false] at hr
  rcases hr with rfl | rfl
  ·exact zab (a := .int 1) rfl (v_w1 hK (B.le (Nat.add_le_add_left (by decide : 20 <= 22) b)))
  ·exact zab (a := .int 2) rfl (v_w2 hK B)
end
structure Sm (n N : Nat) (d : PyData) : Prop where
 able : d.showable = true
 deep : d.depth <= n
 len : d.shown.length <= N
noncomputable def smB (n N : Nat) (d : PyData) : Bool := d.showable && (decide (d.depth <= n) && decide (d.shown.length <= N))
noncomputable def SL (l : List PyData) : Nat := (l.map fun d => d.shown.length + 4).sum
section
variable {n N n' N' : Nat} {d : PyData} {l : List PyData} {s : Int} {k : Kn} {o : Option (List Int)} {u v : Vl} {us vs : List Vl} {t : Str} {w : Int} {q : Pr} {p : Pr} {qs : List Pr}
theorem zis (h : smB n N d = true) : Sm n N d := by
 have h := Bool.and_eq_true_iff.mp h
 have g := Bool.and_eq_true_iff.mp h.2
 exact ⟨h.1, of_decide_eq_true g.1, of_decide_eq_true g.2⟩
theorem Sm.le (h : Sm n N d) (a : n <= n') (b : N <= N') : Sm n' N' d := ⟨h.able, Nat.le_trans h.deep a, Nat.le_trans h.len b⟩
theorem Sm.sh (h : Sm n N d) (a : n <= 64) (b : N <= 100000) : Sh d := ⟨h.able, Nat.le_trans h.deep a, Nat.le_trans h.len (za8 b (by decide))⟩
theorem zdF : ∀ l : List PyData, ((PyData.shownAll l).map (·.length)).sum + 4 * l.length = SL l
 | [] => rfl
 | d :: r => by
  have := zdF r
  show d.shown.length + ((PyData.shownAll r).map (·.length)).sum + 4 * (r.length + 1) = d.shown.length + 4 + SL r
  rw [← this, Nat.mul_succ, Nat.add_comm (4 * _) 4, Nat.add_add_add_comm]
theorem zj0 (l : List PyData) : (PyData.shown (.tuple l)).length <= SL l + 4 := by
 refine Nat.le_trans (tupleText_len_le (PyData.shownAll l)) ?_
 rw [← zdF l, PyData.shownAll_length l]
 exact Nat.add_le_add (Nat.add_le_add_left (Nat.mul_le_mul_right _ (by decide)) _) (by decide)
theorem zkI (l : List PyData) : (PyData.shown (.list l)).length <= SL l + 4 := by
 refine Nat.le_trans (listText_len_le (PyData.shownAll l)) ?_
 rw [← zdF l, PyData.shownAll_length l]
 exact Nat.add_le_add (Nat.add_le_add_left (Nat.mul_le_mul_right _ (by decide)) _) (by decide)
theorem zh4 : ∀ {l : List PyData}, (∀ d ∈ l, Sm n N d) -> PyData.showableAll l = true /\ PyData.depthAll l <= n /\ SL l <= (N + 4) * l.length
 | [], _ => ⟨rfl, Nat.zero_le _, Nat.zero_le _⟩
 | d :: r, h => by
  obtain ⟨h1, h2⟩ := List.forall_mem_cons.mp h
  obtain ⟨a, b, c⟩ := zh4 h2
  refine ⟨Bool.and_eq_true_iff.mpr ⟨h1.able, a⟩, Nat.max_le.mpr ⟨h1.deep, b⟩, ?_⟩
  show d.shown.length + 4 + SL r <= (N + 4) * (r.length + 1)
  rw [Nat.mul_succ, Nat.add_comm]
  exact Nat.add_le_add c (Nat.add_le_add_right h1.len 4)
theorem zgB (h : ∀ d ∈ l, Sm n N d) (hl : l.length <= n') (e : (N + 4) * n' + 4 <= N') : Sm (n + 1) N' (.tuple l) := by
 obtain ⟨a, b, c⟩ := zh4 h
 exact ⟨a, Nat.succ_le_succ b, Nat.le_trans (zj0 l) (Nat.le_trans (Nat.add_le_add_right (Nat.le_trans c (Nat.mul_le_mul_left _ hl)) 4) e)⟩
theorem zjy (h : ∀ d ∈ l, Sm n N d) (hl : l.length <= n') (e : (N + 4) * n' + 4 <= N') : Sm (n + 1) N' (.list l) := by
 obtain ⟨a, b, c⟩ := zh4 h
 exact ⟨a, Nat.succ_le_succ b, Nat.le_trans (zkI l) (Nat.le_trans (Nat.add_le_add_right (Nat.le_trans c (Nat.mul_le_mul_left _ hl)) 4) e)⟩
theorem zlG : things.all (fun u => smB 1 100 u.d) = true := by decide +kernel
theorem zic (h : u ∈ things) : Sm 1 100 u.d := zis (List.all_eq_true.mp zlG _ h)
theorem zkJ : los.all (fun q => smB 1 100 (prD q)) = true := by decide +kernel
theorem zg6 (h : q ∈ los) : Sm 1 100 (prD q) := zis (List.all_eq_true.mp zkJ _ h)
theorem znw : Qs.all (fun q => smB 1 100 (prD q)) = true := by decide +kernel
theorem Qs_sm (h : q ∈ Qs) : Sm 1 100 (prD q) := zis (List.all_eq_true.mp znw _ h)
theorem zh2 (h : ∀ q ∈ qs, Sm 1 100 (prD q)) (hq : qs.length <= 2) (hu : ∀ u ∈ us, u ∈ things) (hl : us.length <= 9) : Sm 3 3000 (arrD (psD qs) (us.map Vl.d)) := by
 have h1 : Sm 2 1000 (.tuple (psD qs)) := zgB (n' := 2) (fun d hd => by obtain ⟨q, hq, rfl⟩ := List.mem_map.mp hd; exact h q hq) (by rw [List.length_map]; exact hq) (by decide)
 have h2 : Sm 2 1000 (.list (us.map Vl.d)) := zjy (n' := 9) (fun d hd => by obtain ⟨u, hd', rfl⟩ := List.mem_map.mp hd; exact zic (hu u hd')) (by rw [List.length_map]; exact hl) (by decide)
 exact zgB (n' := 2) (List.forall_mem_cons.mpr ⟨h1, List.forall_mem_cons.mpr ⟨h2, fun _ h => nomatch h⟩⟩) (Nat.le_refl 2) (by decide)
theorem zjJ (hu : ∀ u ∈ us, u ∈ things) (hl : us.length <= 9) : Sh (.list (us.map Vl.d)) :=
 (zjy (n := 1) (N := 100) (n' := 9) (N' := 1000) (fun d hd => by obtain ⟨u, hd', rfl⟩ := List.mem_map.mp hd; exact zic (hu u hd')) (by rw [List.length_map]; exact hl) (by decide)).sh (by decide) (by decide)
theorem zgC {x : Str} (h : PyData.strOk x = true) : (PyData.shown (.str x)).length <= 10 * x.length + 2 := StrLaws.reprText_len x fun c hc =>
 Nat.lt_trans (of_decide_eq_true (Array.all_eq_true_iff_forall_mem.mp h c (Array.mem_toList_iff.mp hc))) (by decide)
theorem znm (h : okS' t = true) (hw : w.natAbs <= 100) : Sh (badT t w) := by
 obtain ⟨h1, h2⟩ := Bool.and_eq_true_iff.mp h
 have h2 := of_decide_eq_true h2
 have e1 : Sm 0 3000 tBad := zis (by decide +kernel)
 have e2 : Sm 0 3000 (.str t) := ⟨rfl, Nat.zero_le _, Nat.le_trans (zgC h1) (Nat.le_trans (Nat.add_le_add_right (Nat.mul_le_mul_left 10 h2) 2) (by decide))⟩
 have e3 : Sm 0 3000 (.int w) := by
  refine ⟨decide_eq_true ?_, Nat.zero_le _, Nat.le_trans (zeS w) (Nat.le_trans (Nat.add_le_add_right hw 2) (by decide))⟩
  exact Nat.lt_of_le_of_lt (Nat.le_trans (Nat.log2_le_self _) hw) (by decide)
 exact (zgB (l := [tBad, .str t, .int w]) (n' := 3) (N' := 10000) (List.forall_mem_cons.mpr ⟨e1, List.forall_mem_cons.mpr ⟨e2, List.forall_mem_cons.mpr ⟨e3, fun _ h => nomatch h⟩⟩⟩) (Nat.le_refl 3) (by decide)).sh (by decide) (by decide)
noncomputable def zka {α : Type} : Re α -> Int
 | .ok _ => 0
 | .bad _ w => w
theorem zdB {l : List Int} {v0 : Vl} (h : chk s o l v0 = .bad t w) : w = s := by
 cases o with
 | none => cases h
 | some m =>
  have h : (match decide (out m l = []) with | true => Re.ok v0 | false => .bad (shV v0 ++ wBnd) s) = .bad t w := h
  cases q : decide (out m l = []) with
  | true => rw [q] at h; cases h
  | false => rw [q] at h; exact (congrArg zka h).symm
theorem zhb (h : zan s k o u = .bad t w) : w = s := by
 cases k with
 | bool => cases u <;> cases h <;> rfl
 | str => cases u <;> cases h <;> rfl
 | set => cases u with
  | set l => exact zdB (v0 := .set l) h
  | _ => cases h; rfl
 | int => cases u with
  | num i => exact zdB (v0 := .num i) h
  | tru b => exact zdB (v0 := .num (if b = true then 1 else 0)) h
  | _ => cases h; rfl
theorem zha (hu : Val u) (h : zan s k o u = .ok v) : v ∈ things := by
 have n0 : Vl.num 0 ∈ things := .head _
 have n1 : Vl.num 1 ∈ things := .tail _ (.head _)
 cases hu with
 | arr p l => cases k <;> cases h
 | th hu => cases k with
  | bool => cases u <;> cases h; exact hu
  | str => cases u <;> cases h; exact hu
  | set => cases u with
   | set l => exact zc7 (v0 := .set l) h ▸ hu
   | _ => cases h
  | int => cases u with
   | num i => exact zc7 (v0 := .num i) h ▸ hu
   | tru b => have := zc7 (v0 := .num (if b = true then 1 else 0)) h; subst this; cases b <;> assumption
   | _ => cases h
theorem zfq : ∀ {us vs : List Vl}, (∀ u ∈ us, u ∈ things) -> zam s k o us = .ok vs -> ∀ v ∈ vs, v ∈ things
 | [], vs, _, e => by cases e; exact fun _ h => nomatch h
 | u :: r, vs, hu, e => by
  obtain ⟨h1, h2⟩ := List.forall_mem_cons.mp hu
  have e : ((zan s k o u).bind fun v => (zam s k o r).bind fun vs => .ok (v :: vs)) = .ok vs := e
  cases e1 : zan s k o u with
  | bad t w => rw [e1] at e; cases e
  | ok v =>
   rw [e1] at e
   cases e2 : zam s k o r with
   | bad t w => rw [e2] at e; cases e
   | ok ws =>
    rw [e2] at e
    have e : Re.ok (v :: ws) = Re.ok vs := e
    cases e
    exact List.forall_mem_cons.mpr ⟨zha (.th h1) e1, zfq h2 e2⟩
structure Okb (t : Str) (w : Int) : Prop where
 t : okS' t = true
 w : w.natAbs <= 100
theorem zfr {b : Bd} (hb : b ∈ bds) (hs : s.natAbs <= 100) (hu : Val u) (e : zan s k b.l u = .bad t w) : Okb t w := by
 have q := zg0 (s := s) (k := k) hb hu
 rw [e] at q
 exact ⟨q, zhb e ▸ hs⟩
theorem zdY {b : Bd} (hb : b ∈ bds) (hs : s.natAbs <= 100) : ∀ {us : List Vl}, (∀ u ∈ us, u ∈ things) -> zam s k b.l us = .bad t w -> Okb t w
 | [], _, e => nomatch e
 | u :: r, hu, e => by
  obtain ⟨h1, h2⟩ := List.forall_mem_cons.mp hu
  have e : ((zan s k b.l u).bind fun v => (zam s k b.l r).bind fun vs => .ok (v :: vs)) = .bad t w := e
  cases e1 : zan s k b.l u with
  | bad t' w' => rw [e1] at e; cases e; exact zfr hb hs (.th h1) e1
  | ok v =>
   rw [e1] at e
   cases e2 : zam s k b.l r with
   | bad t' w' => rw [e2] at e; cases e; exact zdY hb hs h2 e2
   | ok ws => rw [e2] at e; cases e
noncomputable def zov (r : Re Bd) : Bool := match r with
 | .ok _ => true
 | .bad t w => okS' t && decide (w.natAbs <= 100)
theorem zk5 : domA.all (fun D => zov D.r) = true := by decide +kernel
theorem zeW {D : Dm} (hD : D ∈ domA) (e : D.r = .bad t w) : Okb t w := by
 have q := List.all_eq_true.mp zk5 D hD
 rw [e] at q
 have q := Bool.and_eq_true_iff.mp q
 exact ⟨q.1, of_decide_eq_true q.2⟩
theorem zfD {D : Dm} (hD : D ∈ domA) {b : Bd} (e : D.r = .ok b) : b ∈ bds := by
 rcases List.mem_cons.mp hD with rfl | hD
 ·cases e; exact .head _
 ·exact zeX hD e
theorem zgt {i : It} (hi : i.Ok) (hs : s.natAbs <= 100) (e : i.r s = .bad t w) : Okb t w := by
 have q := ziO (s := s) hi
 rw [e] at q
 refine ⟨q, ?_⟩
 cases hi with
 | any hp => cases e
 | @some D p hD hp =>
  obtain ⟨d, r⟩ := D
  cases r with
  | z => cases e; decide
  | n => cases e; exact hs
  | ls l =>
   have e : (match (l.length : Int) == p.2 - p.1 + 1 with
    | false => Re.bad (iStr l.length ++ wEl ++ iStr (p.2 - p.1 + 1)) s
    | true => match gapB l with
     | true => .bad wGap s
     | false => .ok (zmX l)) = .bad t w := e
   cases q1 : (l.length : Int) == p.2 - p.1 + 1 with
   | false => rw [q1] at e; have e2 : s = w := congrArg zka e; exact e2 ▸ hs
   | true =>
    rw [q1] at e
    cases q2 : gapB l with
    | true => rw [q2] at e; have e2 : s = w := congrArg zka e; exact e2 ▸ hs
    | false => rw [q2] at e; cases e
noncomputable def okQ (p : Pr) (r : Re Pr) : Bool := match r with
 | .ok q => Qs.contains q && szP q == szP p
 | .bad _ _ => true
theorem bf_q : Lp.all (fun c => okQ c.2 (lsR s c.1 c.2)) = true := by kernel_rfl
theorem zoa : los.all (fun p => Qs.contains p) = true := by decide +kernel
theorem sp_Q {i : It} (hi : i.Ok) (e : i.r s = .ok q) : q ∈ Qs /\ szP q = szP i.p := by
 cases hi with
 | any hp => cases e; exact ⟨List.contains_iff_mem.mp (List.all_eq_true.mp zoa _ hp), rfl⟩
 | @some D p hD hp =>
  have h := List.all_eq_true.mp zdw D hD
  obtain ⟨d, r⟩ := D
  cases r with
  | z => cases e
  | n => cases e
  | ls l =>
   have e : lsR s l p = .ok q := e
   have g := List.all_eq_true.mp (bf_q (s := s)) (l, p) (zmJ (of_decide_eq_true h) hp)
   have g : okQ p (lsR s l p) = true := g
   rw [e] at g
   have g := Bool.and_eq_true_iff.mp g
   exact ⟨List.contains_iff_mem.mp g.1, eq_of_beq g.2⟩
end
noncomputable abbrev zmn : Str := ⟨#[99,101,108,108,115]⟩
noncomputable abbrev nK : Str := ⟨#[107]⟩
noncomputable def b27 : List Mine.Lake.S := match fn27.body with
 | _ :: _ :: _ :: .for _ _ b :: _ => b
 | _ => []
noncomputable def zoB (s : Option Mine.Lake.S) : Mine.Lake.X := match s with
 | some (.asg _ (.dct _ ((_, .comp _ e _ _ _) :: _))) => e
 | _ => .c .none
noncomputable def hOf (s : Option Mine.Lake.S) : List (Bool × Option Nat × List Mine.Lake.S) := match s with
 | some (.try _ h) => h
 | _ => []
noncomputable abbrev kns5 : PyData := .tuple [.str Kn.int.w, .str Kn.int.w, .str Kn.set.w, .str Kn.bool.w, .str Kn.str.w]
noncomputable abbrev zms : PyData := .tuple [.int 1, .int 1, .int 2, .int 2, .int 0]
noncomputable abbrev g27 (L : PyData) (a1 : Option Loc) : Fm := [some (pv L), a1, none, none, none, none, none, none, none, none, none, none, none, none, none, none, none, none, none, none, none, none, none, none, none]
noncomputable abbrev f27 (l0 : Loc) (kp lap base many val sizes dims dom given due told fault : Option Loc) : Fm := [some l0, some r0, lp SC, kp, lap, base, many, val, sizes, dims, dom, given, due, told, fault, none, none, none, none, none, none, none, none, none, none]
section
variable {L : PyData} {j s : Int} {n b : Nat} {cs : List Int} {K : KV} {E : KE} {σ τ : Hp} {e : zaa} {KN : KS} {l0 : Loc} {keep giv : Str} {kp lap base many val sizes dims dom given due told fault : Option Loc} {td x y z dd du u : PyData} {kn : Kn} {i : Int} {ds : List PyData} {t : Str} {w : Int}
noncomputable abbrev CE (e : zaa) (L : PyData) (E : KE) (d : PyData) (acc : List PyData) (σ : Hp) (k : List PyData -> Hp -> Prop) : Prop := need (tgFm mc0 (.n 1) d) fun mc' => when (acc.length <= sizeLine) (evX e gc1 (g27 L none) mc' (zoB fn27.body[0]?) σ (fun v σ => need (pdV v) fun d' => k (acc ++ [d']) σ) E)
theorem x1 : stp e 27 [pv L] [] K E = evSs e gc1 fn27.body (g27 L none) [] (retK K) E := by kernel_rfl
noncomputable def dctE : Mine.Lake.X := match fn27.body with | .asg _ x :: _ => x | _ => .c .none
theorem x2 : evSs e gc1 fn27.body (g27 L none) [] (retK K) E = evX e gc1 (g27 L none) [] dctE [] (fun v σ' => evSs e gc1 (fn27.body.drop 1) (g27 L (some (.v v))) σ' (retK K) E) E := by kernel_rfl
theorem x3 {K : KV} : evX e gc1 (g27 L none) [] dctE [] K E = need (zdr [] (.pd L) none (some 60)) fun d => need (zac [] (.pd d)) fun l => zau (CE e L E) (fun σ' k => still [] σ' (.pd d) k) (fun ds σ' => when (ds.length <= sizeLine) (K (.ref σ'.length) (σ' ++ [.dict [(zmn, .pd (.list ds)), (nK, .pd (.int 0))]]))) l [] [] := by kernel_rfl
theorem zmZ {k : List PyData -> Hp -> Prop} {acc : List PyData} : CE e L E (.int i) acc σ k = when (acc.length <= sizeLine) (k (acc ++ [.int (Int.emod i 1000003)]) σ) := by kernel_rfl
theorem a2 : evSs e gc1 (fn27.body.drop 1) (g27 L (some r0)) σ (retK K) E = zaX .repr [.pd SC] σ (fun t σ => evSs e gc1 (fn27.body.drop 3) (f27 (pv L) (some (.v t)) none none none none none none none none none none none) σ (retK K) E) := by kernel_rfl
noncomputable abbrev KF27 (e : zaa) (K : KV) (E : KE) : KS := fun f m' σ' => match f with
 | .next => evSs e gc1 (fn27.body.drop 4) m' σ' (retK K) E
 | f => retK K f m' σ'
noncomputable abbrev LL (e : zaa) (K : KV) (E : KE) (l : List PyData) (m : Fm) (σ : Hp) : Prop := forN (fun d m' σ' k => need (tgFm m' (.n 4) d) fun m'' => evSs e gc1 b27 m'' σ' k E) (fun _ k => k) (KF27 e K E) l m σ
theorem a3 : evSs e gc1 (fn27.body.drop 3) (f27 l0 kp none none none none none none none none none none none) σ (retK K) E = LL e K E [.int 0, .int 1, .int 2, .int 3] (f27 l0 kp none none none none none none none none none none none) σ := by kernel_rfl
theorem znt {m : Fm} : LL e K E [] m σ = K (.pd (.bool true)) σ := by kernel_rfl
theorem zlp {l : List PyData} {d : PyData} : LL e K E (d :: l) (f27 l0 kp lap base many val sizes dims dom given due told fault) σ = evSs e gc1 b27 (f27 l0 kp (lp d) base many val sizes dims dom given due told fault) σ (fun f m' σ' => match f with | .ret v => KF27 e K E (.ret v) m' σ' | _ => LL e K E l m' σ') E := by kernel_rfl
theorem y0 : evSs e gc1 b27 (f27 l0 kp lap base many val sizes dims dom given due told fault) σ KN E = e 16 [r0, iv 5] σ (fun v σ => need (zaA σ (.pd kns5) v) fun z => e 16 [r0, iv 5] σ (fun u σ => need (zaA σ (.pd zms) u) fun y => evSs e gc1 (b27.drop 1) (f27 l0 kp lap (some (.v z)) (some (.v y)) val sizes dims dom given due told fault) σ KN E) E) E := by kernel_rfl
noncomputable def KU (e : zaa) (KN : KS) (E : KE) (l0 : Loc) (kp lap base many val sizes dims dom given due told fault : Option Loc) : KV := fun v σ => need (rd σ v) fun d => need (zci d) fun ds => need (asgN [7, 8] (ds.map .pd) (f27 l0 kp lap base many val sizes dims dom given due told fault)) fun m' => evSs e gc1 (b27.drop 2) m' σ KN E
theorem y1 : evSs e gc1 (b27.drop 1) (f27 l0 kp lap (lp (.str kn.w)) (lp (.int i)) val sizes dims dom given due told fault) σ KN E = e 20 [r0, pv (.str kn.w), iv i] σ (KU e KN E l0 kp lap (lp (.str kn.w)) (lp (.int i)) val sizes dims dom given due told fault) E := by kernel_rfl
theorem y1b : KU e KN E l0 kp lap base many val sizes dims dom given due told fault (.pd (.tuple [x, y])) σ = evSs e gc1 (b27.drop 2) (f27 l0 kp lap base many (lp x) (lp y) dims dom given due told fault) σ KN E := by kernel_rfl
noncomputable abbrev Y4 (e : zaa) (KN : KS) (E : KE) (l0 : Loc) (kp lap base many val sizes dom given due told fault : Option Loc) (ds : List PyData) (σ : Hp) : Prop := evSs e gc1 (b27.drop 4) (f27 l0 kp lap base many val sizes (lp (.tuple ds)) dom given due told fault) σ KN E
noncomputable abbrev D1 (e : zaa) (KN : KS) (E : KE) (l0 : Loc) (kp lap base many val dom given due told fault : Option Loc) (x : PyData) (σ : Hp) : Prop := e 17 [r0, pv x] σ (fun v σ => need (pdV v) fun d => Y4 e KN E l0 kp lap base many val (lp (.list [x])) dom given due told fault [d] σ) E
noncomputable abbrev D2 (e : zaa) (KN : KS) (E : KE) (l0 : Loc) (kp lap base many val dom given due told fault : Option Loc) (x y : PyData) (σ : Hp) : Prop := e 17 [r0, pv x] σ (fun v σ => need (pdV v) fun d => e 17 [r0, pv y] σ (fun v σ => need (pdV v) fun d' => Y4 e KN E l0 kp lap base many val (lp (.list [x, y])) dom given due told fault [d, d'] σ) E) E
theorem znH : evSs e gc1 (b27.drop 2) (f27 l0 kp lap base (lp (.int 0)) val (lp (.list [])) dims dom given due told fault) σ KN E = Y4 e KN E l0 kp lap base (lp (.int 0)) val (lp (.list [])) dom given due told fault [] σ := by kernel_rfl
theorem znG : evSs e gc1 (b27.drop 2) (f27 l0 kp lap base (lp (.int 0)) val (lp (.list [x])) dims dom given due told fault) σ KN E = Y4 e KN E l0 kp lap base (lp (.int 0)) val (lp (.list [])) dom given due told fault [] σ := by kernel_rfl
theorem znF : evSs e gc1 (b27.drop 2) (f27 l0 kp lap base (lp (.int 0)) val (lp (.list [x, y])) dims dom given due told fault) σ KN E = Y4 e KN E l0 kp lap base (lp (.int 0)) val (lp (.list [])) dom given due told fault [] σ := by kernel_rfl
theorem znE : evSs e gc1 (b27.drop 2) (f27 l0 kp lap base (lp (.int 1)) val (lp (.list [])) dims dom given due told fault) σ KN E = D1 e KN E l0 kp lap base (lp (.int 1)) val dom given due told fault (.int 2) σ := by kernel_rfl
theorem znD : evSs e gc1 (b27.drop 2) (f27 l0 kp lap base (lp (.int 1)) val (lp (.list [x])) dims dom given due told fault) σ KN E = D1 e KN E l0 kp lap base (lp (.int 1)) val dom given due told fault (x) σ := by kernel_rfl
theorem znC : evSs e gc1 (b27.drop 2) (f27 l0 kp lap base (lp (.int 1)) val (lp (.list [x, y])) dims dom given due told fault) σ KN E = D1 e KN E l0 kp lap base (lp (.int 1)) val dom given due told fault (x) σ := by kernel_rfl
theorem znB : evSs e gc1 (b27.drop 2) (f27 l0 kp lap base (lp (.int 2)) val (lp (.list [])) dims dom given due told fault) σ KN E = D2 e KN E l0 kp lap base (lp (.int 2)) val dom given due told fault (.int 2) (.int 2) σ := by kernel_rfl
theorem znA : evSs e gc1 (b27.drop 2) (f27 l0 kp lap base (lp (.int 2)) val (lp (.list [x])) dims dom given due told fault) σ KN E = D2 e KN E l0 kp lap base (lp (.int 2)) val dom given due told fault (x) (.int 2) σ := by kernel_rfl
theorem znz : evSs e gc1 (b27.drop 2) (f27 l0 kp lap base (lp (.int 2)) val (lp (.list [x, y])) dims dom given due told fault) σ KN E = D2 e KN E l0 kp lap base (lp (.int 2)) val dom given due told fault (x) (y) σ := by kernel_rfl
theorem y4 : Y4 e KN E l0 kp lap base many val sizes dom given due told fault ds σ = e 18 [r0] σ (fun v σ => evSs e gc1 (b27.drop 5) (f27 l0 kp lap base many val sizes (lp (.tuple ds)) (some (.v v)) given due told fault) σ KN E) E := by kernel_rfl
theorem y5 : evSs e gc1 (b27.drop 5) (f27 l0 kp (lp (.int j)) (lp (.str kn.w)) many (lp u) sizes (lp (.tuple ds)) (lp dd) given due told fault) σ KN E = zaX .repr [.pd u] σ (fun t σ => e 25 [pv (.str kn.w), pv (.tuple ds), pv dd, pv u, pv SC, iv (31 + j)] σ (fun v σ => evSs e gc1 (b27.drop 7) (f27 l0 kp (lp (.int j)) (lp (.str kn.w)) many (lp u) sizes (lp (.tuple ds)) (lp dd) (some (.v t)) (some (.v v)) told fault) σ KN E) E) := by kernel_rfl
noncomputable abbrev K27 (e : zaa) (KN : KS) (E : KE) : KS := fun f m' σ' => match f with
 | .next => evSs e gc1 (b27.drop 8) m' σ' KN E
 | f => KN f m' σ'
theorem y7 : evSs e gc1 (b27.drop 7) (f27 l0 kp (lp (.int j)) (lp (.str kn.w)) many (lp u) sizes (lp (.tuple ds)) (lp dd) given due told fault) σ KN E = e 34 [se SC, pv (tyD kn ds dd), pv u, iv (31 + j)] σ (fun v σ => evSs e gc1 (b27.drop 8) (f27 l0 kp (lp (.int j)) (lp (.str kn.w)) many (lp u) sizes (lp (.tuple ds)) (lp dd) given due (some (.v v)) fault) σ KN E) (fun x σ => evH e gc1 (hOf b27[7]?) x (f27 l0 kp (lp (.int j)) (lp (.str kn.w)) many (lp u) sizes (lp (.tuple ds)) (lp dd) given due told fault) σ (K27 e KN E) E) := by kernel_rfl
theorem y7b : evH e gc1 (hOf b27[7]?) (err t w) (f27 l0 kp lap base many val sizes dims dom given due told fault) σ (K27 e KN E) E = evSs e gc1 (b27.drop 8) (f27 l0 kp lap base many val sizes dims dom given due (lp (badT t w)) none) σ KN E := by kernel_rfl
noncomputable abbrev CK (giv keep : Str) (u : PyData) (t d : V) (σ : Hp) (RF NX : Hp -> Prop) : Prop := need (evOp .ne t d σ) fun x => truth (.pd x) fun q => brn q (truth (.pd x) fun q => brn q (RF σ) (NX σ)) (zaX .repr [.pd u] σ (fun t σ => need (evOp .ne t (.pd (.str giv)) σ) fun x => truth (.pd x) fun q => brn q (truth (.pd x) fun q => brn q (RF σ) (NX σ)) (zaX .repr [.pd SC] σ (fun t σ => need (evOp .ne t (.pd (.str keep)) σ) fun x => truth (.pd x) fun q => brn q (RF σ) (NX σ)))))
noncomputable abbrev F27 (l0 : Loc) (keep : Str) (lap base many : Option Loc) (u : PyData) (sizes dims dom : Option Loc) (giv : Str) (du td : PyData) (fault : Option Loc) : Fm := f27 l0 (lp (.str keep)) lap base many (lp u) sizes dims dom (lp (.str giv)) (lp du) (lp td) fault
theorem y8 : evSs e gc1 (b27.drop 8) (F27 l0 keep lap base many u sizes dims dom giv du td fault) σ KN E = zaX .repr [.pd td] σ (fun t σ => zaX .repr [.pd du] σ (fun d σ => CK giv keep u t d σ (fun σ => KN (.ret (.pd (.bool false))) (F27 l0 keep lap base many u sizes dims dom giv du td fault) σ) (fun σ => evSs e gc1 (b27.drop 9) (F27 l0 keep lap base many u sizes dims dom giv du td fault) σ KN E))) := by kernel_rfl
theorem y9_0 : evSs e gc1 (b27.drop 9) (f27 l0 kp lap base (lp (.int 0)) val sizes dims dom given due told fault) σ KN E = KN .next (f27 l0 kp lap base (lp (.int 0)) val sizes dims dom given due told fault) σ := by kernel_rfl
theorem y9_b : (([1, 2] : List Int).map fun i => evSs e gc1 (b27.drop 9) (f27 l0 kp lap base (lp (.int i)) val sizes dims dom given due (lp (badT t w)) fault) σ KN E) = ([1, 2] : List Int).map fun i => KN .next (f27 l0 kp lap base (lp (.int i)) val sizes dims dom given due (lp (badT t w)) fault) σ := by kernel_rfl
theorem y9_a {ps us : List PyData} : (([1, 2] : List Int).map fun i => evSs e gc1 (b27.drop 9) (f27 l0 kp lap base (lp (.int i)) val sizes dims dom given due (lp (arrD ps us)) fault) σ KN E) = ([1, 2] : List Int).map fun i => need (evOp .ne (.pd (.tuple ps)) (.pd tBad) σ) fun x => truth (.pd x) fun q => brn q (e 26 [pv (arrD ps us)] σ (fun v σ => truth v fun q => brn (!q) (KN (.ret (.pd (.bool false))) (f27 l0 kp lap base (lp (.int i)) val sizes dims dom given due (lp (arrD ps us)) fault) σ) (KN .next (f27 l0 kp lap base (lp (.int i)) val sizes dims dom given due (lp (arrD ps us)) fault) σ)) E) (truth (.pd x) fun q => brn q (KN (.ret (.pd (.bool false))) (f27 l0 kp lap base (lp (.int i)) val sizes dims dom given due (lp (arrD ps us)) fault) σ) (KN .next (f27 l0 kp lap base (lp (.int i)) val sizes dims dom given due (lp (arrD ps us)) fault) σ)) := by kernel_rfl
end
structure CaseOk (m : Nat) (kn : Kn) (i : Int) (ds : List PyData) (u : PyData) (s : Int) (D : Dm) (r : Re PyData) : Prop where
 due : ∀ {K : KV} {E : KE} {σ : Hp}, K (.pd (zba r)) σ -> G1 (m + 10) 25 [pv (.str kn.w), pv (.tuple ds), pv D.d, pv u, pv SC, iv s] σ K E
 fit : ∀ {K : KV} {E : KE} {σ : Hp}, (∀ τ, OutD r K E (σ ++ τ)) -> G1 (m + 10) 34 [se SC, pv (tyD kn ds D.d), pv u, iv s] σ K E
 sh : Sh (zba r)
 fin : ∀ {KN : KS} {E : KE} {σ : Hp} {l0 : Loc} {kp lap base val sizes dims dom given du fault : Option Loc}, (∀ τ, KN .next (f27 l0 kp lap base (lp (.int i)) val sizes dims dom given du (lp (zba r)) fault) (σ ++ τ)) ->
  evSs (G1 (m + 10)) gc1 (b27.drop 9) (f27 l0 kp lap base (lp (.int i)) val sizes dims dom given du (lp (zba r)) fault) σ KN E
def SpOk (m : Nat) (us : List Vl) (sp : Re (List Pr)) : Prop := match sp with
 | .ok qs => (∀ q ∈ qs, q ∈ Qs) /\ qs.length <= 2 /\ ∀ vs : List Vl, (∀ v ∈ vs, v ∈ things) -> vs.length = us.length -> ∀ {K : KV} {E : KE} {σ : Hp}, (∀ τ, K (.pd (.bool true)) (σ ++ τ)) -> G1 (m + 10) 26 [pv (arrD (psD qs) (vs.map Vl.d))] σ K E
 | .bad t w => Okb t w
section
variable {m n b : Nat} {s i : Int} {K : KV} {E : KE} {σ τ : Hp} {e : zaa} {KN : KS} {kn : Kn} {l0 : Loc} {kp lap base val sizes dims dom given du fault : Option Loc} {u : Vl} {us vs : List Vl} {D : Dm} {t : Str} {w : Int} {ds p ps ls : List PyData} {d1 d2 : PyData} {sp : Re (List Pr)} {qs : List Pr} {i1 i2 : It} {q1 : Pr}
theorem zfo (h : Okb t w) : Sh (badT t w) := znm h.t h.w
theorem zjY (hs : s.natAbs <= 100) : Okb wArr s := ⟨by decide +kernel, hs⟩
theorem fin0 {td : PyData} (h : ∀ τ, KN .next (f27 l0 kp lap base (lp (.int 0)) val sizes dims dom given du (lp td) fault) (σ ++ τ)) : evSs e gc1 (b27.drop 9) (f27 l0 kp lap base (lp (.int 0)) val sizes dims dom given du (lp td) fault) σ KN E := by
 rw [y9_0]
 have h := h []
 rwa [List.append_nil] at h
theorem zhn (hi : i ∈ ([1, 2] : List Int)) (h : ∀ τ, KN .next (f27 l0 kp lap base (lp (.int i)) val sizes dims dom given du (lp (badT t w)) fault) (σ ++ τ)) : evSs e gc1 (b27.drop 9) (f27 l0 kp lap base (lp (.int i)) val sizes dims dom given du (lp (badT t w)) fault) σ KN E := by
 have h := h []
 rw [List.append_nil] at h
 exact zai y9_b hi h
theorem zml (h : PyData.canLayAll0 ls = true /\ PyData.depthAll ls <= 60) : evOp .ne (.pd (.tuple ls)) (.pd tBad) σ = some (.bool true) :=
 congrArg (Option.map fun r => PyData.bool (!r)) (gd_i (x := false) ⟨h.1, (by decide +kernel : tBad.canLay0 = true), Nat.le_trans (Nat.succ_le_succ h.2) (by decide)⟩ : eqP (.tuple ls) tBad = some false)
theorem zk0 (hi : i ∈ ([1, 2] : List Int)) (hl : PyData.canLayAll0 ps = true /\ PyData.depthAll ps <= 60) (hst : ∀ {K : KV} {E : KE} {σ : Hp}, (∀ τ, K (.pd (.bool true)) (σ ++ τ)) -> e 26 [pv (arrD ps ls)] σ K E)
  (h : ∀ τ, KN .next (f27 l0 kp lap base (lp (.int i)) val sizes dims dom given du (lp (arrD ps ls)) fault) (σ ++ τ)) : evSs e gc1 (b27.drop 9) (f27 l0 kp lap base (lp (.int i)) val sizes dims dom given du (lp (arrD ps ls)) fault) σ KN E := by
 refine zai y9_a hi ?_
 refine zab (zml hl) (zab (a := true) rfl (zhZ rfl ?_))
 exact hst fun τ => zab (a := true) rfl (zf7 rfl (h τ))
theorem zlE (hD : D ∈ domA) (hs : s.natAbs <= 100) (hu : Val u) : Sh (zba (fitA s kn D u)) := by
 unfold fitA
 cases e : D.r with
 | bad t w => exact zfo (zeW hD e)
 | ok b =>
  show Sh (zba ((zan s kn b.l u).bind fun v => .ok v.d))
  cases e2 : zan s kn b.l u with
  | bad t w => exact zfo (zfr (zfD hD e) hs hu e2)
  | ok v => exact (zic (zha hu e2)).sh (by decide) (by decide)
theorem zm0 (hD : D ∈ domA) (hs : s.natAbs <= 100) (hu : Val u) : CaseOk m kn 0 [] u.d s D (fitA s kn D u) :=
 ⟨fun h => zou (m := m + 6) hD hu h, fun h => zom (m := m + 1) hD hu h, zlE hD hs hu, fun h => fin0 h⟩
theorem zi5 (hD : D ∈ domA) (hs : s.natAbs <= 100) : ∃ t w, fitB s D = .bad t w /\ Okb t w := by
 unfold fitB
 cases e : D.r with
 | bad t w => exact ⟨t, w, rfl, zeW hD e⟩
 | ok b => exact ⟨wArr, s, rfl, zjY hs⟩
theorem zjR (hi : i ∈ ([1, 2] : List Int)) (hD : D ∈ domA) (hs : s.natAbs <= 100) (hu : u ∈ things) (hds : ds = [d1] \/ ds = [d1, d2]) (hl : Lay ds) : CaseOk m kn i ds u.d s D (fitB s D) := by
 obtain ⟨t, w, e, ok⟩ := zi5 hD hs
 refine ⟨fun h => zot (m := m + 7) hD hu hl h, fun h => zol (m := m + 1) hD hu hds h, ?_, ?_⟩
 ·rw [e]; exact zfo ok
 ·rw [e]; exact fun h => zhn hi h
theorem zl7 (h : ∀ q ∈ qs, q ∈ Qs) : PyData.canLayAll0 (psD qs) = true /\ PyData.depthAll (psD qs) <= 60 := by
 have hb : Qs.all (fun q => (prD q).canLay0 && decide ((prD q).depth <= 60)) = true := by decide +kernel
 induction qs with
 | nil => exact ⟨rfl, Nat.zero_le _⟩
 | cons q r ih =>
  obtain ⟨h1, h2⟩ := List.forall_mem_cons.mp h
  have g := Bool.and_eq_true_iff.mp (List.all_eq_true.mp hb _ h1)
  exact zaL ⟨g.1, of_decide_eq_true g.2⟩ (ih h2)
theorem zfa {a b : Nat} {f : List Pr -> Re PyData} : zba ((lenR a b s).bind f) = badT (wLen a b) s := rfl
theorem zmB {G : zaa} {p1 p2 : PyData} : R25 G kn [d1] [p1, p2] us s (lenR 1 2 s) := ⟨fun h => by rw [zor]; rw [zfa] at h; exact h⟩
theorem zmA {G : zaa} {p1 : PyData} : R25 G kn [d1, d2] [p1] us s (lenR 2 1 s) := ⟨fun h => by rw [zoq]; rw [zfa] at h; exact h⟩
theorem zfH (hi : i ∈ ([1, 2] : List Int)) (hD : D ∈ domA) (hs : s.natAbs <= 100) (hu : ∀ u ∈ us, u ∈ things) (hz : us.length <= 9) (hds : ds = [d1] \/ ds = [d1, d2]) (hl : Lay ds) (hsp : SpOk m us sp)
  (hr : R25 (G1 (m + 9)) kn ds p us s sp)
  (hq : ∀ {K : KV} {E : KE} {σ : Hp}, (∀ τ, OutQ sp K E (σ ++ τ)) -> G1 (m + 9) 32 [se SC, pv (.tuple ds), pv (arrD p (us.map Vl.d)), iv s] σ K E) :
  CaseOk m kn i ds (arrD p (us.map Vl.d)) s D (fitC s kn D us sp) := by
 have res : (∃ t w, fitC s kn D us sp = .bad t w /\ Okb t w) \/ ∃ (qs : List Pr) (vs : List Vl), fitC s kn D us sp = .ok (arrD (psD qs) (vs.map Vl.d)) /\ sp = .ok qs /\ (∀ v ∈ vs, v ∈ things) /\ vs.length = us.length := by
  unfold fitC
  cases e : D.r with
  | bad t w => exact .inl ⟨t, w, rfl, zeW hD e⟩
  | ok b =>
   show (∃ t w, ((zam s kn b.l us).bind fun vs => sp.bind fun qs => .ok (arrD (psD qs) (vs.map Vl.d))) = .bad t w /\ Okb t w) \/ ∃ (qs : List Pr) (vs : List Vl), ((zam s kn b.l us).bind fun vs => sp.bind fun qs => .ok (arrD (psD qs) (vs.map Vl.d))) = .ok (arrD (psD qs) (vs.map Vl.d)) /\ sp = .ok qs /\ (∀ v ∈ vs, v ∈ things) /\ vs.length = us.length
   cases e2 : zam s kn b.l us with
   | bad t w => exact .inl ⟨t, w, rfl, zdY (zfD hD e) hs hu e2⟩
   | ok vs =>
    cases e3 : sp with
    | bad t w => rw [e3] at hsp; exact .inl ⟨t, w, rfl, hsp⟩
    | ok qs => exact .inr ⟨qs, vs, rfl, rfl, zfq hu e2, zbI e2⟩
 refine ⟨fun h => zos (m := m + 6) hD hu (Nat.le_trans hz (by decide)) hl hr h, fun h => zok (m := m) hD hu (Nat.le_trans hz (by decide)) hds hq h, ?_, ?_⟩
 ·rcases res with ⟨t, w, e, ok⟩ | ⟨qs, vs, e, e2, hv, el⟩
  ·rw [e]; exact zfo ok
  ·rw [e2] at hsp
   obtain ⟨h1, h2, h3⟩ := hsp
   rw [e]
   exact (zh2 (fun q hq => Qs_sm (h1 q hq)) h2 hv (by rw [el]; exact hz)).sh (by decide) (by decide)
 ·rcases res with ⟨t, w, e, ok⟩ | ⟨qs, vs, e, e2, hv, el⟩
  ·rw [e]; exact fun h => zhn hi h
  ·rw [e2] at hsp
   obtain ⟨h1, h2, h3⟩ := hsp
   rw [e]
   exact fun h => zk0 hi (zl7 h1) (h3 vs hv el) h
theorem zlP (hs : s.natAbs <= 100) (h1 : i1.Ok) (hz : us.length = szP i1.p) : SpOk m us (seqR s [i1]) := by
 show SpOk m us ((i1.r s).bind fun q => (seqR s []).bind fun qs => .ok (q :: qs))
 cases e : i1.r s with
 | bad t w => exact zgt h1 hs e
 | ok q =>
  obtain ⟨hq, eq⟩ := sp_Q h1 e
  exact ⟨List.forall_mem_cons.mpr ⟨hq, fun _ h => nomatch h⟩, Nat.le_of_ble_eq_true rfl, fun vs hv el {_ _ _} h => zj9 (m := m + 5) hq (by rw [List.length_map, el, hz, eq]) (zjJ hv (by rw [el, hz, ← eq]; exact Nat.le_trans (sz3 hq) (by decide))) h⟩
theorem zlO (hs : s.natAbs <= 100) (h1 : i1.Ok) (h2 : i2.Ok) (hz : us.length = szP i1.p * szP i2.p) : SpOk m us (seqR s [i1, i2]) := by
 show SpOk m us ((i1.r s).bind fun q => ((i2.r s).bind fun q => (seqR s []).bind fun qs => .ok (q :: qs)).bind fun qs => .ok (q :: qs))
 cases e : i1.r s with
 | bad t w => exact zgt h1 hs e
 | ok q =>
  show SpOk m us (((i2.r s).bind fun q => (seqR s []).bind fun qs => .ok (q :: qs)).bind fun qs => .ok (q :: qs))
  cases e2 : i2.r s with
  | bad t w => exact zgt h2 hs e2
  | ok q' =>
   obtain ⟨hq, eq⟩ := sp_Q h1 e
   obtain ⟨hq', eq'⟩ := sp_Q h2 e2
   exact ⟨List.forall_mem_cons.mpr ⟨hq, List.forall_mem_cons.mpr ⟨hq', fun _ h => nomatch h⟩⟩, Nat.le_of_ble_eq_true rfl, fun vs hv el {_ _ _} h => zj8 (m := m + 5) hq hq' (by rw [List.length_map, el, hz, eq, eq']) (zjJ hv (by rw [el, hz, ← eq, ← eq']; exact Nat.mul_le_mul (sz3 hq) (sz3 hq'))) h⟩
theorem ziV (hs : s.natAbs <= 100) : SpOk m us (lenR 1 2 s) := ⟨(by decide +kernel : okS' (wLen 1 2) = true), hs⟩
theorem ziU (hs : s.natAbs <= 100) : SpOk m us (lenR 2 1 s) := ⟨(by decide +kernel : okS' (wLen 2 1) = true), hs⟩
theorem zm2 (hi : i ∈ ([1, 2] : List Int)) (hD : D ∈ domA) (hs : s.natAbs <= 100) (hu : ∀ u ∈ us, u ∈ things) (h1 : i1.Ok) (hn : szP i1.p < 4) (hz : us.length = szP i1.p) : CaseOk m kn i [i1.d] (arrD [prD i1.p] (us.map Vl.d)) s D (fitC s kn D us (seqR s [i1])) :=
 zfH (d1 := i1.d) (d2 := i1.d) hi hD hs hu (by rw [hz]; exact Nat.le_trans (Nat.le_of_lt hn) (by decide)) (.inl rfl) (lay1 h1) (zlP hs h1 hz) (sp1 h1 (r24 (m := m + 6) h1)) (fun h => rng1 (m := m) h1 h)
theorem zm1 (hi : i ∈ ([1, 2] : List Int)) (hD : D ∈ domA) (hs : s.natAbs <= 100) (hu : ∀ u ∈ us, u ∈ things) (h1 : i1.Ok) (h2 : i2.Ok) (hn : us.length <= 9) (hz : us.length = szP i1.p * szP i2.p) : CaseOk m kn i [i1.d, i2.d] (arrD [prD i1.p, prD i2.p] (us.map Vl.d)) s D (fitC s kn D us (seqR s [i1, i2])) :=
 zfH (d1 := i1.d) (d2 := i2.d) hi hD hs hu hn (.inr rfl) (lay2 h1 h2) (zlO hs h1 h2 hz) (sp2 h1 h2 (r24 (m := m + 6) h1) (r24 (m := m + 6) h2)) (fun h => rng2 (m := m) h1 h2 h)
theorem zl3 {p1 p2 : PyData} {vl : List PyData} (h : ∀ τ, OutQ (lenR 1 2 s) K E (σ ++ τ)) : G1 (m + 9) 32 [se SC, pv (.tuple [d1]), pv (arrD [p1, p2] vl), iv s] σ K E := by
 have h := h []
 rw [List.append_nil] at h
 have e := zl6 (G := G1 (m + 8)) (d1 := d1) (p1 := p1) (p2 := p2) (us := vl) (s := s) (σ := σ) (K := K) (E := E)
 exact zaZ (m + 8) _ _ _ _ _ (e.symm ▸ h)
theorem zl2 {p1 : PyData} {vl : List PyData} (h : ∀ τ, OutQ (lenR 2 1 s) K E (σ ++ τ)) : G1 (m + 9) 32 [se SC, pv (.tuple [d1, d2]), pv (arrD [p1] vl), iv s] σ K E := by
 have h := h []
 rw [List.append_nil] at h
 have e := zl5 (G := G1 (m + 8)) (d1 := d1) (d2 := d2) (p1 := p1) (us := vl) (s := s) (σ := σ) (K := K) (E := E)
 exact zaZ (m + 8) _ _ _ _ _ (e.symm ▸ h)
theorem zlc {p1 p2 : PyData} (hi : i ∈ ([1, 2] : List Int)) (hD : D ∈ domA) (hs : s.natAbs <= 100) (hu : ∀ u ∈ us, u ∈ things) (h1 : i1.Ok) (hn : us.length <= 9) : CaseOk m kn i [i1.d] (arrD [p1, p2] (us.map Vl.d)) s D (fitC s kn D us (lenR 1 2 s)) :=
 zfH (d1 := i1.d) (d2 := i1.d) hi hD hs hu hn (.inl rfl) (lay1 h1) (ziV hs) zmB (fun h => zl3 h)
theorem zlb {p1 : PyData} (hi : i ∈ ([1, 2] : List Int)) (hD : D ∈ domA) (hs : s.natAbs <= 100) (hu : ∀ u ∈ us, u ∈ things) (h1 : i1.Ok) (h2 : i2.Ok) (hn : us.length <= 9) : CaseOk m kn i [i1.d, i2.d] (arrD [p1] (us.map Vl.d)) s D (fitC s kn D us (lenR 2 1 s)) :=
 zfH (d1 := i1.d) (d2 := i2.d) hi hD hs hu hn (.inr rfl) (lay2 h1 h2) (ziU hs) zmA (fun h => zl2 h)
end
structure Nx (cs : List Int) (b : Nat) (keep : Str) (j : Int) (l0 : Loc) (KN : KS) : Prop where
 go : ∀ base many val sizes dims dom given due told fault k τ, Bu cs k b -> KN .next (f27 l0 (lp (.str keep)) (lp (.int j)) base many val sizes dims dom given due told fault) (sk cs k :: τ)
structure Cases (m : Nat) (kn : Kn) (i : Int) (ds : List PyData) (u : PyData) (s : Int) : Prop where
 go : ∀ D ∈ domA, ∃ r, CaseOk m kn i ds u s D r
section
variable {m n b : Nat} {s i j k : Int} {cs : List Int} {K : KV} {E : KE} {σ τ : Hp} {KN : KS} {kn : Kn} {l0 : Loc} {keep giv : Str} {kp lap base many val sizes dims dom given due told fault : Option Loc} {u : Vl} {us : List Vl} {D : Dm} {t : Str} {w : Int} {ds p : List PyData} {x y : PyData} {pr qr : Pr}
theorem sh0 : Sh SC := ⟨by decide +kernel, by decide +kernel, by decide +kernel⟩
theorem nse : evOp .ne (.pd (.str t)) (.pd (.str t)) σ = some (.bool false) := congrArg (fun b => some (PyData.bool (!b))) (zgF t)
theorem ck {RF NX : Hp -> Prop} (hu : Sh x) (h : NX σ) : CK (PyData.shown x) (PyData.shown SC) x (.pd (.str t)) (.pd (.str t)) σ RF NX :=
 zab nse (zab rfl (zf7 rfl (zeF hu (zab nse (zab rfl (zf7 rfl (zeF sh0 (zab nse (zab rfl (zf7 rfl h))))))))))
theorem core (hu : Sh x) (B : Bu cs k (b + 2)) (H : Cases m kn i ds x (31 + j)) (hn : Nx cs b (PyData.shown SC) j l0 KN) :
  Y4 (G1 (m + 10)) KN E l0 (lp (.str (PyData.shown SC))) (lp (.int j)) (lp (.str kn.w)) (lp (.int i)) (lp x) sizes dom given due told fault ds (sk cs k :: τ) := by
 show Y4 (G1 (m + 10)) KN E l0 (lp (.str (PyData.shown SC))) (lp (.int j)) (lp (.str kn.w)) (lp (.int i)) (lp x) sizes dom given due told fault ds (sk cs k :: τ)
 rw [y4]
 refine zmY (m := m + 8) B fun D hD k B => ?_
 obtain ⟨r, c⟩ := H.go D hD
 rw [y5]
 refine zeF hu ?_
 refine c.due ?_
 rw [y7]
 refine c.fit fun τ' => ?_
 have fin : ∀ fault Z, evSs (G1 (m + 10)) gc1 (b27.drop 8) (F27 l0 (PyData.shown SC) (lp (.int j)) (lp (.str kn.w)) (lp (.int i)) x sizes (lp (.tuple ds)) (lp D.d) (PyData.shown x) (zba r) (zba r) fault) (sk cs k :: Z) KN E := by
  intro fault Z
  rw [y8]
  refine zeF c.sh ?_
  refine zeF c.sh ?_
  refine ck hu ?_
  exact c.fin fun τ'' => hn.go _ _ _ _ _ _ _ _ _ _ _ _ B
 cases r with
 | ok d => exact fin _ _
 | bad t w =>
  show evH _ _ _ (err t w) _ _ _ _
  rw [y7b]
  exact fin _ _
theorem dim2 (B : Bu cs k (b + 3)) (h : ∀ o, OkO o -> ∀ k', Bu cs k' b -> K (.pd (It.d ⟨o, (0, 0)⟩)) (sk cs k' :: τ)) : G1 (m + 10) 17 [r0, pv (.int 2)] (sk cs k :: τ) K E := zjP (m := m + 8) (n := 2) (by decide) B h
theorem zk6 (hn : n < 4) (B : Bu cs k (b + 3)) (h : ∀ o, OkO o -> ∀ k', Bu cs k' b -> K (.pd (It.d ⟨o, (0, 0)⟩)) (sk cs k' :: τ)) : G1 (m + 10) 17 [r0, pv (.int n)] (sk cs k :: τ) K E := zjP (m := m + 8) (n := n) hn B h
theorem z0 : (0, 0) ∈ los := (by decide +kernel : los.contains (0, 0) = true) |> List.contains_iff_mem.mp
theorem zkV : (1 : Int) ∈ ([1, 2] : List Int) := .head _
theorem zkU : (2 : Int) ∈ ([1, 2] : List Int) := .tail _ (.head _)
theorem go0 (hs : (31 + j).natAbs <= 100) (hv : Val u) (hu : Sh u.d) (B : Bu cs k (b + 2)) (hn : Nx cs b (PyData.shown SC) j l0 KN) :
  Y4 (G1 (m + 10)) KN E l0 (lp (.str (PyData.shown SC))) (lp (.int j)) (lp (.str kn.w)) (lp (.int 0)) (lp u.d) sizes dom given due told fault [] (sk cs k :: τ) :=
 core hu B ⟨fun D hD => ⟨_, zm0 hD hs hv⟩⟩ hn
structure C1 (m : Nat) (kn : Kn) (u : PyData) (s : Int) : Prop where
 go : ∀ o, OkO o -> Cases m kn 1 [It.d ⟨o, (0, 0)⟩] u s
structure C2 (m : Nat) (kn : Kn) (u : PyData) (s : Int) : Prop where
 go : ∀ o, OkO o -> ∀ o', OkO o' -> Cases m kn 2 [It.d ⟨o, (0, 0)⟩, It.d ⟨o', (0, 0)⟩] u s
theorem go1 {nd : PyData} {n : Nat} (hn4 : n < 4) (e : nd = .int n) (hu : Sh x) (c : C1 m kn x (31 + j)) (B : Bu cs k (b + 5)) (hn : Nx cs b (PyData.shown SC) j l0 KN) :
  D1 (G1 (m + 10)) KN E l0 (lp (.str (PyData.shown SC))) (lp (.int j)) (lp (.str kn.w)) (lp (.int 1)) (lp x) dom given due told fault nd (sk cs k :: τ) := by
 subst e
 exact zk6 (b := b + 2) hn4 B fun o ho k' B => pd_i (core hu B (c.go o ho) hn)
theorem go2 {nd nd' : PyData} {n n' : Nat} (hn4 : n < 4) (e : nd = .int n) (hn4' : n' < 4) (e' : nd' = .int n') (hu : Sh x) (c : C2 m kn x (31 + j)) (B : Bu cs k (b + 8)) (hn : Nx cs b (PyData.shown SC) j l0 KN) :
  D2 (G1 (m + 10)) KN E l0 (lp (.str (PyData.shown SC))) (lp (.int j)) (lp (.str kn.w)) (lp (.int 2)) (lp x) dom given due told fault nd nd' (sk cs k :: τ) := by
 subst e e'
 exact zk6 (b := b + 5) hn4 B fun o ho k' B => pd_i (zk6 (b := b + 2) hn4' B fun o' ho' k' B => pd_i (core hu B (c.go o ho o' ho') hn))
theorem zoF (hs : s.natAbs <= 100) (hu : u ∈ things) : C1 m kn u.d s := ⟨fun o ho => ⟨fun D hD => ⟨_, zjR (d1 := It.d ⟨o, (0, 0)⟩) (d2 := It.d ⟨o, (0, 0)⟩) zkV hD hs hu (.inl rfl) (lay1 (ho.it z0))⟩⟩⟩
theorem zoE (hs : s.natAbs <= 100) (hu : u ∈ things) : C2 m kn u.d s := ⟨fun o ho o' ho' => ⟨fun D hD => ⟨_, zjR (d1 := It.d ⟨o, (0, 0)⟩) (d2 := It.d ⟨o', (0, 0)⟩) zkU hD hs hu (.inr rfl) (lay2 (ho.it z0) (ho'.it z0))⟩⟩⟩
theorem c1_a (hs : s.natAbs <= 100) (hp : pr ∈ los) (hu : ∀ u ∈ us, u ∈ things) (hz : us.length = szP pr) : C1 m kn (arrD [prD pr] (us.map Vl.d)) s :=
 ⟨fun o ho => ⟨fun D hD => ⟨_, zm2 (i1 := ⟨o, pr⟩) zkV hD hs hu (ho.it hp) (zby hp).2 hz⟩⟩⟩
theorem c2_a (hs : s.natAbs <= 100) (hp : pr ∈ los) (hu : ∀ u ∈ us, u ∈ things) (hz : us.length = szP pr) : C2 m kn (arrD [prD pr] (us.map Vl.d)) s :=
 ⟨fun o ho o' ho' => ⟨fun D hD => ⟨_, zlb (i1 := ⟨o, pr⟩) (i2 := ⟨o', pr⟩) zkU hD hs hu (ho.it hp) (ho'.it hp) (by rw [hz]; exact Nat.le_trans (Nat.le_of_lt (zby hp).2) (by decide))⟩⟩⟩
theorem sz9 (hp : pr ∈ los) (hq : qr ∈ los) (hz : us.length = szP pr * szP qr) : us.length <= 9 := by
 rw [hz]; exact Nat.mul_le_mul (Nat.le_of_lt_succ (zby hp).2) (Nat.le_of_lt_succ (zby hq).2)
theorem c1_b (hs : s.natAbs <= 100) (hp : pr ∈ los) (hq : qr ∈ los) (hu : ∀ u ∈ us, u ∈ things) (hz : us.length = szP pr * szP qr) : C1 m kn (arrD [prD pr, prD qr] (us.map Vl.d)) s :=
 ⟨fun o ho => ⟨fun D hD => ⟨_, zlc (i1 := ⟨o, pr⟩) zkV hD hs hu (ho.it hp) (sz9 hp hq hz)⟩⟩⟩
theorem c2_b (hs : s.natAbs <= 100) (hp : pr ∈ los) (hq : qr ∈ los) (hu : ∀ u ∈ us, u ∈ things) (hz : us.length = szP pr * szP qr) : C2 m kn (arrD [prD pr, prD qr] (us.map Vl.d)) s :=
 ⟨fun o ho o' ho' => ⟨fun D hD => ⟨_, zm1 (i1 := ⟨o, pr⟩) (i2 := ⟨o', qr⟩) zkU hD hs hu (ho.it hp) (ho'.it hq) (sz9 hp hq hz) hz⟩⟩⟩
end
section
variable {m n b : Nat} {s i j k : Int} {cs : List Int} {K : KV} {E : KE} {σ τ : Hp} {KN : KS} {kn : Kn} {l0 : Loc} {kp lap base many val sizes dims dom given due told fault : Option Loc} {L : PyData} {e : zaa} {d : PyData}
theorem ku (hi : i ∈ below 3) (hs : (31 + j).natAbs <= 100) (hn : Nx cs b (PyData.shown SC) j l0 KN) : VK cs (b + 8) (KU (G1 (m + 10)) KN E l0 (lp (.str (PyData.shown SC))) (lp (.int j)) (lp (.str kn.w)) (lp (.int i)) val sizes dims dom given due told fault) := by
 have hi : i ∈ ([0, 1, 2] : List Int) := hi
 simp only [List.mem_cons, List.not_mem_nil, or_false] at hi
 have a1 : 2 <= 8 := by decide
 have a2 : 5 <= 8 := by decide
 refine ⟨fun u hu k τ B => ?_, fun p hp us hus hz k τ B => ?_, fun p hp q hq us hus hz k τ B => ?_⟩
 ·have sh : Sh u.d := (zic hu).sh (by decide) (by decide)
  rw [y1b]
  rcases hi with rfl | rfl | rfl
  ·rw [znH]; exact go0 hs (.th hu) sh (B.le (Nat.add_le_add_left a1 b)) hn
  ·rw [znE]; exact go1 (n := 2) (by decide) rfl sh (zoF hs hu) (B.le (Nat.add_le_add_left a2 b)) hn
  ·rw [znB]; exact go2 (n := 2) (n' := 2) (by decide) rfl (by decide) rfl sh (zoE hs hu) B hn
 ·have hp4 := (zby hp).2
  have sh : Sh (arrD [prD p] (us.map Vl.d)) := (zh2 (qs := [p]) (List.forall_mem_cons.mpr ⟨zg6 hp, fun _ h => nomatch h⟩) (Nat.le_of_ble_eq_true rfl) hus (by rw [hz]; exact Nat.le_trans (Nat.le_of_lt hp4) (by decide))).sh (by decide) (by decide)
  rw [y1b]
  rcases hi with rfl | rfl | rfl
  ·rw [znG]; exact go0 (u := .arr [prD p] (us.map Vl.d)) hs (.arr _ _) sh (B.le (Nat.add_le_add_left a1 b)) hn
  ·rw [znD]; exact go1 hp4 rfl sh (c1_a hs hp hus hz) (B.le (Nat.add_le_add_left a2 b)) hn
  ·rw [znA]; exact go2 (n' := 2) hp4 rfl (by decide) rfl sh (c2_a hs hp hus hz) B hn
 ·have hp4 := (zby hp).2
  have hq4 := (zby hq).2
  have sh : Sh (arrD [prD p, prD q] (us.map Vl.d)) := (zh2 (qs := [p, q]) (List.forall_mem_cons.mpr ⟨zg6 hp, List.forall_mem_cons.mpr ⟨zg6 hq, fun _ h => nomatch h⟩⟩) (Nat.le_of_ble_eq_true rfl) hus (sz9 hp hq hz)).sh (by decide) (by decide)
  rw [y1b]
  rcases hi with rfl | rfl | rfl
  ·rw [znF]; exact go0 (u := .arr [prD p, prD q] (us.map Vl.d)) hs (.arr _ _) sh (B.le (Nat.add_le_add_left a1 b)) hn
  ·rw [znC]; exact go1 hp4 rfl sh (c1_b hs hp hq hus hz) (B.le (Nat.add_le_add_left a2 b)) hn
  ·rw [znz]; exact go2 hp4 rfl hq4 rfl sh (c2_b hs hp hq hus hz) B hn
theorem kn5 {r : Int} (hr : r ∈ below 5) : ∃ kn : Kn, zaA σ (.pd kns5) (.pd (.int r)) = some (.pd (.str kn.w)) := by
 have hr : r ∈ ([0, 1, 2, 3, 4] : List Int) := hr
 simp only [List.mem_cons, List.not_mem_nil, or_false] at hr
 rcases hr with rfl | rfl | rfl | rfl | rfl
 ·exact ⟨.int, by kernel_rfl⟩
 ·exact ⟨.int, by kernel_rfl⟩
 ·exact ⟨.set, by kernel_rfl⟩
 ·exact ⟨.bool, by kernel_rfl⟩
 ·exact ⟨.str, by kernel_rfl⟩
theorem mn5 {r : Int} (hr : r ∈ below 5) : ∃ i ∈ below 3, zaA σ (.pd zms) (.pd (.int r)) = some (.pd (.int i)) := by
 have hr : r ∈ ([0, 1, 2, 3, 4] : List Int) := hr
 simp only [List.mem_cons, List.not_mem_nil, or_false] at hr
 rcases hr with rfl | rfl | rfl | rfl | rfl
 ·exact ⟨1, zbq (by decide) (by decide), by kernel_rfl⟩
 ·exact ⟨1, zbq (by decide) (by decide), by kernel_rfl⟩
 ·exact ⟨2, zbq (by decide) (by decide), by kernel_rfl⟩
 ·exact ⟨2, zbq (by decide) (by decide), by kernel_rfl⟩
 ·exact ⟨0, zbq (by decide) (by decide), by kernel_rfl⟩
theorem zmC (hs : (31 + j).natAbs <= 100) (hn : Nx cs b (PyData.shown SC) j l0 KN) (B : Bu cs k (b + 34)) : evSs (G1 (m + 10)) gc1 b27 (f27 l0 (lp (.str (PyData.shown SC))) (lp (.int j)) base many val sizes dims dom given due told fault) (sk cs k :: τ) KN E := by
 rw [y0]
 refine draw (m := m + 9) (many := 5) (by decide) B fun r hr B => ?_
 obtain ⟨kn, e1⟩ := kn5 (σ := sk cs (k + 1) :: τ) hr
 refine zab e1 ?_
 refine draw (m := m + 9) (many := 5) (by decide) B fun r hr B => ?_
 obtain ⟨i, hi, e2⟩ := mn5 (σ := sk cs (k + 1 + 1) :: τ) hr
 refine zab e2 ?_
 rw [y1]
 exact zlx (m := m + 7) (b := b + 8) hi (ku hi hs hn) B
theorem zck {l : List PyData} (hs : (31 + j).natAbs <= 100) (B : Bu cs k (b + 34))
  (h : ∀ base many val sizes dims dom given due told fault k τ, Bu cs k b -> LL (G1 (m + 10)) K E l (f27 l0 (lp (.str (PyData.shown SC))) (lp (.int j)) base many val sizes dims dom given due told fault) (sk cs k :: τ)) :
  LL (G1 (m + 10)) K E (.int j :: l) (f27 l0 (lp (.str (PyData.shown SC))) lap base many val sizes dims dom given due told fault) (sk cs k :: τ) := by
 rw [zlp]
 exact zmC hs ⟨h⟩ B
theorem laps (B : Bu cs k (0 + 34 + 34 + 34 + 34)) (h : ∀ σ, K (.pd (.bool true)) σ) : LL (G1 (m + 10)) K E [.int 0, .int 1, .int 2, .int 3] (f27 l0 (lp (.str (PyData.shown SC))) lap base many val sizes dims dom given due told fault) (sk cs k :: τ) := by
 refine zck (b := 0 + 34 + 34 + 34) (by decide) B fun _ _ _ _ _ _ _ _ _ _ k τ B => ?_
 refine zck (b := 0 + 34 + 34) (by decide) B fun _ _ _ _ _ _ _ _ _ _ k τ B => ?_
 refine zck (b := 0 + 34) (by decide) B fun _ _ _ _ _ _ _ _ _ _ k τ B => ?_
 refine zck (b := 0) (by decide) B fun _ _ _ _ _ _ _ _ _ _ k τ B => ?_
 rw [znt]
 exact h _
theorem zhU {KK : List PyData -> Hp -> Prop} (cs : List Int) : ∀ (acc : List PyData), acc.length + cs.length <= sizeLine -> KK (acc ++ (cs.map fun i => Int.emod i 1000003).map .int) [] -> zau (CE e L E) (fun σ' k => still [] σ' (.pd d) k) KK (cs.map .int) acc [] := by
 induction cs with
 | nil =>
  intro acc _ h
  rw [List.map_nil, List.map_nil, List.append_nil] at h
  exact h
 | cons i r ih =>
  intro acc hl h
  rw [List.length_cons] at hl
  show CE e L E (.int i) acc [] fun acc' σ' => still [] σ' (.pd d) (zau (CE e L E) (fun σ' k => still [] σ' (.pd d) k) KK (r.map .int) acc' σ')
  rw [zmZ]
  refine zah (Nat.le_trans (Nat.le_add_right _ _) hl) ?_
  show zau (CE e L E) (fun σ' k => still [] σ' (.pd d) k) KK (r.map .int) (acc ++ [.int (Int.emod i 1000003)]) []
  refine ih _ (acc1 hl) ?_
  rw [app1]
  exact h
theorem zjn (l : List Int) (hl : l.length <= 63) : ∃ cs : List Int, zdr [] (.pd (.list (l.map .int))) none (some 60) = some (.list (cs.map .int)) /\ cs.length <= 60 := by
 refine ⟨l.take (clipAt (l.map PyData.int).length 60), (congrArg (fun o => alt o _) (gd_i (by rw [List.length_map]; exact Nat.le_trans hl (by decide)))).trans ?_, ?_⟩
 ·show some (PyData.list (cut (l.map .int) none (some 60))) = _
  unfold cut
  simp only [Option.elim, List.drop_zero, Nat.sub_zero, List.map_take]
 ·rw [List.length_take, List.length_map]
  exact Nat.le_trans (Nat.min_le_left _ _) (Int.ofNat_le.mp (by rw [clipAt_cast]; exact Int.max_le.mpr ⟨by decide, Int.min_le_left _ _⟩))
theorem ziX (l : List Int) (hl : l.length <= 63) : stp (G1 (m + 10)) 27 [pv (.list (l.map .int))] [] (fun v _ => v = .pd (.bool true)) E := by
 obtain ⟨cs, hc, cl⟩ := zjn l hl
 rw [x1, x2, x3]
 refine zab hc ?_
 refine zab (a := cs.map .int) rfl ?_
 refine zhU cs [] (za8 (m := 60) (by rw [List.length_nil, Nat.zero_add]; exact cl) (by decide)) ?_
 refine zah (za8 (m := 60) (by rw [List.nil_append, List.length_map, List.length_map]; exact cl) (by decide)) ?_
 have cl' : (cs.map fun i => Int.emod i 1000003).length <= 60 := by rw [List.length_map]; exact cl
 show evSs (G1 (m + 10)) gc1 (fn27.body.drop 1) (g27 (.list (l.map .int)) (some r0)) (sk (cs.map fun i => Int.emod i 1000003) 0 :: []) (retK _) E
 generalize (cs.map fun i => Int.emod i 1000003) = ds at cl'
 have B : Bu ds 0 (0 + 34 + 34 + 34 + 34) := ⟨cl', Int.le_refl 0, by decide +kernel⟩
 rw [a2]
 refine zeF sh0 ?_
 rw [a3]
 exact laps B fun σ => rfl
end
theorem law4 (l : List Int) (hl : l.length <= 63) : zaM tab1 gc1 500 27 [.v (.pd (.list (l.map .int)))] [] (fun v _ => v = .pd (.bool true)) (fun _ _ => False) :=
 zaZ 499 27 _ _ _ _ (ziX (m := 489) l hl)
end Mine.Lake.Pl
open PySem PySem.W PyProof.Rows
namespace Mine.Lake
theorem prom1 : rw.row.toRowW.promised := by w_witness
end Mine.Lake
theorem PySem.Challenge.cw_pq0379_04_holds : PySem.Challenge.rw_pq0379_04.Holds :=
 Mine.Lake.holds_of (Mine.Lake.walk1 Mine.Lake.Pl.law4) Mine.Lake.prom1
