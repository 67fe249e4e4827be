import PyProof.Rows.All
import Wide.All
import OpenK.AllK
import Wide.FinOn
import KE.KDeep
import KE.KSortedM
import KE.KRevSl
import KE.KDictOf
import KE.KPairTest
import KE.KUnpack
import KE.KItem
import PyProof.StrCalls2
import PyProof.Rows.StrWeight2
import KE.KSuperObj
import PyProof.InstStoreFacts
import PyProof.ExcClass3
import PyProof.ExcBaseAll.Exception
import PyProof.StrLawsRepr
import PyProof.Rows.StrDigits
import PyProof.Rows.StrJoinMade
import PyProof.Rows.StrSplitJoin
import PyProof.ReprLen
import PySem.Challenge.RW_pq0379_03
set_option Elab.async false
set_option linter.all false
set_option bootstrap.genMatcherCode false
set_option genSizeOf false
set_option genInjectivity false
set_option maxRecDepth 100000
set_option maxHeartbeats 0
namespace Mine.Lake
open PySem PySem.W PyProof.Rows
noncomputable abbrev pw : Program := PySem.Challenge.pw_pq0379_03
noncomputable abbrev rw : OpenLaw := PySem.Challenge.rw_pq0379_03
noncomputable def st (i : Nat) : Stmt := (pw.main.body[i]?).getD default
noncomputable def ms (i j : Nat) : Stmt := match st i with | .ClassDef _ _ _ b .. => (b[j]?).getD default | _ => default
noncomputable def fa : Stmt -> Arguments | .FunctionDef _ a .. => a | _ => default
noncomputable def fb : Stmt -> List Stmt | .FunctionDef _ _ b .. => b | _ => []
noncomputable def fs : Stmt -> Scope | .FunctionDef _ _ _ _ _ _ s .. => s | _ => default
noncomputable def fp : Stmt -> Pos | .FunctionDef _ _ _ _ _ _ _ _ _ p => p | _ => default
noncomputable def zs (s : String) (t : Nat) : Value := .str (Str.ofString s) t
noncomputable def zf (t : Nat) : Value := .str (Str.ofString "/claim/cut.py") t
noncomputable def zi (i : Int) : Value := .int i 0
noncomputable def zd (P : Params) (s : String) (t : Nat) (v : Value) : DictEntry := ⟨PyData.keyHash P (Str.ofString s), .str (Str.ofString s) t, v⟩
noncomputable def zc (a : Nat) (n : String) (t : Nat) (q : String) (t2 f : Nat) (x y z u v : Int) (r : Nat) (b : Bool) (g : Int) (r2 : Nat) (w : Value) (r3 r4 r5 : Nat) (x2 y2 : Int) (f2 : Nat) : Nat × Obj := (a, ⟨.type "code", none, .fields #[zs n t, zs q t2, zf f, zi x, zi y, zi z, zi u, zi v, .ref r, .bool b, zi g, .ref r2, w, .ref r3, .ref r4, .ref r5, zi x2, zi y2, zf f2], #[]⟩)
noncomputable def zg (a : Nat) (n q : String) (s : Stmt) (l : List (Str × Addr)) (dV kV doc pm : Value) (c : Nat) : Nat × Obj := (a, ⟨.type "function", none, .func (fnX (Str.ofString n) (Str.ofString q) (fa s) (fb s) (fs s) l dV kV doc pm none (.ref c) .none), #[]⟩)
noncomputable def K (P : Params) : Frag := [
 (1, ⟨(.type "dict"), none, (.dict #[zd P "builtins" 162 (.ref 4), zd P "__main__" 163 (.ref 5)] 2), #[]⟩),
 (2, ⟨.none, none, (.dict #[zd P "type.__subclasses__.Exception.0" 269 (zi 75), zd P "type.__subclasses__.Exception.n" 270 (zi 1)] 2), #[]⟩),
 (3, ⟨(.type "dict"), none, (.dict #[zd P "__name__" 165 (zs "law_pq0379_03" 730), zd P "__doc__" 166 .none, zd P "__package__" 167 .none, zd P "__loader__" 168 (.builtin "__main__.__loader__#opaque"), zd P "__spec__" 169 .none, zd P "__annotations__" 170 (.ref 6), zd P "__builtins__" 171 (.ref 4), zd P "__file__" 173 (zf 172), zd P "__cached__" 174 .none, zd P "range_of" 196 (.ref 21), zd P "put_behind" 205 (.ref 28), zd P "from_values" 214 (.ref 35), zd P "next_from" 224 (.ref 42), zd P "has" 232 (.ref 49), zd P "FdError" 272 (.ref 75), zd P "SpotFault" 307 (.ref 104), zd P "EvalFault" 323 (.ref 116), zd P "LimitFault" 339 (.ref 128), zd P "MOST_VALUES" 343 (.int (100000) 342), zd P "MOST_POWER" 345 (.int (1000) 344), zd P "MOST_SHOWN" 347 (.int (1000) 346), zd P "is_array" 354 (.ref 137), zd P "is_set" 361 (.ref 144), zd P "number_of" 369 (.ref 151), zd P "truth_of" 377 (.ref 158), zd P "text_of" 385 (.ref 165), zd P "set_of" 393 (.ref 172), zd P "list_of" 401 (.ref 179), zd P "elements_of" 409 (.ref 186), zd P "row_of" 416 (.ref 193), zd P "span" 424 (.ref 200), zd P "quotient" 434 (.ref 207), zd P "within_figures" 441 (.ref 214), zd P "power" 452 (.ref 221), zd P "are_same" 458 (.ref 226), zd P "are_compared" 468 (.ref 233), zd P "joined_sets" 474 (.ref 238), zd P "reckoned" 484 (.ref 245), zd P "show_text" 490 (.ref 250), zd P "folded" 496 (.ref 255), zd P "FOLDING" 505 (.ref 256), zd P "scopes_of" 511 (.ref 261), zd P "Evaluator" 675 (.ref 363), zd P "fitted_one" 681 (.ref 372), zd P "called" 687 (.ref 377), zd P "alone" 696 (.ref 384), zd P "of_value" 702 (.ref 389), zd P "indexes_of" 712 (.ref 396), zd P "indexed" 718 (.ref 401), zd P "united" 729 (.ref 408), zd P "_law_kinds" 736 (.ref 409), zd P "_law_draw" 745 (.ref 416), zd P "_law_spot" 752 (.ref 423), zd P "_law_leaf" 758 (.ref 428), zd P "_law_bound" 769 (.ref 435), zd P "_law_let" 788 (.ref 442), zd P "_law_node" 803 (.ref 449), zd P "_law_shown" 809 (.ref 454), zd P "_law_sort" 816 (.ref 461), zd P "_law_kept" 822 (.ref 466), zd P "_law_item" 833 (.ref 473), zd P "_law_read" 839 (.ref 478), zd P "_law_heard" 847 (.ref 485), zd P "law" 853 (.ref 490)] 64), #[]⟩),
 zc 20 "range_of" 189 "range_of" 190 191 2 2 0 0 3 15 true 181 16 .none 17 18 19 194 2 195,
 zg 21 "range_of" "range_of" (st 1) [] .none .none .none (zs "fdsolve.domains" 187) 20,
 zc 27 "put_behind" 197 "put_behind" 198 199 4 3 0 0 3 22 true 181 23 .none 24 25 26 203 4 204,
 zg 28 "put_behind" "put_behind" (st 2) [] .none .none .none (zs "fdsolve.domains" 187) 27,
 zc 34 "from_values" 206 "from_values" 207 208 10 1 0 0 3 29 true 181 30 .none 31 32 33 212 10 213,
 zg 35 "from_values" "from_values" (st 3) [] .none .none .none (zs "fdsolve.domains" 187) 34,
 zc 41 "next_from" 215 "next_from" 216 217 15 2 0 0 3 36 true 181 37 .none 38 39 40 222 15 223,
 zg 42 "next_from" "next_from" (st 4) [] .none .none .none (zs "fdsolve.domains" 187) 41,
 zc 48 "has" 225 "has" 226 227 20 2 0 0 3 43 true 181 44 .none 45 46 47 230 20 231,
 zg 49 "has" "has" (st 5) [] .none .none .none (zs "fdsolve.domains" 187) 48,
 (50, ⟨(.type "tuple"), none, (.seq #[(.type "Exception")] 0), #[]⟩),
 (53, ⟨(.type "cell"), none, (.cell (some (.ref 75))), #[]⟩),
 (58, ⟨(.type "tuple"), none, (.seq #[(.ref 53)] 0), #[]⟩),
 zc 64 "__init__" 247 "FdError.__init__" 248 249 25 2 0 0 3 59 true 181 60 .none 61 62 63 253 25 254,
 (65, ⟨(.type "function"), none, (.func (fnX (Str.ofString "__init__") (Str.ofString "FdError.__init__") (fa (ms 7 0)) (fb (ms 7 0)) (fs (ms 7 0)) [((Str.ofString "__class__"), 53)] .none .none .none (zs "fdsolve.errors" 233) none (.ref 64) (.ref 58))), #[]⟩),
 zc 71 "told" 256 "FdError.told" 257 258 29 1 0 0 3 66 true 181 67 .none 68 69 70 260 29 261,
 zg 72 "told" "FdError.told" (ms 7 1) [] .none .none .none (zs "fdsolve.errors" 233) 71,
 (73, ⟨(.type "tuple"), none, (.seq #[(zs "what" 263)] 0), #[]⟩),
 (74, ⟨(.type "dict"), none, (.dict #[zd P "__module__" 242 (zs "fdsolve.errors" 233), zd P "__firstlineno__" 246 (.int (23) 245), zd P "__init__" 255 (.ref 65), zd P "told" 262 (.ref 72), zd P "__static_attributes__" 264 (.ref 73), zd P "__weakref__" 267 (.ref 76), zd P "__doc__" 268 .none] 4), #[]⟩),
 (75, ⟨(.type "type"), none, (.cls { name := (Str.ofString "FdError"), bases := [(.type "Exception")], mro := [(.ref 75), (.type "Exception"), (.type "BaseException"), (.type "object")], ns := 74, qualname := (Str.ofString "FdError"), hasDict := true, slotNames := [], subclasses := [(.ref 104), (.ref 128)], abstract := false, collection := none, hasDel := false }), #[(some (.ref 50)), none, (some (zs "FdError" 235)), (some (zs "FdError" 243)), (some (.builtin "Exception.__new__")), (some (.bool true))]⟩),
 (76, ⟨(.type "getset_descriptor"), none, (.fields #[(zs "__weakref__" 266), (.ref 75), (.builtin "ExceptionGroup.__weakref__"), .none]), #[]⟩),
 (79, ⟨(.type "tuple"), none, (.seq #[(.ref 75)] 0), #[]⟩),
 (82, ⟨(.type "cell"), none, (.cell (some (.ref 104))), #[]⟩),
 (87, ⟨(.type "tuple"), none, (.seq #[(.ref 82)] 0), #[]⟩),
 zc 93 "__init__" 285 "SpotFault.__init__" 286 287 33 3 0 0 3 88 true 181 89 .none 90 91 92 292 33 293,
 (94, ⟨(.type "function"), none, (.func (fnX (Str.ofString "__init__") (Str.ofString "SpotFault.__init__") (fa (ms 8 0)) (fb (ms 8 0)) (fs (ms 8 0)) [((Str.ofString "__class__"), 82)] .none .none .none (zs "fdsolve.errors" 233) none (.ref 93) (.ref 87))), #[]⟩),
 zc 100 "told" 295 "SpotFault.told" 296 297 37 1 0 0 3 95 true 181 96 .none 97 98 99 299 37 300,
 zg 101 "told" "SpotFault.told" (ms 8 1) [] .none .none .none (zs "fdsolve.errors" 233) 100,
 (102, ⟨(.type "tuple"), none, (.seq #[(zs "spot" 302)] 0), #[]⟩),
 (103, ⟨(.type "dict"), none, (.dict #[zd P "__module__" 280 (zs "fdsolve.errors" 233), zd P "__firstlineno__" 284 (.int (31) 283), zd P "__init__" 294 (.ref 94), zd P "told" 301 (.ref 101), zd P "__static_attributes__" 303 (.ref 102), zd P "__doc__" 305 .none] 3), #[]⟩),
 (104, ⟨(.type "type"), none, (.cls { name := (Str.ofString "SpotFault"), bases := [(.ref 75)], mro := [(.ref 104), (.ref 75), (.type "Exception"), (.type "BaseException"), (.type "object")], ns := 103, qualname := (Str.ofString "SpotFault"), hasDict := true, slotNames := [], subclasses := [(.ref 116)], abstract := false, collection := none, hasDel := false }), #[(some (.ref 79)), none, (some (zs "SpotFault" 273)), (some (zs "SpotFault" 281)), (some (.builtin "Exception.__new__")), (some (.bool true))]⟩),
 (107, ⟨(.type "tuple"), none, (.seq #[(.ref 104)] 0), #[]⟩),
 (114, ⟨(.type "tuple"), none, (.seq #[] 0), #[]⟩),
 (115, ⟨(.type "dict"), none, (.dict #[zd P "__module__" 315 (zs "fdsolve.errors" 233), zd P "__firstlineno__" 319 (.int (39) 318), zd P "__static_attributes__" 320 (.ref 114), zd P "__doc__" 321 .none] 2), #[]⟩),
 (116, ⟨(.type "type"), none, (.cls { name := (Str.ofString "EvalFault"), bases := [(.ref 104)], mro := [(.ref 116), (.ref 104), (.ref 75), (.type "Exception"), (.type "BaseException"), (.type "object")], ns := 115, qualname := (Str.ofString "EvalFault"), hasDict := true, slotNames := [], subclasses := [], abstract := false, collection := none, hasDel := false }), #[(some (.ref 107)), none, (some (zs "EvalFault" 308)), (some (zs "EvalFault" 316)), (some (.builtin "Exception.__new__")), (some (.bool true))]⟩),
 (119, ⟨(.type "tuple"), none, (.seq #[(.ref 75)] 0), #[]⟩),
 (126, ⟨(.type "tuple"), none, (.seq #[] 0), #[]⟩),
 (127, ⟨(.type "dict"), none, (.dict #[zd P "__module__" 331 (zs "fdsolve.errors" 233), zd P "__firstlineno__" 335 (.int (41) 334), zd P "__static_attributes__" 336 (.ref 126), zd P "__doc__" 337 .none] 2), #[]⟩),
 (128, ⟨(.type "type"), none, (.cls { name := (Str.ofString "LimitFault"), bases := [(.ref 75)], mro := [(.ref 128), (.ref 75), (.type "Exception"), (.type "BaseException"), (.type "object")], ns := 127, qualname := (Str.ofString "LimitFault"), hasDict := true, slotNames := [], subclasses := [], abstract := false, collection := none, hasDel := false }), #[(some (.ref 119)), none, (some (zs "LimitFault" 324)), (some (zs "LimitFault" 332)), (some (.builtin "Exception.__new__")), (some (.bool true))]⟩),
 zc 136 "is_array" 348 "is_array" 349 350 47 1 0 0 3 131 true 181 132 .none 133 134 135 352 47 353,
 zg 137 "is_array" "is_array" (st 15) [] .none .none .none (zs "fdsolve.values" 340) 136,
 zc 143 "is_set" 355 "is_set" 356 357 49 1 0 0 3 138 true 181 139 .none 140 141 142 359 49 360,
 zg 144 "is_set" "is_set" (st 16) [] .none .none .none (zs "fdsolve.values" 340) 143,
 zc 150 "number_of" 362 "number_of" 363 364 51 2 0 0 3 145 true 181 146 .none 147 148 149 367 51 368,
 zg 151 "number_of" "number_of" (st 17) [] .none .none .none (zs "fdsolve.values" 340) 150,
 zc 157 "truth_of" 370 "truth_of" 371 372 55 2 0 0 3 152 true 181 153 .none 154 155 156 375 55 376,
 zg 158 "truth_of" "truth_of" (st 18) [] .none .none .none (zs "fdsolve.values" 340) 157,
 zc 164 "text_of" 378 "text_of" 379 380 59 2 0 0 3 159 true 181 160 .none 161 162 163 383 59 384,
 zg 165 "text_of" "text_of" (st 19) [] .none .none .none (zs "fdsolve.values" 340) 164,
 zc 171 "set_of" 386 "set_of" 387 388 63 2 0 0 3 166 true 181 167 .none 168 169 170 391 63 392,
 zg 172 "set_of" "set_of" (st 20) [] .none .none .none (zs "fdsolve.values" 340) 171,
 zc 178 "list_of" 394 "list_of" 395 396 67 2 0 0 3 173 true 181 174 .none 175 176 177 399 67 400,
 zg 179 "list_of" "list_of" (st 21) [] .none .none .none (zs "fdsolve.values" 340) 178,
 zc 185 "elements_of" 402 "elements_of" 403 404 71 2 0 0 3 180 true 181 181 .none 182 183 184 407 71 408,
 zg 186 "elements_of" "elements_of" (st 22) [] .none .none .none (zs "fdsolve.values" 340) 185,
 zc 192 "row_of" 410 "row_of" 411 412 73 1 0 0 3 187 true 181 188 .none 189 190 191 414 73 415,
 zg 193 "row_of" "row_of" (st 23) [] .none .none .none (zs "fdsolve.values" 340) 192,
 zc 199 "span" 417 "span" 418 419 75 2 0 0 3 194 true 181 195 .none 196 197 198 422 75 423,
 zg 200 "span" "span" (st 24) [] .none .none .none (zs "fdsolve.values" 340) 199,
 zc 206 "quotient" 425 "quotient" 426 427 79 3 0 0 3 201 true 181 202 .none 203 204 205 432 79 433,
 zg 207 "quotient" "quotient" (st 25) [] .none .none .none (zs "fdsolve.values" 340) 206,
 zc 213 "within_figures" 435 "within_figures" 436 437 84 1 0 0 3 208 true 181 209 .none 210 211 212 439 84 440,
 zg 214 "within_figures" "within_figures" (st 26) [] .none .none .none (zs "fdsolve.values" 340) 213,
 zc 220 "power" 442 "power" 443 444 88 3 0 0 3 215 true 181 216 .none 217 218 219 450 88 451,
 zg 221 "power" "power" (st 27) [] .none .none .none (zs "fdsolve.values" 340) 220,
 (225, ⟨(.type "code"), none, (.fields #[(zs "are_same" 453), (zs "are_same" 454), (zf 455), (zi 97), (zi 2), (zi 0), (zi 0), (zi 3), (.ref 222), (.bool true), (zi 181), (.ref 223), .none, .none, .none, (.ref 224), (zi 456), (zi 97), (zf 457)]), #[]⟩),
 zg 226 "are_same" "are_same" (st 28) [] .none .none .none (zs "fdsolve.values" 340) 225,
 zc 232 "are_compared" 459 "are_compared" 460 461 103 4 0 0 3 227 true 181 228 .none 229 230 231 466 103 467,
 zg 233 "are_compared" "are_compared" (st 29) [] .none .none .none (zs "fdsolve.values" 340) 232,
 (237, ⟨(.type "code"), none, (.fields #[(zs "joined_sets" 469), (zs "joined_sets" 470), (zf 471), (zi 115), (zi 3), (zi 0), (zi 0), (zi 3), (.ref 234), (.bool true), (zi 181), (.ref 235), .none, .none, .none, (.ref 236), (zi 472), (zi 115), (zf 473)]), #[]⟩),
 zg 238 "joined_sets" "joined_sets" (st 30) [] .none .none .none (zs "fdsolve.values" 340) 237,
 zc 244 "reckoned" 475 "reckoned" 476 477 123 4 0 0 3 239 true 181 240 .none 241 242 243 482 123 483,
 zg 245 "reckoned" "reckoned" (st 31) [] .none .none .none (zs "fdsolve.values" 340) 244,
 (249, ⟨(.type "code"), none, (.fields #[(zs "show_text" 485), (zs "show_text" 486), (zf 487), (zi 135), (zi 1), (zi 0), (zi 0), (zi 3), (.ref 246), (.bool true), (zi 181), (.ref 247), .none, .none, .none, (.ref 248), (zi 488), (zi 135), (zf 489)]), #[]⟩),
 zg 250 "show_text" "show_text" (st 32) [] .none .none .none (zs "fdsolve.values" 340) 249,
 (254, ⟨(.type "code"), none, (.fields #[(zs "folded" 491), (zs "folded" 492), (zf 493), (zi 147), (zi 3), (zi 0), (zi 0), (zi 3), (.ref 251), (.bool true), (zi 181), (.ref 252), .none, .none, .none, (.ref 253), (zi 494), (zi 147), (zf 495)]), #[]⟩),
 zg 255 "folded" "folded" (st 33) [] .none .none .none (zs "fdsolve.values" 340) 254,
 (256, ⟨(.type "tuple"), none, (.seq #[(zs "forall" 497), (zs "exists" 498), (zs "xorall" 499), (zs "iffall" 500), (zs "sum" 501), (zs "product" 502), (zs "min" 503), (zs "max" 504)] 0), #[]⟩),
 (260, ⟨(.type "code"), none, (.fields #[(zs "scopes_of" 506), (zs "scopes_of" 507), (zf 508), (zi 167), (zi 3), (zi 0), (zi 0), (zi 3), (.ref 257), (.bool true), (zi 181), (.ref 258), .none, .none, .none, (.ref 259), (zi 509), (zi 167), (zf 510)]), #[]⟩),
 zg 261 "scopes_of" "scopes_of" (st 35) [] .none .none .none (zs "fdsolve.values" 340) 260,
 zc 274 "__init__" 524 "Evaluator.__init__" 525 526 188 2 0 0 3 269 true 181 270 .none 271 272 273 529 188 530,
 zg 275 "__init__" "Evaluator.__init__" (ms 36 0) [] .none .none .none (zs "fdsolve.values" 340) 274,
 zc 281 "value_of" 532 "Evaluator.value_of" 533 534 191 2 0 0 3 276 true 181 277 .none 278 279 280 539 191 540,
 zg 282 "value_of" "Evaluator.value_of" (ms 36 1) [] .none .none .none (zs "fdsolve.values" 340) 281,
 (286, ⟨(.type "code"), none, (.fields #[(zs "values_of" 542), (zs "Evaluator.values_of" 543), (zf 544), (zi 217), (zi 2), (zi 0), (zi 0), (zi 3), (.ref 283), (.bool true), (zi 181), (.ref 284), .none, .none, .none, (.ref 285), (zi 545), (zi 217), (zf 546)]), #[]⟩),
 zg 287 "values_of" "Evaluator.values_of" (ms 36 2) [] .none .none .none (zs "fdsolve.values" 340) 286,
 (291, ⟨(.type "code"), none, (.fields #[(zs "built" 548), (zs "Evaluator.built" 549), (zf 550), (zi 220), (zi 4), (zi 0), (zi 0), (zi 3), (.ref 288), (.bool true), (zi 181), (.ref 289), .none, .none, .none, (.ref 290), (zi 551), (zi 220), (zf 552)]), #[]⟩),
 zg 292 "built" "Evaluator.built" (ms 36 3) [] .none .none .none (zs "fdsolve.values" 340) 291,
 zc 298 "gathered" 554 "Evaluator.gathered" 555 556 241 2 0 0 3 293 true 181 294 .none 295 296 297 563 241 564,
 zg 299 "gathered" "Evaluator.gathered" (ms 36 4) [] .none .none .none (zs "fdsolve.values" 340) 298,
 zc 305 "of_one" 566 "Evaluator.of_one" 567 568 249 4 0 0 3 300 true 181 301 .none 302 303 304 574 249 575,
 zg 306 "of_one" "Evaluator.of_one" (ms 36 5) [] .none .none .none (zs "fdsolve.values" 340) 305,
 zc 312 "of_two" 577 "Evaluator.of_two" 578 579 255 5 0 0 3 307 true 181 308 .none 309 310 311 589 255 590,
 zg 313 "of_two" "Evaluator.of_two" (ms 36 6) [] .none .none .none (zs "fdsolve.values" 340) 312,
 zc 319 "element" 592 "Evaluator.element" 593 594 283 2 0 0 3 314 true 181 315 .none 316 317 318 605 283 606,
 zg 320 "element" "Evaluator.element" (ms 36 7) [] .none .none .none (zs "fdsolve.values" 340) 319,
 zc 326 "chosen" 608 "Evaluator.chosen" 609 610 296 2 0 0 3 321 true 181 322 .none 323 324 325 615 296 616,
 zg 327 "chosen" "Evaluator.chosen" (ms 36 8) [] .none .none .none (zs "fdsolve.values" 340) 326,
 zc 333 "asserted" 618 "Evaluator.asserted" 619 620 302 2 0 0 3 328 true 181 329 .none 330 331 332 623 302 624,
 zg 334 "asserted" "Evaluator.asserted" (ms 36 9) [] .none .none .none (zs "fdsolve.values" 340) 333,
 zc 340 "within" 626 "Evaluator.within" 627 628 307 2 0 0 3 335 true 181 336 .none 337 338 339 633 307 634,
 zg 341 "within" "Evaluator.within" (ms 36 10) [] .none .none .none (zs "fdsolve.values" 340) 340,
 zc 347 "ranges_of" 636 "Evaluator.ranges_of" 637 638 319 4 0 0 3 342 true 181 343 .none 344 345 346 648 319 649,
 zg 348 "ranges_of" "Evaluator.ranges_of" (ms 36 11) [] .none .none .none (zs "fdsolve.values" 340) 347,
 zc 354 "domain_of" 651 "Evaluator.domain_of" 652 653 334 2 0 0 3 349 true 181 350 .none 351 352 353 658 334 659,
 zg 355 "domain_of" "Evaluator.domain_of" (ms 36 12) [] .none .none .none (zs "fdsolve.values" 340) 354,
 (359, ⟨(.type "code"), none, (.fields #[(zs "fitted" 661), (zs "Evaluator.fitted" 662), (zf 663), (zi 340), (zi 4), (zi 0), (zi 0), (zi 3), (.ref 356), (.bool true), (zi 181), (.ref 357), .none, .none, .none, (.ref 358), (zi 664), (zi 340), (zf 665)]), #[]⟩),
 zg 360 "fitted" "Evaluator.fitted" (ms 36 13) [] .none .none .none (zs "fdsolve.values" 340) 359,
 (361, ⟨(.type "tuple"), none, (.seq #[(zs "scope" 667)] 0), #[]⟩),
 (362, ⟨(.type "dict"), none, (.dict #[zd P "__module__" 519 (zs "fdsolve.values" 340), zd P "__firstlineno__" 523 (.int (186) 522), zd P "__init__" 531 (.ref 275), zd P "value_of" 541 (.ref 282), zd P "values_of" 547 (.ref 287), zd P "built" 553 (.ref 292), zd P "gathered" 565 (.ref 299), zd P "of_one" 576 (.ref 306), zd P "of_two" 591 (.ref 313), zd P "element" 607 (.ref 320), zd P "chosen" 617 (.ref 327), zd P "asserted" 625 (.ref 334), zd P "within" 635 (.ref 341), zd P "ranges_of" 650 (.ref 348), zd P "domain_of" 660 (.ref 355), zd P "fitted" 666 (.ref 360), zd P "__static_attributes__" 668 (.ref 361), zd P "__dict__" 670 (.ref 364), zd P "__weakref__" 672 (.ref 365), zd P "__doc__" 673 .none] 4), #[]⟩),
 (363, ⟨(.type "type"), none, (.cls { name := (Str.ofString "Evaluator"), bases := [(.type "object")], mro := [(.ref 363), (.type "object")], ns := 362, qualname := (Str.ofString "Evaluator"), hasDict := true, slotNames := [], subclasses := [], abstract := false, collection := none, hasDel := false }), #[none, none, (some (zs "Evaluator" 512)), (some (zs "Evaluator" 520)), (some (.builtin "object.__new__")), (some (.bool true))]⟩),
 (364, ⟨(.type "getset_descriptor"), none, (.fields #[(zs "__dict__" 669), (.ref 363), (.builtin "function.__dict__"), (.builtin "function.__dict__#set")]), #[]⟩),
 (365, ⟨(.type "getset_descriptor"), none, (.fields #[(zs "__weakref__" 671), (.ref 363), (.builtin "ExceptionGroup.__weakref__"), .none]), #[]⟩),
 (371, ⟨(.type "code"), none, (.fields #[(zs "fitted_one" 676), (zs "fitted_one" 677), (zf 678), (zi 347), (zi 4), (zi 0), (zi 0), (zi 3), (.ref 368), (.bool true), (zi 181), (.ref 369), .none, .none, .none, (.ref 370), (zi 679), (zi 347), (zf 680)]), #[]⟩),
 zg 372 "fitted_one" "fitted_one" (st 37) [] .none .none .none (zs "fdsolve.values" 340) 371,
 (376, ⟨(.type "code"), none, (.fields #[(zs "called" 682), (zs "called" 683), (zf 684), (zi 356), (zi 3), (zi 0), (zi 0), (zi 3), (.ref 373), (.bool true), (zi 181), (.ref 374), .none, .none, .none, (.ref 375), (zi 685), (zi 356), (zf 686)]), #[]⟩),
 zg 377 "called" "called" (st 38) [] .none .none .none (zs "fdsolve.values" 340) 376,
 zc 383 "alone" 688 "alone" 689 690 380 3 0 0 3 378 true 181 379 .none 380 381 382 694 380 695,
 zg 384 "alone" "alone" (st 39) [] .none .none .none (zs "fdsolve.values" 340) 383,
 (388, ⟨(.type "code"), none, (.fields #[(zs "of_value" 697), (zs "of_value" 698), (zf 699), (zi 384), (zi 3), (zi 0), (zi 0), (zi 3), (.ref 385), (.bool true), (zi 181), (.ref 386), .none, .none, .none, (.ref 387), (zi 700), (zi 384), (zf 701)]), #[]⟩),
 zg 389 "of_value" "of_value" (st 40) [] .none .none .none (zs "fdsolve.values" 340) 388,
 zc 395 "indexes_of" 703 "indexes_of" 704 705 403 3 0 0 3 390 true 181 391 .none 392 393 394 710 403 711,
 zg 396 "indexes_of" "indexes_of" (st 41) [] .none .none .none (zs "fdsolve.values" 340) 395,
 (400, ⟨(.type "code"), none, (.fields #[(zs "indexed" 713), (zs "indexed" 714), (zf 715), (zi 409), (zi 3), (zi 0), (zi 0), (zi 3), (.ref 397), (.bool true), (zi 181), (.ref 398), .none, .none, .none, (.ref 399), (zi 716), (zi 409), (zf 717)]), #[]⟩),
 zg 401 "indexed" "indexed" (st 42) [] .none .none .none (zs "fdsolve.values" 340) 400,
 zc 407 "united" 719 "united" 720 721 425 3 0 0 3 402 true 181 403 .none 404 405 406 727 425 728,
 zg 408 "united" "united" (st 43) [] .none .none .none (zs "fdsolve.values" 340) 407,
 (409, ⟨(.type "tuple"), none, (.seq #[(zs "int" 732), (zs "bool" 733), (zs "str" 734), (zs "set" 735)] 0), #[]⟩),
 zc 415 "_law_draw" 737 "_law_draw" 738 739 434 2 0 0 3 410 true 181 411 .none 412 413 414 743 434 744,
 zg 416 "_law_draw" "_law_draw" (st 46) [] .none .none .none (zs "law_pq0379_03" 730) 415,
 zc 422 "_law_spot" 746 "_law_spot" 747 748 440 1 0 0 3 417 true 181 418 .none 419 420 421 750 440 751,
 zg 423 "_law_spot" "_law_spot" (st 47) [] .none .none .none (zs "law_pq0379_03" 730) 422,
 (427, ⟨(.type "code"), none, (.fields #[(zs "_law_leaf" 753), (zs "_law_leaf" 754), (zf 755), (zi 443), (zi 4), (zi 0), (zi 0), (zi 3), (.ref 424), (.bool true), (zi 181), (.ref 425), .none, .none, .none, (.ref 426), (zi 756), (zi 443), (zf 757)]), #[]⟩),
 zg 428 "_law_leaf" "_law_leaf" (st 48) [] .none .none .none (zs "law_pq0379_03" 730) 427,
 zc 434 "_law_bound" 759 "_law_bound" 760 761 456 2 0 0 3 429 true 181 430 .none 431 432 433 767 456 768,
 zg 435 "_law_bound" "_law_bound" (st 49) [] .none .none .none (zs "law_pq0379_03" 730) 434,
 zc 441 "_law_let" 770 "_law_let" 771 772 464 5 0 0 3 436 true 181 437 .none 438 439 440 786 464 787,
 zg 442 "_law_let" "_law_let" (st 50) [] .none .none .none (zs "law_pq0379_03" 730) 441,
 zc 448 "_law_node" 789 "_law_node" 790 791 479 4 0 0 3 443 true 181 444 .none 445 446 447 801 479 802,
 zg 449 "_law_node" "_law_node" (st 51) [] .none .none .none (zs "law_pq0379_03" 730) 448,
 (453, ⟨(.type "code"), none, (.fields #[(zs "_law_shown" 804), (zs "_law_shown" 805), (zf 806), (zi 493), (zi 1), (zi 0), (zi 0), (zi 3), (.ref 450), (.bool true), (zi 181), (.ref 451), .none, .none, .none, (.ref 452), (zi 807), (zi 493), (zf 808)]), #[]⟩),
 zg 454 "_law_shown" "_law_shown" (st 52) [] .none .none .none (zs "law_pq0379_03" 730) 453,
 zc 460 "_law_sort" 810 "_law_sort" 811 812 499 1 0 0 3 455 true 181 456 .none 457 458 459 814 499 815,
 zg 461 "_law_sort" "_law_sort" (st 53) [] .none .none .none (zs "law_pq0379_03" 730) 460,
 (465, ⟨(.type "code"), none, (.fields #[(zs "_law_kept" 817), (zs "_law_kept" 818), (zf 819), (zi 505), (zi 4), (zi 0), (zi 0), (zi 3), (.ref 462), (.bool true), (zi 181), (.ref 463), .none, .none, .none, (.ref 464), (zi 820), (zi 505), (zf 821)]), #[]⟩),
 zg 466 "_law_kept" "_law_kept" (st 54) [] .none .none .none (zs "law_pq0379_03" 730) 465,
 zc 472 "_law_item" 823 "_law_item" 824 825 514 2 0 0 3 467 true 181 468 .none 469 470 471 831 514 832,
 zg 473 "_law_item" "_law_item" (st 55) [] .none .none .none (zs "law_pq0379_03" 730) 472,
 (477, ⟨(.type "code"), none, (.fields #[(zs "_law_read" 834), (zs "_law_read" 835), (zf 836), (zi 529), (zi 2), (zi 0), (zi 0), (zi 3), (.ref 474), (.bool true), (zi 181), (.ref 475), .none, .none, .none, (.ref 476), (zi 837), (zi 529), (zf 838)]), #[]⟩),
 zg 478 "_law_read" "_law_read" (st 56) [] .none .none .none (zs "law_pq0379_03" 730) 477,
 zc 484 "_law_heard" 840 "_law_heard" 841 842 561 1 0 0 3 479 true 181 480 .none 481 482 483 845 561 846,
 zg 485 "_law_heard" "_law_heard" (st 57) [] .none .none .none (zs "law_pq0379_03" 730) 484,
 (489, ⟨(.type "code"), none, (.fields #[(zs "law" 848), (zs "law" 849), (zf 850), (zi 566), (zi 1), (zi 0), (zi 0), (zi 3), (.ref 486), (.bool true), (zi 181), (.ref 487), .none, .none, .none, (.ref 488), (zi 851), (zi 566), (zf 852)]), #[]⟩),
 zg 490 "law" "law" (st 58) [] .none .none .none (zs "law_pq0379_03" 730) 489]
noncomputable def loose : List PySem.Str := ["range_of", "put_behind", "from_values", "next_from", "has", "FdError", "SpotFault", "EvalFault", "LimitFault", "MOST_VALUES", "MOST_POWER", "MOST_SHOWN", "is_array", "is_set", "number_of", "truth_of", "text_of", "set_of", "list_of", "elements_of", "row_of", "span", "quotient", "within_figures", "power", "are_same", "are_compared", "joined_sets", "reckoned", "show_text", "folded", "FOLDING", "scopes_of", "Evaluator", "fitted_one", "called", "alone", "of_value", "indexes_of", "indexed", "united", "_law_kinds", "_law_draw", "_law_spot", "_law_leaf", "_law_bound", "_law_let", "_law_node", "_law_shown", "_law_sort", "_law_kept", "_law_item", "_law_read", "_law_heard"].map Str.ofString
noncomputable def KA : List Addr := (K ⟨fun _ => 0, fun _ => 0, id, fun _ => 0, fun _ _ => 0, fun _ => false, fun _ => 0, .refcount, .text, fun _ => 0, fun _ => none, fun _ => false, fun _ _ _ => true, fun _ _ _ => true, true, fun _ => false, fun _ => none, fun _ => none, fun _ _ _ => 0, fun _ _ => none, fun _ => none, fun _ => (0, false, ""), fun _ => none, fun d => d, fun _ => false⟩).map (·.1)
theorem KA_eq : ∀ P, KA = (K P).map (·.1) := fun _ => by kernel_rfl
noncomputable abbrev lawD : DefRec := ⟨Str.ofString "law", fa (st 58), fb (st 58), fs (st 58), fp (st 58)⟩
noncomputable def q : Program := { pw with main := { pw.main with body := [st 58] } }
noncomputable abbrev N : Nat := 6200
theorem said : rw.wellSaid = true := (congrFun PySem.W.Fast.te9446332074065402090 _).trans (by kernel_rfl)
theorem zdD (p : Program) (w : World) (N : Nat) : openEnds treeTable p w N =
  ((PySem.W.Fast.tw10274390034422433532 PySem.W.Fast.tw14364793385576792824 (PySem.W.opening p) w N (PySem.W.Fast.tw1435165496053646825 (PySem.W.opening p)).1 (PySem.W.Fast.tw1435165496053646825 (PySem.W.opening p)).2).bind (PySem.W.Fast.tw14289696077712309145 p)).bind (fun s₀ =>
   match s₀.heap.isNs mainGlobals && s₀.gens.size == 0 with
 | true => (PySem.W.Fast.tw14082659384304107361 PySem.W.Fast.tw14364793385576792824 p w s₀.heap.objs.size (s₀.heap.nsMap mainGlobals "__annotations__") N s₀ (topStub p)).bind fun s₁ => match staticsOk (importedModules p.main.body) s₀.heap s₁.heap && namesBound p s₁.heap && gensDone s₁ && laidKept s₀.heap s₁.heap with
   | true => some s₁
   | false => none
 | false => none) := by
 unfold openEnds fencedOpening
 rw [PySem.W.Fast.te10274390034422433532, PySem.W.Fast.te14364793385576792824, PySem.W.Fast.te1435165496053646825, PySem.W.Fast.te14289696077712309145]
 congr 1
 funext s₀
 unfold topFrom
 rw [PySem.W.Fast.te14082659384304107361]
 rfl
noncomputable abbrev HK : Hook := kHook K KA KA_eq
noncomputable abbrev XT (s : Shared) : Bool := xlAt q [] s && recOk [] s
theorem left : LeftO pw q loose XT HK.obs HK.val N := fun w => by
 rw [zdD, PySem.W.Fast.te4187177175401517315]
 kernel_rfl
theorem holds_of (call : WalkO q loose (XL q []) HK.says rw.row.toRowW lawD [] fun f vs => PySem.call f vs) (hw : rw.row.toRowW.promised) : rw.Holds :=
 holds_law said fun ok => holds_open (r := rw.row) (q := q) (loose := loose) (Xt := XT) (XP := XL q []) (Yf := HK.obs) (Ya := HK.val) (YP := HK.says) (N := N) (d := lawD) (kwd := [])
  left HK.of HK.keeps (fun s e => xl_of s (Bool.and_eq_true_iff.mp e).1) XL.keeps (by kernel_rfl) (by kernel_rfl) (by kernel_rfl) (fun s e => recFacts_of (Bool.and_eq_true_iff.mp e).2) (by kernel_rfl) ok (by decide +kernel)
  ⟨rfl, rfl, rfl, rfl, rfl, by decide +kernel⟩ hw call
set_option backward.match.sparseCases false
set_option genCtorIdx false in
inductive V where
 | pd (d : PyData)
 | ref (i : Nat)
 | evr (sc : V)
 | rng (lo hi : Int)
 | ty (n : String)
 | set (l : List Int)
noncomputable def V.ctorIdx (x : V) : Nat := V.casesOn x (fun _ => 0) (fun _ => 1) (fun _ => 2) (fun _ _ => 3) (fun _ => 4) (fun _ => 5)
set_option genCtorIdx false in
inductive O where
 | list (l : List PyData)
 | dict (l : List (Str × V))
noncomputable def O.ctorIdx (x : O) : Nat := O.casesOn x (fun _ => 0) (fun _ => 1)
noncomputable abbrev Hp := List O
structure Exc where
 lim : Bool
 what : Str
 spot : PyData
inductive Op where
 | add | sub | mul | mod | pow | eq | ne | lt | le | gt | ge | isin | notin | is | isnot
 deriving DecidableEq
inductive Prim where
 | len | isi | int | str | repr | tuple | list | range | sorted | set | abs | max | mlist | mdict
 deriving DecidableEq
inductive LM where
 | append | pop
 deriving DecidableEq
set_option genCtorIdx false in
inductive Tg where
 | n (i : Nat)
 | t (l : List Tg)
noncomputable def Tg.ctorIdx (x : Tg) : Nat := Tg.casesOn (motive_1 := fun _ => Nat) x (fun _ => 0) (fun _ => 1)
set_option genCtorIdx false in
inductive X where
 | c (d : PyData)
 | g (i : Nat)
 | v (i : Nat)
 | w (i : Nat)
 | ty (n : String)
 | tup (l : List X)
 | lst (m : Bool) (l : List X)
 | dct (m : Bool) (l : List (Str × X))
 | op (o : Op) (a b : X)
 | neg (a : X)
 | not (a : X)
 | and (a b : X)
 | or (a b : X)
 | ite (t a b : X)
 | sub (a i : X)
 | slice (a : X) (lo hi : Option Int)
 | scope (a : X)
 | fault (i : Nat) (spot : Bool)
 | call (f : Nat) (l : List X)
 | lam (a : X) (vis : List Nat)
 | lcall (i : Nat)
 | meth (f : Nat) (o : X) (l : List X)
 | new (a : X)
 | prim (p : Prim) (l : List X)
 | lm (m : LM) (o : X) (l : List X)
 | fstr (l : List X)
 | comp (m : Bool) (e : X) (t : Tg) (it : X) (c : Option X)
 | join (a b : X)
noncomputable def X.ctorIdx (x : X) : Nat := X.casesOn (motive_1 := fun _ => Nat) x (fun _ => 0) (fun _ => 1) (fun _ => 2) (fun _ => 3) (fun _ => 4) (fun _ => 5) (fun _ _ => 6) (fun _ _ => 7) (fun _ _ _ => 8) (fun _ => 9) (fun _ => 10) (fun _ _ => 11) (fun _ _ => 12) (fun _ _ _ => 13) (fun _ _ => 14) (fun _ _ _ => 15) (fun _ => 16) (fun _ _ => 17) (fun _ _ => 18) (fun _ _ => 19) (fun _ => 20) (fun _ _ _ => 21) (fun _ => 22) (fun _ _ => 23) (fun _ _ _ => 24) (fun _ => 25) (fun _ _ _ _ _ => 26) (fun _ _ => 27)
set_option genCtorIdx false in
inductive S where
 | asg (i : Nat) (e : X)
 | asgs (l : List Nat) (es : List X)
 | unp (l : List Nat) (e : X)
 | seti (o k e : X)
 | ex (e : X)
 | ret (e : X)
 | ite (t : X) (a b : List S)
 | for (t : Tg) (it : X) (b : List S)
 | while (t : X) (b : List S)
 | bad
 | raise (lim : Bool) (l : List X)
 | try (b : List S) (h : List (Bool × Option Nat × List S))
 | cont
noncomputable def S.ctorIdx (x : S) : Nat := S.casesOn (motive_1 := fun _ => Nat) x (fun _ _ => 0) (fun _ _ => 1) (fun _ _ => 2) (fun _ _ _ => 3) (fun _ => 4) (fun _ => 5) (fun _ _ _ => 6) (fun _ _ _ => 7) (fun _ _ => 8) 9 (fun _ _ => 10) (fun _ _ => 11) 12
set_option genCtorIdx false in
inductive Loc where
 | v (x : V)
 | fault (e : Exc)
 | lam (b : X) (m : List (Option V))
noncomputable def Loc.ctorIdx (x : Loc) : Nat := Loc.casesOn x (fun _ => 0) (fun _ => 1) (fun _ _ => 2)
set_option genCtorIdx false in
inductive Fl where
 | next | ret (v : V) | cont
noncomputable def Fl.ctorIdx (x : Fl) : Nat := Fl.casesOn x 0 (fun _ => 1) 2
noncomputable abbrev Fm := List (Option Loc)
noncomputable abbrev KV := V -> Hp -> Prop
noncomputable abbrev KE := Exc -> Hp -> Prop
noncomputable abbrev sb (a b : Str) : Bool := a.cps.toList == b.cps.toList
noncomputable def need {α : Type} (o : Option α) (k : α -> Prop) : Prop := match o with | some a => k a | none => False
noncomputable def alt {β : Type} (a b : Option β) : Option β := match a with
 | some x => some x
 | none => b
noncomputable def when (c : Prop) [Decidable c] (k : Prop) : Prop := match decide c with | true => k | false => False
theorem zac {c : Prop} [Decidable c] {k : Prop} (h : c) (q : k) : when c k := by
 unfold when
 rw [decide_eq_true h]; exact q
theorem zar {c : Prop} [Decidable c] {k : Prop} (h : when c k) : c /\ k := by
 unfold when at h
 by_cases q : c
 ·rw [decide_eq_true q] at h; exact ⟨q, h⟩
 ·rw [decide_eq_false q] at h; exact h.elim
@[irreducible] noncomputable def whenL (c : Prop) [Decidable c] (k : Prop) : Prop := when c k
theorem zbh {c : Prop} [Decidable c] {k : Prop} (h : c) (q : k) : whenL c k := by
 unfold whenL; exact zac h q
theorem zbi {c : Prop} [Decidable c] {k : Prop} (h : whenL c k) : c /\ k := by
 unfold whenL at h; exact zar h
noncomputable def gd {β : Type} (c : Prop) [Decidable c] (x : β) : Option β := if c then some x else none
noncomputable def zfm : PyData -> Option Int
 | .int i => some i
 | .bool b => some (if b then 1 else 0)
 | _ => none
noncomputable def intP : PyData -> Option Int
 | .int i => some i
 | _ => none
noncomputable def strP : PyData -> Option Str
 | .str x => some x
 | _ => none
noncomputable def znM : PyData -> Option Bool
 | .bool b => some b
 | _ => none
noncomputable def zbC : PyData -> Option (List PyData)
 | .list l => some l
 | _ => none
noncomputable def tupP : PyData -> Option (List PyData)
 | .tuple l => some l
 | _ => none
noncomputable def zfh : PyData -> Option (List (PyData × PyData))
 | .dict l => some l
 | _ => none
noncomputable def b2 {α β γ : Type} (f : PyData -> Option α) (g : PyData -> Option β) (a b : PyData) (k : α -> β -> Option γ) : Option γ := (f a).bind fun x => (g b).bind fun y => k x y
noncomputable def pdV : V -> Option PyData
 | .pd d => some d
 | _ => none
noncomputable def refV : V -> Option Nat
 | .ref i => some i
 | _ => none
noncomputable def evrV : V -> Option V
 | .evr s => some s
 | _ => none
noncomputable def valL : Loc -> Option V
 | .v x => some x
 | _ => none
noncomputable def fltL : Loc -> Option Exc
 | .fault e => some e
 | _ => none
noncomputable def lamL : Loc -> Option (X × List (Option V))
 | .lam b m => some (b, m)
 | _ => none
noncomputable def locA {α : Type} (f : Loc -> Option α) (m : Fm) (i : Nat) : Option α := (m[i]?).bind fun l => l.bind f
noncomputable abbrev locV : Fm -> Nat -> Option V := locA valL
noncomputable def tyV : V -> Option String
 | .ty n => some n
 | _ => none
noncomputable def rngV : V -> Option (Int × Int)
 | .rng a b => some (a, b)
 | _ => none
noncomputable def lstO : O -> Option (List PyData)
 | .list l => some l
 | _ => none
noncomputable def dctO : O -> Option (List (Str × V))
 | .dict l => some l
 | _ => none
noncomputable abbrev intV (v : V) : Option Int := (pdV v).bind intP
noncomputable abbrev zjR (v : V) : Option Bool := (pdV v).bind znM
noncomputable def newV (v : V) : Option V := alt (((pdV v).bind zfh).map fun l => .pd (.dict l)) ((refV v).map .ref)
noncomputable abbrev strV (v : V) : Option Str := (pdV v).bind strP
noncomputable def lstR (σ : Hp) (v : V) : Option (Nat × List PyData) := (refV v).bind fun i => (σ[i]?).bind fun o => (lstO o).map fun l => (i, l)
noncomputable def dctR (σ : Hp) (v : V) : Option (Nat × List (Str × V)) := (refV v).bind fun i => (σ[i]?).bind fun o => (dctO o).map fun l => (i, l)
noncomputable def zaK : List V -> Option (List PyData)
 | [] => some []
 | v :: r => (pdV v).bind fun d => (zaK r).map (d :: ·)
noncomputable def kvPd : List (Str × V) -> Option (List (PyData × PyData))
 | [] => some []
 | (k, v) :: r => (pdV v).bind fun d => (kvPd r).map ((.str k, d) :: ·)
noncomputable def rdO : O -> Option PyData
 | .list l => some (.list l)
 | .dict l => (kvPd l).map .dict
noncomputable def rd (σ : Hp) : V -> Option PyData
 | .pd d => some d
 | .ref i => (σ[i]?).bind rdO
 | _ => none
noncomputable def zbf (k : Str) : List (Str × V) -> Option V
 | [] => none
 | (a, v) :: r => match sb a k with | true => some v | false => zbf k r
noncomputable def setS (k : Str) (v : V) : List (Str × V) -> List (Str × V)
 | [] => [(k, v)]
 | (a, u) :: r => match sb a k with | true => (a, v) :: r | false => (a, u) :: setS k v r
noncomputable def zda (k : Str) : List (PyData × PyData) -> Option PyData
 | [] => none
 | (.str a, v) :: r => match sb a k with | true => some v | false => zda k r
 | _ :: _ => none
noncomputable def zfP (k : Str) : List Str -> Bool
 | [] => true
 | a :: r => !sb a k && zfP k r
noncomputable def zee : List Str -> Bool
 | [] => true
 | k :: r => zfP k r && zee r
noncomputable def eqP (a b : PyData) : Option Bool := alt (b2 strP strP a b fun x y => some (sb x y)) (alt (b2 intP intP a b fun i j => some (i == j)) (gd (a.canLay0 = true /\ b.canLay0 = true /\ a.depth <= 64) (PyData.eqv a b)))
noncomputable def okS (x : Str) : Bool := x.cps.toList.all fun c => decide (c < 0x110000)
noncomputable def inS (x : Str) : List PyData -> Option Bool
 | [] => some false
 | d :: r => (strP d).bind fun y => (gd (okS y = true) (sb y x)).bind fun b => (inS x r).map (b || ·)
noncomputable def inI (i : Int) : List PyData -> Option Bool
 | [] => some false
 | d :: r => (intP d).bind fun j => (inI i r).map ((j == i) || ·)
noncomputable def inL (d : PyData) (l : List PyData) : Option Bool := alt ((strP d).bind fun x => (gd (okS x = true) x).bind fun x => inS x l) (alt ((intP d).bind fun i => inI i l) (gd (d.canLay0 = true /\ PyData.canLayAll0 l = true /\ d.depth <= 64) (l.any fun y => PyData.eqv y d)))
noncomputable def addP (a b : PyData) : Option PyData := alt (b2 strP strP a b fun x y => gd (x.length + y.length <= sizeLine) (.str (x ++ y))) (b2 intP intP a b fun i j => some (.int (i + j)))
noncomputable def subP (a b : PyData) : Option PyData := b2 intP intP a b fun i j => some (.int (i - j))
noncomputable def mulP (a b : PyData) : Option PyData := b2 intP intP a b fun i j => gd (-(2 ^ 64) < i /\ i < 2 ^ 64) (.int (i * j))
noncomputable def modP (a b : PyData) : Option PyData := b2 intP intP a b fun i j => gd (0 < j) (.int (Int.emod i j))
noncomputable def powP (a b : PyData) : Option PyData := b2 intP intP a b fun i j => gd (0 <= j /\ (Builtin.Int.intBits i : Int) * j <= 2 ^ 27) (.int (i ^ j.toNat))
noncomputable def zbb : List PyData -> Option (List Int)
 | [] => some []
 | d :: r => (intP d).bind fun i => (zbb r).map (i :: ·)
noncomputable def ltL : List Int -> List Int -> Bool
 | _, [] => false
 | [], _ :: _ => true
 | i :: p, j :: q => if i = j then ltL p q else decide (i < j)
noncomputable def ltP (a b : PyData) : Option Bool := alt (b2 strP strP a b fun x y => some (decide (x.cps.toList < y.cps.toList))) (alt (b2 tupP tupP a b fun x y => (zbb x).bind fun p => (zbb y).bind fun q => gd (p.length <= 4096 /\ q.length <= 4096) (ltL p q)) (b2 zfm zfm a b fun i j => some (decide (i < j))))
noncomputable def ordP (f : Int -> Int -> Bool) (a b : PyData) : Option Bool := b2 intP intP a b fun i j => some (f i j)
noncomputable def isN : PyData -> Bool
 | .none => true
 | _ => false
noncomputable def isP (a b : PyData) : Option Bool := gd (isN b = true) (isN a)
noncomputable def opP (o : Op) (a b : PyData) : Option PyData := match o with
 | .add => addP a b
 | .sub => subP a b
 | .mul => mulP a b
 | .mod => modP a b
 | .pow => powP a b
 | .eq => (eqP a b).map .bool
 | .ne => (eqP a b).map fun r => .bool (!r)
 | .lt => (ltP a b).map .bool
 | .le => (ordP (fun i j => decide (i <= j)) a b).map .bool
 | .gt => (ordP (fun i j => decide (i > j)) a b).map .bool
 | .ge => (ordP (fun i j => decide (i >= j)) a b).map .bool
 | .is => (isP a b).map .bool
 | .isnot => (isP a b).map fun r => .bool (!r)
 | _ => none
noncomputable def setV : V -> Option (List Int)
 | .set l => some l
 | _ => none
noncomputable def inV (x : V) (σ : Hp) (y : V) : Option Bool := alt ((dctR σ y).bind fun p => (strV x).bind fun k => some (zbf k p.2).isSome)
 ((rd σ y).bind fun d => alt ((zbC d).bind fun l => (pdV x).bind fun c => inL c l) (alt ((tupP d).bind fun l => (pdV x).bind fun c => inL c l) ((zfh d).bind fun l => (strV x).bind fun k => some (zda k l).isSome)))
noncomputable def evOp (o : Op) (a b : V) (σ : Hp) : Option PyData := match o with
 | .isin => (inV a σ b).map .bool
 | .notin => (inV a σ b).map fun r => .bool (!r)
 | o => (rd σ a).bind fun x => (rd σ b).bind fun y => opP o x y
noncomputable def za6 {κ α : Type} [DecidableEq κ] : List (κ × α) -> κ -> Option α
 | [], _ => none
 | (a, k) :: r, x => if a = x then some k else za6 r x
noncomputable def isiL : PyData -> List (String × Bool)
 | .bool _ => [("bool", true), ("int", true), ("str", false), ("tuple", false), ("list", false)]
 | .int _ => [("bool", false), ("int", true), ("str", false), ("tuple", false), ("list", false)]
 | .str _ => [("bool", false), ("int", false), ("str", true), ("tuple", false), ("list", false)]
 | .tuple _ => [("bool", false), ("int", false), ("str", false), ("tuple", true), ("list", false)]
 | .list _ => [("list", true)]
 | _ => []
noncomputable def isiP (d : PyData) (n : String) : Option Bool := za6 (isiL d) n
noncomputable def zaV (a b : Int) : List PyData := (List.range (b - a).toNat).map fun (k : Nat) => PyData.int (a + k)
noncomputable def seqT (σ : Hp) (v : V) : Option (List PyData) := (rd σ v).bind fun d => alt (zbC d) (tupP d)
noncomputable def zaj (σ : Hp) (v : V) : Option (List PyData) := alt (seqT σ v) ((rngV v).bind fun p => gd (-(2 ^ 62) <= p.1 /\ p.1 < 2 ^ 62 /\ -(2 ^ 62) <= p.2 /\ p.2 < 2 ^ 62) (zaV p.1 p.2))
noncomputable def still (σ σ' : Hp) (v : V) (k : Prop) : Prop := match v with
 | .ref i => σ'[i]? = σ[i]? /\ k
 | _ => k
noncomputable def one (vs : List V) (k : V -> Prop) : Prop := match vs with
 | [v] => k v
 | _ => False
noncomputable def two (vs : List V) (k : V -> V -> Prop) : Prop := match vs with
 | [v, u] => k v u
 | _ => False
noncomputable def insI (i : Int) : List Int -> List Int
 | [] => [i]
 | j :: r => if i <= j then i :: j :: r else j :: insI i r
noncomputable def za1 : List Int -> List Int
 | [] => []
 | i :: r => insI i (za1 r)
noncomputable def dedup (l : List Int) : List Int := l.foldl step_dedup []
noncomputable def zfd (v : V) (σ : Hp) (K : KV) : Prop := match rngV v with
 | some p => when (-(2 ^ 62) <= p.1 /\ p.1 < 2 ^ 62 /\ -(2 ^ 62) <= p.2 /\ p.2 < 2 ^ 62 /\ p.2 - p.1 <= 2 ^ 24) (K (.pd (.tuple (zaV p.1 p.2))) σ)
 | none => need (seqT σ v) fun l => when (l.length <= sizeLine) (K (.pd (.tuple l)) σ)
noncomputable def zh1 (v : V) (σ : Hp) (K : KV) : Prop := match rngV v with
 | some p => when (-(2 ^ 62) <= p.1 /\ p.1 < 2 ^ 62 /\ -(2 ^ 62) <= p.2 /\ p.2 < 2 ^ 62 /\ p.2 - p.1 <= 2 ^ 24) (K (.pd (.list (zaV p.1 p.2))) σ)
 | none => need (seqT σ v) fun l => when (l.length <= sizeLine) (K (.pd (.list l)) σ)
noncomputable def pdKv : List (PyData × PyData) -> Option (List (Str × V))
 | [] => some []
 | (k, d) :: r => (strP k).bind fun x => (pdKv r).map ((x, .pd d) :: ·)
noncomputable def kvV (σ : Hp) (v : V) : Option (List (Str × V)) := alt ((dctR σ v).map (·.2)) (((pdV v).bind zfh).bind pdKv)
noncomputable def nil0 (vs : List V) (k : Prop) : Prop := match vs with
 | [] => k
 | _ => False
noncomputable def ziK (σ : Hp) (v : V) : Option (List Int) := alt ((setV v).bind fun l => gd (l.length <= 4) l) ((seqT σ v).bind fun l => gd (l.length < 64) l |>.bind zbb)
noncomputable def zfe (vs : List V) (σ : Hp) (K : KV) : Prop := match vs with
 | [v] => need (intV v) fun n => K (.rng 0 n) σ
 | vs => two vs fun v u => need (intV v) fun a => need (intV u) fun b => K (.rng a b) σ
noncomputable def zao (p : Prim) (vs : List V) (σ : Hp) (K : KV) : Prop := match p with
 | .len => one vs fun v => need (seqT σ v) fun l => when (l.length <= sizeLine) (K (.pd (.int l.length)) σ)
 | .isi => two vs fun v u => need (pdV v) fun d => need (tyV u) fun n => need (isiP d n) fun b => K (.pd (.bool b)) σ
 | .int => one vs fun v => need (pdV v) fun d => need (zfm d) fun i => K (.pd (.int i)) σ
 | .str => one vs fun v => need (intV v) fun i => when (i.natAbs.log2 < 1920) (K (.pd (.str (Str.ofString (toString i)))) σ)
 | .repr => one vs fun v => need (rd σ v) fun d => whenL (d.showable = true /\ d.depth <= 64 /\ d.shown.length <= sizeLine) (K (.pd (.str d.shown)) σ)
 | .tuple => one vs fun v => zfd v σ K
 | .list => one vs fun v => zh1 v σ K
 | .mlist => one vs fun v => need (seqT σ v) fun l => when (l.length <= sizeLine) (K (.ref σ.length) (σ ++ [.list l]))
 | .mdict => one vs fun v => need (kvV σ v) fun l => when (l.length <= sizeLine) (K (.ref σ.length) (σ ++ [.dict l]))
 | .range => zfe vs σ K
 | .abs => one vs fun v => need (intV v) fun a => K (.pd (.int a.natAbs)) σ
 | .sorted => one vs fun v => need (ziK σ v) fun l => K (.pd (.list ((za1 l).map .int))) σ
 | .set => one vs fun v => need ((seqT σ v).bind zbb) fun l => when (l.length < 1000) (K (.set (dedup l)) σ)
 | .max => two vs fun v u => need (intV v) fun a => need (intV u) fun b => K (.pd (.int (if a < b then b else a))) σ
noncomputable def evLM (m : LM) (o : V) (vs : List V) (σ : Hp) (K : KV) : Prop := match m with
 | .append => one vs fun v => need (pdV v) fun d => need (lstR σ o) fun p => when (p.2.length < sizeLine) (K (.pd .none) (σ.set p.1 (.list (p.2 ++ [d]))))
 | .pop => nil0 vs (need (lstR σ o) fun p => need p.2.getLast? fun d => when (p.2.length <= sizeLine) (K (.pd d) (σ.set p.1 (.list p.2.dropLast))))
noncomputable def idx (l : List PyData) (i : Int) : Option PyData := if -(l.length : Int) <= i /\ i < l.length /\ l.length <= sizeLine then l[(if i < 0 then i + l.length else i).toNat]? else none
noncomputable def zai (σ : Hp) (a i : V) : Option V := alt ((strV i).bind fun k => alt ((dctR σ a).bind fun p => zbf k p.2) (((pdV a).bind zfh).bind fun l => (zda k l).map .pd))
 ((intV i).bind fun i => (rd σ a).bind fun d => alt ((zbC d).bind fun l => (idx l i).map .pd) ((tupP d).bind fun l => (idx l i).map .pd))
noncomputable def cut (l : List PyData) (lo hi : Option Int) : List PyData :=
 let n := l.length
 let a := lo.elim 0 (clipAt n)
 let b := hi.elim n (clipAt n)
 (l.drop a).take (b - a)
noncomputable def zfE : Option Int -> Bool
 | none => true
 | some i => decide (0 <= i)
noncomputable def zff (σ : Hp) (a : V) (lo hi : Option Int) : Option PyData := (rd σ a).bind fun d => alt ((zbC d).bind fun l => gd (l.length <= sizeLine) (.list (cut l lo hi))) ((tupP d).bind fun l => gd (l.length <= sizeLine /\ zfE lo = true /\ zfE hi = true) (.tuple (cut l lo hi)))
noncomputable def zml : PyData -> Option Str
 | .str x => some x
 | .int i => if i.natAbs.log2 < 1920 then some (Str.ofString (toString i)) else none
 | _ => none
noncomputable abbrev txt (v : V) : Option Str := (pdV v).bind zml
noncomputable def zeO : List PyData -> Option (List Str)
 | [] => some []
 | d :: r => (strP d).bind fun x => (zeO r).map (x :: ·)
noncomputable def zhG (σ : Hp) (x : Str) (v : V) : Option PyData := (((rd σ v).bind zbC).bind zeO).bind fun l => gd ((l.map (·.length)).sum + l.length <= 1048576 /\ x.length <= 16) (.str (Txt.join x l))
noncomputable def mutP : Bool -> Prim -> Prim
 | true, .list => .mlist
 | _, p => p
noncomputable def zaw {α : Type} : List α -> Nat -> α -> List α
 | [], _, _ => []
 | _ :: r, 0, x => x :: r
 | y :: r, n + 1, x => y :: zaw r n x
mutual
noncomputable def tgFm (m : Fm) : Tg -> PyData -> Option Fm
 | .n i, d => if i < m.length then some (zaw m i (some (.v (.pd d)))) else none
 | .t l, .tuple ds => tgsFm m l ds
 | .t _, _ => none
noncomputable def tgsFm (m : Fm) : List Tg -> List PyData -> Option Fm
 | [], [] => some m
 | t :: ts, d :: ds => (tgFm m t d).bind fun m' => tgsFm m' ts ds
 | _, _ => none
end
noncomputable def snap (vis : List Nat) : Nat -> Fm -> List (Option V)
 | _, [] => []
 | i, o :: r => (match vis.contains i with | true => o.bind valL | false => none) :: snap vis (i + 1) r
noncomputable def unsnap (m : List (Option V)) : Fm := m.map fun o => o.map .v
noncomputable abbrev kd (o : Option PyData) (K : KV) (σ : Hp) : Prop := need o fun d => K (.pd d) σ
noncomputable abbrev truth (v : V) (k : Bool -> Prop) : Prop := need (zjR v) k
noncomputable def hN (x : Option Nat) (a : Nat -> Prop) (b : Prop) : Prop := match x with
 | some i => a i
 | none => b
noncomputable def brn (b : Bool) (x y : Prop) : Prop := match b with
 | true => x
 | false => y
noncomputable def forN (turn : PyData -> Fm -> Hp -> (Fl -> Fm -> Hp -> Prop) -> Prop) (ok : Hp -> Prop -> Prop) (K : Fl -> Fm -> Hp -> Prop) : List PyData -> Fm -> Hp -> Prop
 | [], m, σ => K .next m σ
 | d :: r, m, σ => turn d m σ fun f m' σ' => match f with
  | .ret v => K (.ret v) m' σ'
  | _ => ok σ' (forN turn ok K r m' σ')
noncomputable def zbM (test : Fm -> Hp -> (Bool -> Hp -> Prop) -> Prop) (body : Fm -> Hp -> (Fl -> Fm -> Hp -> Prop) -> Prop) (K : Fl -> Fm -> Hp -> Prop) : Nat -> Fm -> Hp -> Prop
 | 0, _, _ => False
 | n + 1, m, σ => test m σ fun b σ' => match b with
  | true => body m σ' fun f m' σ'' => match f with
   | .ret v => K (.ret v) m' σ''
   | _ => zbM test body K n m' σ''
  | false => K .next m σ'
noncomputable def zat (turn : PyData -> Hp -> (List PyData -> Hp -> Prop) -> Prop) (ok : Hp -> Prop -> Prop) (K : List PyData -> Hp -> Prop) : List PyData -> List PyData -> Hp -> Prop
 | [], acc, σ => K acc σ
 | d :: r, acc, σ => when (acc.length <= sizeLine) (turn d σ fun o σ' => ok σ' (zat turn ok K r (acc ++ o) σ'))
noncomputable def made (m : Bool) (l : List PyData) (σ : Hp) (K : KV) : Prop := when (l.length <= sizeLine) (brn m (K (.ref σ.length) (σ ++ [.list l])) (K (.pd (.list l)) σ))
noncomputable abbrev mc0 : Fm := List.replicate 12 none
noncomputable abbrev zab := Nat -> List Loc -> Hp -> KV -> KE -> Prop
section
variable (G : zab) (gc : Nat -> PyData)
mutual
noncomputable def evX (m : Fm) (mc : Fm) : X -> Hp -> KV -> KE -> Prop
 | .c d, σ, K, _ => K (.pd d) σ
 | .g i, σ, K, _ => K (.pd (gc i)) σ
 | .v i, σ, K, _ => need (locV m i) fun x => K x σ
 | .w i, σ, K, _ => need (locV mc i) fun x => K x σ
 | .ty n, σ, K, _ => K (.ty n) σ
 | .tup l, σ, K, E => evXs m mc l σ (fun vs σ' => need (zaK vs) fun ds => when (ds.length <= sizeLine) (K (.pd (.tuple ds)) σ')) E
 | .lst b l, σ, K, E => evXs m mc l σ (fun vs σ' => need (zaK vs) fun ds => made b ds σ' K) E
 | .dct b l, σ, K, E => evKs m mc l σ (fun kvs σ' => when (zee (kvs.map (·.1)) = true) (brn b (K (.ref σ'.length) (σ' ++ [.dict kvs])) (need (kvPd kvs) fun ds => K (.pd (.dict ds)) σ'))) E
 | .op o a b, σ, K, E => evX m mc a σ (fun x σ1 => evX m mc b σ1 (fun y σ2 => kd (evOp o x y σ2) K σ2) E) E
 | .neg a, σ, K, E => evX m mc a σ (fun x σ1 => need (intV x) fun i => K (.pd (.int (-i))) σ1) E
 | .not a, σ, K, E => evX m mc a σ (fun x σ1 => truth x fun b => K (.pd (.bool (!b))) σ1) E
 | .and a b, σ, K, E => evX m mc a σ (fun x σ1 => truth x fun t => brn t (evX m mc b σ1 K E) (K x σ1)) E
 | .or a b, σ, K, E => evX m mc a σ (fun x σ1 => truth x fun t => brn t (K x σ1) (evX m mc b σ1 K E)) E
 | .ite t a b, σ, K, E => evX m mc t σ (fun x σ1 => truth x fun r => brn r (evX m mc a σ1 K E) (evX m mc b σ1 K E)) E
 | .sub a i, σ, K, E => evX m mc a σ (fun x σ1 => evX m mc i σ1 (fun y σ2 => need (zai σ2 x y) fun z => K z σ2) E) E
 | .slice a lo hi, σ, K, E => evX m mc a σ (fun x σ1 => kd (zff σ1 x lo hi) K σ1) E
 | .scope a, σ, K, E => evX m mc a σ (fun x σ1 => need (evrV x) fun s => K s σ1) E
 | .fault i b, σ, K, _ => need (locA fltL m i) fun e => when ((!b || !e.lim) = true) (K (.pd (if b then e.spot else .str e.what)) σ)
 | .call f l, σ, K, E => evAs m mc l σ (fun as σ' => G f as σ' K E) E
 | .lam _ _, _, _, _ => False
 | .lcall i, σ, K, E => need (locA lamL m i) fun p => G 0 [.lam p.1 p.2] σ K E
 | .meth f o l, σ, K, E => evX m mc o σ (fun x σ1 => need (evrV x) fun s => evXs m mc l σ1 (fun vs σ' => G f (.v (.evr s) :: vs.map .v) σ' K E) E) E
 | .new a, σ, K, E => evX m mc a σ (fun x σ1 => need (newV x) fun d => K (.evr d) σ1) E
 | .prim p l, σ, K, E => evXs m mc l σ (fun vs σ' => zao p vs σ' K) E
 | .lm q o l, σ, K, E => evX m mc o σ (fun x σ1 => when ((lstR σ1 x).isSome = true) (evXs m mc l σ1 (fun vs σ' => evLM q x vs σ' K) E)) E
 | .fstr l, σ, K, E => evFs m mc l Str.empty σ (fun x σ' => K (.pd (.str x)) σ') E
 | .comp b e t it c, σ, K, E => evX m mc it σ (fun x σ1 => need (zaj σ1 x) fun l =>
   zat (fun d σ2 k => need (tgFm mc0 t d) fun mc' => evC m mc' c σ2 (fun r σ3 => brn r (evX m mc' e σ3 (fun v σ4 => need (pdV v) fun d' => k [d'] σ4) E) (k [] σ3)) E)
    (fun σ' k => still σ1 σ' x k) (fun ds σ' => made b ds σ' K) l [] σ1) E
 | .join a b, σ, K, E => evX m mc a σ (fun x σ1 => need (strV x) fun u => evX m mc b σ1 (fun y σ2 => kd (zhG σ2 u y) K σ2) E) E
noncomputable def evC (m : Fm) (mc : Fm) : Option X -> Hp -> (Bool -> Hp -> Prop) -> KE -> Prop
 | none, σ, K, _ => K true σ
 | some e, σ, K, E => evX m mc e σ (fun v σ' => truth v fun r => K r σ') E
noncomputable def evXs (m : Fm) (mc : Fm) : List X -> Hp -> (List V -> Hp -> Prop) -> KE -> Prop
 | [], σ, K, _ => K [] σ
 | x :: r, σ, K, E => evX m mc x σ (fun v σ1 => evXs m mc r σ1 (fun vs σ2 => K (v :: vs) σ2) E) E
noncomputable def evFs (m : Fm) (mc : Fm) : List X -> Str -> Hp -> (Str -> Hp -> Prop) -> KE -> Prop
 | [], acc, σ, K, _ => whenL (acc.length <= sizeLine) (K acc σ)
 | x :: r, acc, σ, K, E => evX m mc x σ (fun v σ1 => need (txt v) fun y => whenL (y.length <= sizeLine /\ (acc ++ y).length <= sizeLine) (evFs m mc r (acc ++ y) σ1 K E)) E
noncomputable def evKs (m : Fm) (mc : Fm) : List (Str × X) -> Hp -> (List (Str × V) -> Hp -> Prop) -> KE -> Prop
 | [], σ, K, _ => K [] σ
 | (k, x) :: r, σ, K, E => evX m mc x σ (fun v σ1 => evKs m mc r σ1 (fun vs σ2 => K ((k, v) :: vs) σ2) E) E
noncomputable def evAs (m : Fm) (mc : Fm) : List X -> Hp -> (List Loc -> Hp -> Prop) -> KE -> Prop
 | [], σ, K, _ => K [] σ
 | .lam b vis :: r, σ, K, E => evAs m mc r σ (fun vs σ2 => K (.lam b (snap vis 0 m) :: vs) σ2) E
 | x :: r, σ, K, E => evX m mc x σ (fun v σ1 => evAs m mc r σ1 (fun vs σ2 => K (.v v :: vs) σ2) E) E
end
noncomputable abbrev KS := Fl -> Fm -> Hp -> Prop
noncomputable def asgN : List Nat -> List V -> Fm -> Option Fm
 | [], [], m => some m
 | i :: r, v :: q, m => if i < m.length then asgN r q (zaw m i (some (.v v))) else none
 | _, _, _ => none
noncomputable def zct (d : PyData) : Option (List PyData) := alt (zbC d) (tupP d)
noncomputable def zdR (σ : Hp) (o k v : V) : Option Hp := alt ((strV k).bind fun s => (dctR σ o).bind fun p => gd (p.2.length <= sizeLine) (σ.set p.1 (.dict (setS s v p.2))))
 ((intV k).bind fun i => (lstR σ o).bind fun p => (pdV v).bind fun d => gd (i < 0 /\ -(p.2.length : Int) <= i /\ p.2.length <= sizeLine) (σ.set p.1 (.list (p.2.set (i + p.2.length).toNat d))))
noncomputable def zes (lim : Bool) (vs : List V) : Option Exc := match vs with
 | [a] => (strV a).bind fun w => gd (lim = true) ⟨true, w, .none⟩
 | [a, b] => (strV a).bind fun w => (pdV b).bind fun d => gd (lim = false) ⟨false, w, d⟩
 | _ => none
mutual
noncomputable def evS : S -> Fm -> Hp -> KS -> KE -> Prop
 | .asg i e, m, σ, K, E => evX G gc m [] e σ (fun v σ' => when (i < m.length) (K .next (zaw m i (some (.v v))) σ')) E
 | .asgs l es, m, σ, K, E => evXs G gc m [] es σ (fun vs σ' => need (asgN l vs m) fun m' => K .next m' σ') E
 | .unp l e, m, σ, K, E => evX G gc m [] e σ (fun v σ' => need (rd σ' v) fun d => need (zct d) fun ds => need (asgN l (ds.map .pd) m) fun m' => K .next m' σ') E
 | .seti o k e, m, σ, K, E => evX G gc m [] e σ (fun v σ1 => evX G gc m [] o σ1 (fun x σ2 => evX G gc m [] k σ2 (fun y σ3 => need (zdR σ3 x y v) fun σ4 => K .next m σ4) E) E) E
 | .ex e, m, σ, K, E => evX G gc m [] e σ (fun _ σ' => K .next m σ') E
 | .ret e, m, σ, K, E => evX G gc m [] e σ (fun v σ' => K (.ret v) m σ') E
 | .ite t a b, m, σ, K, E => evX G gc m [] t σ (fun v σ' => truth v fun r => brn r (evSs a m σ' K E) (evSs b m σ' K E)) E
 | .for t it b, m, σ, K, E => evX G gc m [] it σ (fun x σ1 => need (zaj σ1 x) fun l =>
   forN (fun d m' σ' k => need (tgFm m' t d) fun m'' => evSs b m'' σ' k E) (fun σ' k => still σ1 σ' x k) K l m σ1) E
 | .while t b, m, σ, K, E => ∃ n, zbM (fun m' σ' k => evX G gc m' [] t σ' (fun v σ'' => truth v fun r => k r σ'') E) (fun m' σ' k => evSs b m' σ' k E) K n m σ
 | .bad, _, _, _, _ => False
 | .raise lim l, m, σ, _, E => evXs G gc m [] l σ (fun vs σ' => need (zes lim vs) fun e => E e σ') E
 | .try b h, m, σ, K, E => evSs b m σ K (fun e σ' => evH h e m σ' K E)
 | .cont, m, σ, K, _ => K .cont m σ
noncomputable def evSs : List S -> Fm -> Hp -> KS -> KE -> Prop
 | [], m, σ, K, _ => K .next m σ
 | s :: r, m, σ, K, E => evS s m σ (fun f m' σ' => match f with
   | .next => evSs r m' σ' K E
   | f => K f m' σ') E
noncomputable def evH : List (Bool × Option Nat × List S) -> Exc -> Fm -> Hp -> KS -> KE -> Prop
 | [], e, _, σ, _, E => E e σ
 | (lim, x, b) :: r, e, m, σ, K, E => if lim = e.lim then
   hN x (fun i => when (i < m.length) (evSs b (zaw m i (some (.fault e))) σ (fun f m' σ' => K f (zaw m' i none) σ') (fun _ _ => False))) (evSs b m σ K (fun _ _ => False))
  else evH r e m σ K E
end
end
structure Fn where
 size : Nat
 ps : List Nat
 body : List S
noncomputable def zdB : List Nat -> List Loc -> Fm -> Option Fm
 | [], [], m => some m
 | i :: r, a :: q, m => if i < m.length then zdB r q (zaw m i (some a)) else none
 | _, _, _ => none
noncomputable def zaD (tab : Nat -> Option Fn) (gc : Nat -> PyData) : Nat -> zab
 | 0, _, _, _, _, _ => False
 | n + 1, f, as, σ, K, E => match f, as with
  | 0, [.lam b m] => evX (zaD tab gc n) gc (unsnap m) [] b σ K E
  | f, as => need (tab f) fun fn => need (zdB fn.ps as (List.replicate fn.size none)) fun m =>
   evSs (zaD tab gc n) gc fn.body m σ (fun fl _ σ' => match fl with
    | .ret v => K v σ'
    | .next => K (.pd .none) σ'
    | .cont => False) E
section
variable {α β γ : Type} {P : Prop}
theorem bd_e {o : Option α} {k : α -> Option β} {b : β} (h : o.bind k = some b) (c : ∀ a, o = some a -> k a = some b -> P) : P := by
 cases o with
 | none => cases h
 | some a => exact c a rfl h
theorem zbe {o : Option α} {f : α -> β} {b : β} (h : o.map f = some b) (c : ∀ a, o = some a -> f a = b -> P) : P := by
 cases o with
 | none => cases h
 | some a => exact c a rfl (Option.some.inj h)
theorem zaG {a b : Option β} {c : β} (h : alt a b = some c) (l : a = some c -> P) (r : b = some c -> P) : P := by
 cases a with
 | none => exact r h
 | some x => exact l h
theorem gd_e {c : Prop} [Decidable c] {x y : β} (h : gd c x = some y) (k : c -> x = y -> P) : P := by
 by_cases q : c
 ·exact k q (Option.some.inj ((if_pos q).symm.trans h))
 ·cases (if_neg q).symm.trans h
theorem b2_e {f : PyData -> Option α} {g : PyData -> Option β} {a b : PyData} {k : α -> β -> Option γ} {c : γ} (h : b2 f g a b k = some c) (n : ∀ x y, f a = some x -> g b = some y -> k x y = some c -> P) : P :=
 bd_e h fun x h1 h => bd_e h fun y h2 h => n x y h1 h2 h
@[elab_as_elim] theorem some_m {P : β -> Prop} {x y : β} (h : some x = some y) (k : P x) : P y := Option.some.inj h ▸ k
@[elab_as_elim] theorem gd_m {P : β -> Prop} {c : Prop} [Decidable c] {x y : β} (h : gd c x = some y) (k : c -> P x) : P y := gd_e h fun q e => e ▸ k q
@[elab_as_elim] theorem map_m {P : β -> Prop} {o : Option α} {f : α -> β} {b : β} (h : o.map f = some b) (k : ∀ a, o = some a -> P (f a)) : P b := zbe h fun a q e => e ▸ k a q
theorem zal {o : Option α} {k : α -> Prop} (h : need o k) (c : ∀ a, o = some a -> k a -> P) : P := by
 cases o with
 | none => exact h.elim
 | some a => exact c a rfl h
theorem zop {vs : List V} {k : V -> Prop} (h : one vs k) (c : ∀ v, vs = [v] -> k v -> P) : P := by
 cases vs with
 | nil => exact h.elim
 | cons v r =>
  cases r with
  | nil => exact c v rfl h
  | cons => exact h.elim
theorem zn4 {vs : List V} {k : V -> V -> Prop} (h : two vs k) (c : ∀ v u, vs = [v, u] -> k v u -> P) : P := by
 cases vs with
 | nil => exact h.elim
 | cons v r =>
  cases r with
  | nil => exact h.elim
  | cons u r =>
   cases r with
   | nil => exact c v u rfl h
   | cons => exact h.elim
end
theorem zen {d : PyData} {i : Int} (h : intP d = some i) : d = .int i := by cases d <;> cases h; rfl
theorem zd4 {d : PyData} {x : Str} (h : strP d = some x) : d = .str x := by cases d <;> cases h; rfl
theorem zbI {d : PyData} {l : List PyData} (h : zbC d = some l) : d = .list l := by cases d <;> cases h; rfl
theorem zdd {d : PyData} {l : List PyData} (h : tupP d = some l) : d = .tuple l := by cases d <;> cases h; rfl
theorem zc0 {d : PyData} {l : List (PyData × PyData)} (h : zfh d = some l) : d = .dict l := by cases d <;> cases h; rfl
theorem zbm {v : V} {d : PyData} (h : pdV v = some d) : v = .pd d := by cases v <;> cases h; rfl
theorem zhb {v : V} {i : Nat} (h : refV v = some i) : v = .ref i := by cases v <;> cases h; rfl
theorem zg9 {v : V} {p : Int × Int} (h : rngV v = some p) : v = .rng p.1 p.2 := by cases v <;> cases h; rfl
theorem zn3 {v : V} {n : String} (h : tyV v = some n) : v = .ty n := by cases v <;> cases h; rfl
theorem zbF {v : V} {i : Int} (h : intV v = some i) : v = .pd (.int i) := bd_e h fun d h1 h2 => by rw [zbm h1, zen h2]
theorem zch {v : V} {x : Str} (h : strV v = some x) : v = .pd (.str x) := bd_e h fun d h1 h2 => by rw [zbm h1, zd4 h2]
theorem zm2 {σ : Hp} {v : V} {p : Nat × List PyData} (h : lstR σ v = some p) : v = .ref p.1 /\ σ[p.1]? = some (.list p.2) :=
 bd_e h fun i h1 h => bd_e h fun o h2 h => zbe h fun l h3 h => by
  subst h
  cases o <;> cases h3
  exact ⟨zhb h1, h2⟩
theorem zdo {σ : Hp} {v : V} {p : Nat × List (Str × V)} (h : dctR σ v = some p) : v = .ref p.1 /\ σ[p.1]? = some (.dict p.2) :=
 bd_e h fun i h1 h => bd_e h fun o h2 h => zbe h fun l h3 h => by
  subst h
  cases o <;> cases h3
  exact ⟨zhb h1, h2⟩
theorem zl2 {d : PyData} {b : Bool} (h : znM d = some b) : d = .bool b := by cases d <;> cases h; rfl
theorem zl1 {v : V} {b : Bool} (h : zjR v = some b) : v = .pd (.bool b) := bd_e h fun d h1 h2 => by rw [zbm h1, zl2 h2]
theorem zkr {v s : V} (h : evrV v = some s) : v = .evr s := by cases v <;> cases h; rfl
theorem zj1 {l : Loc} {x : V} (h : valL l = some x) : l = .v x := by cases l <;> cases h; rfl
theorem znp {l : Loc} {e : Exc} (h : fltL l = some e) : l = .fault e := by cases l <;> cases h; rfl
theorem zm7 {l : Loc} {p : X × List (Option V)} (h : lamL l = some p) : l = .lam p.1 p.2 := by cases l <;> cases h; rfl
theorem zhA {α : Type} {P : Prop} {f : Loc -> Option α} {m : Fm} {i : Nat} {a : α} (h : locA f m i = some a) (c : ∀ l, m[i]? = some (some l) -> f l = some a -> P) : P :=
 bd_e h fun o h1 h2 => bd_e h2 fun l h3 h4 => c l (h3 ▸ h1) h4
end Mine.Lake
namespace Mine.Lake
open PySem PySem.W PyProof.Rows PySem.Calls
inductive Kd where
 | ot | fz | mu | fr | ex | tb | cl
 deriving DecidableEq
structure Gh where
 κ : Addr -> Kd
 μ : Nat -> Addr
 n : Nat
section
variable (P : Params) (h : Heap) (κ : Addr -> Kd)
mutual
inductive PV : Value -> PyData -> Prop
 | none : PV .none .none
 | bool (b : Bool) : PV (.bool b) (.bool b)
 | int (i : Int) (t : Tok) : PV (.int i t) (.int i)
 | str (x : Str) (t : Tok) : PV (.str x t) (.str x)
 | tuple {a : Addr} {o : Obj} {vs : Array Value} {n : Nat} {ds : List PyData} : κ a = .fz -> h.get? a = some o -> o.cls = .type "tuple" -> o.data = .seq vs n -> PVs vs.toList ds -> PV (.ref a) (.tuple ds)
 | list {a : Addr} {o : Obj} {vs : Array Value} {n : Nat} {ds : List PyData} : κ a = .fz -> h.get? a = some o -> o.cls = .type "list" -> o.data = .seq vs n -> a ≠ sysModules -> PVs vs.toList ds -> PV (.ref a) (.list ds)
 | dict {a : Addr} {es : Array DictEntry} {n : Nat} {kvs : List (PyData × PyData)} : κ a = .fz -> h.get? a = some ⟨.type "dict", none, .dict es n, #[]⟩ -> a ≠ sysModules -> PEs es.toList kvs -> PV (.ref a) (.dict kvs)
inductive PVs : List Value -> List PyData -> Prop
 | nil : PVs [] []
 | cons {v : Value} {vs : List Value} {d : PyData} {ds : List PyData} : PV v d -> PVs vs ds -> PVs (v :: vs) (d :: ds)
inductive PEs : List DictEntry -> List (PyData × PyData) -> Prop
 | nil : PEs [] []
 | cons {e : DictEntry} {es : List DictEntry} {k : Str} {t : Tok} {d : PyData} {kvs : List (PyData × PyData)} : e.key = .str k t -> e.hash = PyData.keyHash P k -> PV e.val d -> (∀ e' ∈ es, e'.key.isStr k = false) -> PEs es kvs -> PEs (e :: es) ((.str k, d) :: kvs)
end
end
noncomputable def Fz (κ κ' : Addr -> Kd) (h h' : Heap) : Prop := ∀ a o, κ a = .fz -> h.get? a = some o -> κ' a = .fz /\ h'.get? a = some o
structure Ext (X : Addr -> Prop) (g g' : Gh) (h h' : Heap) : Prop where
 kind : ∀ a o, h.get? a = some o -> g'.κ a = g.κ a
 num : g.n <= g'.n
 addr : ∀ i, i < g.n -> g'.μ i = g.μ i
 fz : Fz g.κ g'.κ h h'
 keep : ∀ a o, h.get? a = some o -> ¬ X a -> g.κ a ≠ .mu -> g.κ a ≠ .fr -> g.κ a ≠ .ex -> g.κ a ≠ .tb -> h'.get? a = some o
 frs : ∀ a o, h.get? a = some o -> ¬ X a -> g.κ a = .fr -> ∃ sl, h'.get? a = some { o with slots := sl }
 exs : ∀ a o vs, h.get? a = some o -> ¬ X a -> g.κ a = .ex -> o.data = .fields vs -> ∃ ws, h'.get? a = some { o with data := .fields ws }
 still : ∀ a o, h.get? a = some o -> ∃ o', h'.get? a = some o'
noncomputable abbrev No : Addr -> Prop := fun _ => False
theorem Ext.refl (X : Addr -> Prop) (g : Gh) (h : Heap) : Ext X g g h h := ⟨fun _ _ _ => rfl, Nat.le_refl _, fun _ _ => rfl, fun _ _ k e => ⟨k, e⟩, fun _ _ e _ _ _ _ _ => e, fun _ o e _ _ => ⟨o.slots, e⟩, fun _ o vs e _ _ q => ⟨vs, q ▸ e⟩, fun _ o e => ⟨o, e⟩⟩
theorem Ext.trans {X : Addr -> Prop} {g g' g'' : Gh} {h h' h'' : Heap} (x : Ext X g g' h h') (y : Ext X g' g'' h' h'') : Ext X g g'' h h'' where
 kind a o e := by
  obtain ⟨o', e'⟩ := x.still a o e
  exact (y.kind a o' e').trans (x.kind a o e)
 num := Nat.le_trans x.num y.num
 addr i hi := (y.addr i (Nat.lt_of_lt_of_le hi x.num)).trans (x.addr i hi)
 fz a o k e := y.fz a o (x.fz a o k e).1 (x.fz a o k e).2
 keep a o e z k1 k2 k3 k4 := by
  have hk := x.kind a o e
  exact y.keep a o (x.keep a o e z k1 k2 k3 k4) z (hk ▸ k1) (hk ▸ k2) (hk ▸ k3) (hk ▸ k4)
 frs a o e z k := by
  have hk := x.kind a o e
  obtain ⟨sl, e1⟩ := x.frs a o e z k
  obtain ⟨sl', e2⟩ := y.frs a _ e1 z (hk ▸ k)
  exact ⟨sl', e2⟩
 exs a o vs e z k d := by
  have hk := x.kind a o e
  obtain ⟨dt, e1⟩ := x.exs a o vs e z k d
  obtain ⟨dt', e2⟩ := y.exs a _ dt e1 z (hk ▸ k) rfl
  exact ⟨dt', e2⟩
 still a o e := by
  obtain ⟨o', e'⟩ := x.still a o e
  exact y.still a o' e'
theorem Ext.of_keeps (X : Addr -> Prop) (g : Gh) {h h' : Heap} (k : ∀ b o, h.get? b = some o -> h'.get? b = some o) : Ext X g g h h' :=
 ⟨fun _ _ _ => rfl, Nat.le_refl _, fun _ _ => rfl, fun _ _ q e => ⟨q, k _ _ e⟩, fun _ _ e _ _ _ _ _ => k _ _ e, fun _ o e _ _ => ⟨o.slots, k _ _ e⟩, fun _ o vs e _ _ q => ⟨vs, q ▸ k _ _ e⟩, fun _ o e => ⟨o, k _ _ e⟩⟩
theorem Ext.weaken {X Y : Addr -> Prop} {g g' : Gh} {h h' : Heap} (i : ∀ a, X a -> Y a) (x : Ext X g g' h h') : Ext Y g g' h h' :=
 ⟨x.kind, x.num, x.addr, x.fz, fun a o e z => x.keep a o e fun q => z (i a q), fun a o e z => x.frs a o e fun q => z (i a q), fun a o vs e z => x.exs a o vs e fun q => z (i a q), x.still⟩
theorem Ext.no {X : Addr -> Prop} {g g' : Gh} {h h' : Heap} (x : Ext No g g' h h') : Ext X g g' h h' := x.weaken fun _ q => q.elim
structure Up (g g' : Gh) (h h' : Heap) : Prop where
 num : g.n <= g'.n
 addr : ∀ i, i < g.n -> g'.μ i = g.μ i
 fz : Fz g.κ g'.κ h h'
theorem Ext.up {X : Addr -> Prop} {g g' : Gh} {h h' : Heap} (x : Ext X g g' h h') : Up g g' h h' := ⟨x.num, x.addr, x.fz⟩
theorem Ext.drop {X Y : Addr -> Prop} {g g' : Gh} {h h' : Heap} (x : Ext X g g' h h') (i : ∀ a o, X a -> h.get? a = some o -> Y a) : Ext Y g g' h h' :=
 ⟨x.kind, x.num, x.addr, x.fz, fun a o e z => x.keep a o e fun q => z (i a o q e), fun a o e z => x.frs a o e fun q => z (i a o q e), fun a o vs e z => x.exs a o vs e fun q => z (i a o q e), x.still⟩
section
variable {P : Params} {h h' : Heap} {κ κ' : Addr -> Kd}
theorem PV.mono (x : Fz κ κ' h h') {v : Value} {d : PyData} (p : PV P h κ v d) : PV P h' κ' v d :=
 PV.rec (motive_1 := fun v d _ => PV P h' κ' v d) (motive_2 := fun vs ds _ => PVs P h' κ' vs ds) (motive_3 := fun es kvs _ => PEs P h' κ' es kvs) .none .bool .int .str
  (fun k e c d _ r => .tuple (x _ _ k e).1 (x _ _ k e).2 c d r) (fun k e c d z _ r => .list (x _ _ k e).1 (x _ _ k e).2 c d z r) (fun k e n _ r => .dict (x _ _ k e).1 (x _ _ k e).2 n r)
  .nil (fun _ _ a r => .cons a r) .nil (fun a b _ d _ c r => .cons a b c d r) p
theorem PVs.ind {m : List Value -> List PyData -> Prop} (n : m [] []) (c : ∀ {v d vs ds}, PV P h κ v d -> PVs P h κ vs ds -> m vs ds -> m (v :: vs) (d :: ds)) {vs : List Value} {ds : List PyData} (p : PVs P h κ vs ds) : m vs ds :=
 PVs.rec (motive_1 := fun _ _ _ => True) (motive_2 := fun vs ds _ => m vs ds) (motive_3 := fun _ _ _ => True) ⟨⟩ (fun _ => ⟨⟩) (fun _ _ => ⟨⟩) (fun _ _ => ⟨⟩)
  (fun _ _ _ _ _ _ => ⟨⟩) (fun _ _ _ _ _ _ _ => ⟨⟩) (fun _ _ _ _ _ => ⟨⟩)
  n (fun a r _ i => c a r i) ⟨⟩ (fun _ _ _ _ _ _ _ => ⟨⟩) p
theorem PVs.mono (x : Fz κ κ' h h') {vs : List Value} {ds : List PyData} (p : PVs P h κ vs ds) : PVs P h' κ' vs ds := PVs.ind .nil (fun a _ i => .cons (a.mono x) i) p
theorem PVs.length {vs : List Value} {ds : List PyData} (p : PVs P h κ vs ds) : vs.length = ds.length := PVs.ind (m := fun vs ds => vs.length = ds.length) rfl (fun _ _ i => congrArg (· + 1) i) p
theorem PVs.append {vs : List Value} {ds : List PyData} {ws : List Value} {es : List PyData} (p : PVs P h κ vs ds) (y : PVs P h κ ws es) : PVs P h κ (vs ++ ws) (ds ++ es) :=
 PVs.ind (m := fun vs ds => PVs P h κ (vs ++ ws) (ds ++ es)) y (fun a _ i => .cons a i) p
theorem PVs.get {vs : List Value} {ds : List PyData} (p : PVs P h κ vs ds) : ∀ {i : Nat} {d : PyData}, ds[i]? = some d -> ∃ v, vs[i]? = some v /\ PV P h κ v d :=
 PVs.ind (m := fun vs ds => ∀ {i : Nat} {d : PyData}, ds[i]? = some d -> ∃ v, vs[i]? = some v /\ PV P h κ v d) (fun {i _} e => nomatch (List.getElem?_nil (i := i)).symm.trans e)
  (fun {v _ _ _} a _ ih {i d} e => by
   cases i with
   | zero => exact ⟨v, rfl, Option.some.inj e ▸ a⟩
   | succ i => exact ih (i := i) e) p
theorem PVs.take {vs : List Value} {ds : List PyData} (n : Nat) (p : PVs P h κ vs ds) : PVs P h κ (vs.take n) (ds.take n) :=
 PVs.ind (m := fun vs ds => ∀ n, PVs P h κ (vs.take n) (ds.take n)) (fun n => by cases n <;> exact .nil) (fun a _ i n => by
  cases n with
  | zero => exact .nil
  | succ n => exact .cons a (i n)) p n
theorem PVs.drop {vs : List Value} {ds : List PyData} (n : Nat) (p : PVs P h κ vs ds) : PVs P h κ (vs.drop n) (ds.drop n) :=
 PVs.ind (m := fun vs ds => ∀ n, PVs P h κ (vs.drop n) (ds.drop n)) (fun n => by cases n <;> exact .nil) (fun a r i n => by
  cases n with
  | zero => exact .cons a r
  | succ n => exact i n) p n
theorem PVs.set {vs : List Value} {ds : List PyData} {v : Value} {d : PyData} (n : Nat) (p : PVs P h κ vs ds) (q : PV P h κ v d) : PVs P h κ (vs.set n v) (ds.set n d) :=
 PVs.ind (m := fun vs ds => ∀ n, PVs P h κ (vs.set n v) (ds.set n d)) (fun n => by cases n <;> exact .nil) (fun a r i n => by
  cases n with
  | zero => exact .cons q r
  | succ n => exact .cons a (i n)) p n
theorem zfy {v : Value} {d : PyData} {vs : List Value} {ds : List PyData} (x : ∃ as, Reads h v d as /\ sysModules ∉ as) (y : ∃ as, ReadsAll h vs ds as /\ sysModules ∉ as) : ∃ as, ReadsAll h (v :: vs) (d :: ds) as /\ sysModules ∉ as := by
 obtain ⟨as, q, n⟩ := x
 obtain ⟨bs, p, m⟩ := y
 exact ⟨_, .cons q p, fun hm => (List.mem_append.mp hm).elim n m⟩
theorem zj4 {e : DictEntry} {es : List DictEntry} {k : Str} {t : Tok} {d : PyData} {kvs : List (PyData × PyData)} (a : e.key = .str k t) (x : ∃ as, Reads h e.val d as /\ sysModules ∉ as)
  (y : ∃ as bs, ReadsAll h (es.map (·.key)) (kvs.map (·.1)) as /\ ReadsAll h (es.map (·.val)) (kvs.map (·.2)) bs /\ sysModules ∉ as /\ sysModules ∉ bs) :
  ∃ as bs, ReadsAll h ((e :: es).map (·.key)) (((PyData.str k, d) :: kvs).map (·.1)) as /\ ReadsAll h ((e :: es).map (·.val)) (((PyData.str k, d) :: kvs).map (·.2)) bs /\ sysModules ∉ as /\ sysModules ∉ bs := by
 obtain ⟨as, q, n⟩ := x
 obtain ⟨bs, cs, p1, p2, m1, m2⟩ := y
 exact ⟨_, _, .cons (a ▸ Reads.str k t) p1, .cons q p2, m1, fun hm => (List.mem_append.mp hm).elim n m2⟩
theorem zc9 : sysModules ∉ ([] : List Addr) := fun h => nomatch h
theorem PV.reads {v : Value} {d : PyData} (p : PV P h κ v d) : ∃ as, Reads h v d as /\ sysModules ∉ as :=
 PV.rec (motive_1 := fun v d _ => ∃ as, Reads h v d as /\ sysModules ∉ as) (motive_2 := fun vs ds _ => ∃ as, ReadsAll h vs ds as /\ sysModules ∉ as)
  (motive_3 := fun es kvs _ => ∃ as bs, ReadsAll h (es.map (·.key)) (kvs.map (·.1)) as /\ ReadsAll h (es.map (·.val)) (kvs.map (·.2)) bs /\ sysModules ∉ as /\ sysModules ∉ bs)
  ⟨_, .none, zc9⟩ (fun b => ⟨_, .bool b, zc9⟩) (fun i t => ⟨_, .int i t, zc9⟩) (fun y t => ⟨_, .str y t, zc9⟩)
  (fun _ e c d _ i => i.imp fun _ q => ⟨.tuple e c d q.1, q.2⟩)
  (fun _ e c d z _ i => i.elim fun _ q => ⟨_, .list e c d q.1, fun hm => (List.mem_cons.mp hm).elim (fun w => z w.symm) q.2⟩)
  (fun _ e n _ i => i.elim fun _ i => i.elim fun _ q => ⟨_, .dict e rfl rfl q.1 q.2.1, fun hm => (List.mem_append.mp hm).elim (fun hm => (List.mem_cons.mp hm).elim (fun w => n w.symm) q.2.2.1) q.2.2.2⟩)
  ⟨_, .nil, zc9⟩ (fun _ _ x y => zfy x y) ⟨_, _, .nil, .nil, zc9, zc9⟩ (fun a _ _ _ _ x y => zj4 a x y) p
theorem PVs.reads {vs : List Value} {ds : List PyData} (p : PVs P h κ vs ds) : ∃ as, ReadsAll h vs ds as /\ sysModules ∉ as := PVs.ind (m := fun vs ds => ∃ as, ReadsAll h vs ds as /\ sysModules ∉ as) ⟨_, .nil, zc9⟩ (fun a _ i => zfy a.reads i) p
theorem PEs.reads {es : List DictEntry} {kvs : List (PyData × PyData)} (p : PEs P h κ es kvs) : ∃ as bs, ReadsAll h (es.map (·.key)) (kvs.map (·.1)) as /\ ReadsAll h (es.map (·.val)) (kvs.map (·.2)) bs /\ sysModules ∉ as /\ sysModules ∉ bs :=
 PEs.rec (motive_1 := fun _ _ _ => True) (motive_2 := fun _ _ _ => True) (motive_3 := fun es kvs _ => ∃ as bs, ReadsAll h (es.map (·.key)) (kvs.map (·.1)) as /\ ReadsAll h (es.map (·.val)) (kvs.map (·.2)) bs /\ sysModules ∉ as /\ sysModules ∉ bs)
  ⟨⟩ (fun _ => ⟨⟩) (fun _ _ => ⟨⟩) (fun _ _ => ⟨⟩) (fun _ _ _ _ _ _ => ⟨⟩) (fun _ _ _ _ _ _ _ => ⟨⟩) (fun _ _ _ _ _ => ⟨⟩)
  ⟨⟩ (fun _ _ _ _ => ⟨⟩) ⟨_, _, .nil, .nil, zc9, zc9⟩ (fun a _ c _ _ _ y => zj4 a c.reads y) p
end
end Mine.Lake
namespace Mine.Lake
open PySem PySem.W PyProof.Rows
noncomputable def plL (m : Nat) : List Nat := (List.range 8).filter (m.testBit ·)
noncomputable def plc (m : Nat) : Array Nat := (plL m).toArray
theorem zmR : ∀ m, m < 256 -> ∀ j, j < 8 -> m.testBit j = false -> (SetTable.insertAt (plc m) (SetTable.below (plc m) j) j).toList = plL (m + 2 ^ j) := by decide +kernel
theorem zmT : ∀ m, m < 256 -> ∀ j, j < 8 -> ((plc m)[SetTable.below (plc m) j]? == some j) = m.testBit j := by decide +kernel
theorem zle : ∀ m, m < 256 -> ∀ i, i < (plL m).length -> SetTable.below (plc m) ((plL m).getD i 0 + 1) = i + 1 := by decide +kernel
theorem zld : ∀ m, m < 256 -> SetTable.below (plc m) 0 = 0 := by decide +kernel
theorem zmU : ∀ m, m < 256 -> ∀ j, j < 8 -> m.testBit j = false -> m + 2 ^ j < 256 /\ (plL (m + 2 ^ j)).length = (plL m).length + 1 := by decide +kernel
theorem zjf : ∀ m, m < 256 -> ∀ j, j < 8 -> SetTable.below (plc m) j <= (plL m).length := by decide +kernel
noncomputable def hole (m : Nat) : Nat -> Nat -> Nat -> Option Nat
 | 0, _, _ => none
 | f + 1, i, p => if m.testBit i = true then hole m f ((i * 5 + 1 + p / 32) % 8) (p / 32) else some i
noncomputable def zhR (m : Nat) : Option Nat -> Bool
 | some j => decide (j < 8) && !m.testBit j
 | none => false
theorem zhP : ∀ m, m < 255 -> ∀ i, i < 8 -> zhR m (hole m 207 i 0) = true := by decide +kernel
theorem zhQ {m : Nat} (hm : m < 255) : ∀ (k : Nat) {i p : Nat}, i < 8 -> p < 32 ^ k -> zhR m (hole m (207 + k) i p) = true
 | 0, i, p, hi, hp => by
  have : p = 0 := Nat.lt_one_iff.mp hp
  subst this; exact zhP m hm i hi
 | k + 1, i, p, hi, hp => by
  show zhR m (if m.testBit i = true then hole m (207 + k) ((i * 5 + 1 + p / 32) % 8) (p / 32) else some i) = true
  by_cases h : m.testBit i = true
  ·rw [if_pos h]; exact zhQ hm k (Nat.mod_lt _ (by decide)) (Nat.div_lt_of_lt_mul (by rw [Nat.mul_comm]; exact hp))
  ·rw [if_neg h]
   have h : m.testBit i = false := by cases q : m.testBit i with | true => exact absurd q h | false => rfl
   show (decide (i < 8) && !m.testBit i) = true
   rw [h, decide_eq_true hi]; rfl
theorem zlf : ∀ m, m < 255 -> ∀ j, j < 8 -> m.testBit j = false -> (plL m).length <= 3 -> m + 2 ^ j < 255 := by decide +kernel
structure TG (t : SetTable) (m : Nat) : Prop where
 mask : t.mask = 7
 place : t.place = plc m
 dum : t.dummies = #[]
 lt : m < 255
 plain : t.plain = true
theorem TG.slot {t : SetTable} {m : Nat} (T : TG t m) {j : Nat} (hj : j < 8) : t.slot j = if m.testBit j = true then .live (SetTable.below (plc m) j) else .empty := by
 show (if (t.place[SetTable.below t.place j]? == some j) = true then SetTable.Slot.live (SetTable.below t.place j) else if (t.dummies[SetTable.below t.dummies j]? == some j) = true then .dummy else .empty) = _
 rw [T.place, T.dum, zmT m (Nat.lt_trans T.lt (by decide)) j hj]
 rfl
theorem TG.go {t : SetTable} {m : Nat} (T : TG t m) (h : Int) : ∀ (f : Nat) (i p : Nat), i < 8 -> SetTable.probe.go t (fun _ => h + 1) h f { j := i, more := 0, i := i, perturb := p, dummy := none } = (hole m f i p).map fun j => .empty j none
 | 0, _, _, _ => rfl
 | f + 1, i, p, hi => by
  have e : SetTable.probe.go t (fun _ => h + 1) h (f + 1) { j := i, more := 0, i := i, perturb := p, dummy := none } = (match t.slot i with
   | .empty => some (.empty i none)
   | .dummy => SetTable.probe.go t (fun _ => h + 1) h f (t.advance { j := i, more := 0, i := i, perturb := p, dummy := some i })
   | .live k => if (h + 1 == h) = true then some (.candidate i k (t.advance { j := i, more := 0, i := i, perturb := p, dummy := none })) else SetTable.probe.go t (fun _ => h + 1) h f (t.advance { j := i, more := 0, i := i, perturb := p, dummy := none })) := rfl
  rw [e, T.slot hi]
  show _ = Option.map _ (if m.testBit i = true then hole m f ((i * 5 + 1 + p / 32) % 8) (p / 32) else some i)
  by_cases q : m.testBit i = true
  ·rw [if_pos q, if_pos q]
   have n : ¬ (h + 1 == h) = true := by rw [beq_iff_eq]; exact Int.ne_of_gt (Int.lt_succ h)
   show (if (h + 1 == h) = true then _ else _) = _
   rw [if_neg n]
   have a : t.advance { j := i, more := 0, i := i, perturb := p, dummy := none } = { j := (i * 5 + 1 + p / 32) % 8, more := 0, i := (i * 5 + 1 + p / 32) % 8, perturb := p / 32, dummy := none } := by
    have le : ∀ x : Nat, SetTable.runEnd 7 x = x := fun x => if_neg (Nat.not_le.mpr (Nat.lt_of_lt_of_le (by decide : 7 < 9) (Nat.le_add_left 9 x)))
    show ({ j := (i * 5 + 1 + p / 32) % (t.mask + 1), more := SetTable.runEnd t.mask ((i * 5 + 1 + p / 32) % (t.mask + 1)) - (i * 5 + 1 + p / 32) % (t.mask + 1), i := (i * 5 + 1 + p / 32) % (t.mask + 1), perturb := p / 32, dummy := none } : SetTable.Probe) = _
    rw [T.mask, le, Nat.sub_self]
   rw [a]
   exact TG.go T h f _ _ (Nat.mod_lt _ (by decide))
  ·rw [if_neg q, if_neg q]; rfl
theorem TG.free {t : SetTable} {m : Nat} (T : TG t m) (h : Int) : ∃ j, j < 8 /\ m.testBit j = false /\ t.freeSlot h = some (j, false) := by
 have b : SetTable.bits h < 2 ^ 64 := by
  exact (Int.toNat_lt (Int.emod_nonneg h (by decide))).mpr (Int.emod_lt_of_pos h (by decide))
 have ok := zhQ T.lt 13 (i := SetTable.bits h % 8) (Nat.mod_lt _ (by decide)) (Nat.lt_trans b (by decide))
 have e : t.probe (fun _ => h + 1) h (t.probeStart h) = (hole m 220 (SetTable.bits h % 8) (SetTable.bits h)).map fun j => .empty j none := by
  have le : ∀ x : Nat, SetTable.runEnd 7 x = x := fun x => if_neg (Nat.not_le.mpr (Nat.lt_of_lt_of_le (by decide : 7 < 9) (Nat.le_add_left 9 x)))
  have st : t.probeStart h = { j := SetTable.bits h % 8, more := 0, i := SetTable.bits h % 8, perturb := SetTable.bits h, dummy := none } := by
   show ({ j := SetTable.bits h % (t.mask + 1), more := SetTable.runEnd t.mask (SetTable.bits h % (t.mask + 1)) - SetTable.bits h % (t.mask + 1), i := SetTable.bits h % (t.mask + 1), perturb := SetTable.bits h, dummy := none } : SetTable.Probe) = _
   rw [T.mask, le, Nat.sub_self]
  rw [st]
  show SetTable.probe.go t _ h (10 * (t.mask + 15)) _ = _
  rw [T.mask]
  exact T.go h 220 _ _ (Nat.mod_lt _ (by decide))
 cases q : hole m 220 (SetTable.bits h % 8) (SetTable.bits h) with
 | none => rw [q] at ok; cases ok
 | some j =>
  rw [q] at ok e
  have ok := Bool.and_eq_true_iff.mp ok
  refine ⟨j, of_decide_eq_true ok.1, by simpa using ok.2, ?_⟩
  unfold SetTable.freeSlot
  rw [e]; rfl
theorem TG.lay {t : SetTable} {m : Nat} (T : TG t m) {es : Array (Int × Value)} (hm : (plL m).length = es.size) (h3 : es.size <= 3) (h : Int) (x : Value) :
  ∃ t' es' m', layNew t es h x = (es', t', false, false) /\ TG t' m' /\ es'.size = es.size + 1 /\ (plL m').length = es.size + 1 /\ t'.led = t.led := by
 obtain ⟨j, hj, hb, e⟩ := T.free h
 have lt : m < 256 := Nat.lt_trans T.lt (by decide)
 have pb := zmU m lt j hj hb
 have be := zjf m lt j hj
 have put : t.put j = ({ t with place := plc (m + 2 ^ j), dummies := #[] }, SetTable.below (plc m) j) := by
  show (({ t with place := SetTable.insertAt t.place (SetTable.below t.place j) j, dummies := if (t.dummies[SetTable.below t.dummies j]? == some j) = true then SetTable.eraseAt t.dummies (SetTable.below t.dummies j) else t.dummies } : SetTable), SetTable.below t.place j) = _
  rw [T.place, T.dum]
  have : SetTable.insertAt (plc m) (SetTable.below (plc m) j) j = plc (m + 2 ^ j) := by
   apply Array.toList_inj.mp; exact zmR m lt j hj hb
  rw [this]; rfl
 have sz : (SetTable.insertAt es (SetTable.below (plc m) j) (h, x)).size = es.size + 1 := by
  unfold SetTable.insertAt
  simp only [Array.size_append, Array.size_push, Array.size_extract]
  rw [Nat.min_eq_left (hm ▸ be), Nat.min_self, Nat.sub_zero, Nat.add_right_comm, Nat.add_sub_cancel' (hm ▸ be)]
 have fit : ({ t with place := plc (m + 2 ^ j), dummies := #[] } : SetTable).fits (es.size + 1) = true := by
  show ((plL (m + 2 ^ j)).length == es.size + 1 && decide ((plL (m + 2 ^ j)).length + 0 <= t.mask)) = true
  rw [pb.2, hm, T.mask, Bool.and_eq_true, beq_iff_eq, decide_eq_true_eq]
  exact ⟨rfl, Nat.le_trans (Nat.succ_le_succ h3) (by decide)⟩
 refine ⟨{ t with place := plc (m + 2 ^ j), dummies := #[] }, SetTable.insertAt es (SetTable.below (plc m) j) (h, x), m + 2 ^ j, ?_, ⟨T.mask, rfl, rfl, zlf m T.lt j hj hb (by rw [hm]; exact h3), T.plain⟩, sz, by rw [pb.2, hm], rfl⟩
 unfold layNew
 rw [e]
 dsimp only
 rw [put]
 dsimp only
 unfold SetTable.orStandIn
 rw [sz, fit]; rfl
section
variable {prog : Program} {w : World} {A : Around} {E : Value -> Shared -> Prop} {s : Shared}
noncomputable abbrev za3 (w : World) : Bool := w.params.followText "set-order"
structure SetG (prog : Program) (w : World) (h : Heap) (a : Addr) (l : List Int) (o : Obj) (es : Array (Int × Value)) (ep : Nat) (t : SetTable) (m : Nat) : Prop where
 at_ : h.get? a = some o
 ex : o.ExactSet
 data : o.data = .set es ep t
 el : ElemsOf (intKind prog w) es.toList
 mem : ∀ k, k ∈ l ↔ ∃ e ∈ es.toList, (intKind prog w).is k e.2 = true
 size : es.size = l.length
 tab : TG t m
 cnt : (plL m).length = es.size
 led : t.led = !za3 w
 small : es.size <= 4
theorem SetG.fits {h : Heap} {a : Addr} {l : List Int} {o es ep t m} (G : SetG prog w h a l o es ep t m) : t.fits es.size = true := by
 show (t.place.size == es.size && decide (t.place.size + t.dummies.size <= t.mask)) = true
 rw [G.tab.place, G.tab.dum, G.tab.mask]
 show ((plL m).length == es.size && decide ((plL m).length + 0 <= 7)) = true
 rw [G.cnt, Bool.and_eq_true, beq_iff_eq, decide_eq_true_eq]
 exact ⟨rfl, Nat.le_trans G.small (by decide)⟩
noncomputable def SetS (prog : Program) (w : World) (h : Heap) (a : Addr) (l : List Int) : Prop := ∃ o es ep t m, SetG prog w h a l o es ep t m
theorem any_mem {l : List Int} {k : Int} : l.any (· == k) = true ↔ k ∈ l := by
 rw [List.any_eq_true]
 exact ⟨fun ⟨x, hx, e⟩ => by rw [beq_iff_eq] at e; exact e ▸ hx, fun h => ⟨k, h, beq_self_eq_true k⟩⟩
theorem SetS.setOf {h : Heap} {a : Addr} {l : List Int} (G : SetS prog w h a l) : h.SetOf (intKind prog w) a (fun k => l.any (· == k)) l.length := by
 obtain ⟨o, es, ep, t, m, G⟩ := G
 exact ⟨o, es, ep, t, G.at_, G.ex, G.data, G.el, fun k => any_mem.trans (G.mem k), Nat.lt_of_le_of_lt G.small (by decide), G.fits, G.size⟩
theorem SetS.add {a : Addr} {l : List Int} {k : Int} {u : Tok} {Q : Bool -> Shared -> Prop} (G : SetS prog w s.heap a l) (hl : (step_dedup l k).length <= 4)
  (h : ∀ h', Heap.SameBut a s.heap h' -> SetS prog w h' a (step_dedup l k) -> ∀ b, Q b { s with heap := h' }) : wpAny (model prog w) A (setAddHashed a (.int k u) (hashInt k)) Q E s := by
 obtain ⟨o, es, ep, t, m, G⟩ := G
 have hkey : (intKind prog w).is k (.int k u) = true := intKind_is _ _ _ _
 unfold setAddHashed setAddHashedIn
 refine wpAny_holding (wpAny_bind (wpAny_setState_of G.at_ G.data G.fits ?_))
 dsimp only
 rw [byScan_of rfl (Nat.lt_of_le_of_lt G.small (by decide)) G.el]
 simp only [↓reduceIte]
 unfold setAddByScan
 refine wpAny_bind ?_
 refine wpAny_bind (wpAny_rule ?_)
 refine wpAny_bind (wpAny_setScan_of hkey G.at_ G.data G.fits G.el ?_)
 cases hr : List.findIdx? (fun e => (intKind prog w).is k e.2) es.toList with
 | some j =>
  obtain ⟨hj, hpj, _⟩ := List.findIdx?_eq_some_iff_getElem.mp hr
  have hk : k ∈ l := (G.mem k).mpr ⟨_, List.getElem_mem hj, hpj⟩
  have e : step_dedup l k = l := if_pos (any_mem.mpr hk)
  rw [e] at h
  exact wpAny_pure (wpAny_pure (h s.heap (Heap.SameBut.refl a s.heap) ⟨o, es, ep, t, m, G⟩ _))
 | none =>
  have hk : ¬ k ∈ l := fun hk => by
   obtain ⟨e, he, hp⟩ := (G.mem k).mp hk
   have := List.findIdx?_eq_none_iff.mp hr e he
   rw [hp] at this; cases this
  have e : step_dedup l k = l ++ [k] := if_neg fun q => hk (any_mem.mp q)
  rw [e] at h hl
  have h3 : es.size <= 3 := by rw [G.size]; rw [List.length_append] at hl; exact Nat.le_of_succ_le_succ hl
  obtain ⟨t', es', m', hL, T', sz, cnt, led⟩ := G.tab.lay G.cnt h3 (hashInt k) (.int k u)
  have hperm := layNew_perm t es (hashInt k) (.int k u)
  rw [hL, Array.toList_push] at hperm
  show wpAny _ _ _ _ _ _
  have hL' : layNew t es ((intKind prog w).hash k) (.int k u) = (es', t', false, false) := hL
  dsimp only
  rw [show layNew t es (hashInt k) (.int k u) = (es', t', false, false) from hL]
  refine wpAny_bind (wpAny_pure ?_)
  dsimp only
  rw [T'.plain]
  refine wpAny_bind ?_
  show wpAny _ _ (hashByValue 8 (.int k u)) _ _ _
  rw [hashByValue_scannable 8 rfl]
  refine wpAny_pure ?_
  have tf : t'.tooFull = false := by
   show decide ((t'.place.size + t'.dummies.size) * 5 >= t'.mask * 3) = false
   rw [T'.place, T'.dum, T'.mask]
   show decide (((plL m').length + 0) * 5 >= 7 * 3) = false
   rw [cnt]
   exact decide_eq_false (Nat.not_le.mpr (Nat.lt_of_le_of_lt (Nat.mul_le_mul_right 5 (Nat.succ_le_succ h3)) (by decide)))
  show wpAny _ _ (storeSet a es' t' >>= _) _ _ _
  refine wpAny_bind (wpAny_storeSet_of G.at_ G.data ?_ (by rw [sz, sizeLine_eq]; exact Nat.le_trans (Nat.succ_le_succ h3) (by decide)))
  show wpAny _ _ (if (!false && t'.tooFull) = true then _ else pure (some true)) _ _ _
  rw [tf, Bool.and_false]
  refine wpAny_pure (wpAny_pure (h _ (Heap.SameBut.update ..) ⟨Obj.putSet es' t' o, es', ep + 1, t', m', ?_⟩ _))
  have hup := Heap.get?_update_self (Obj.putSet es' t') G.at_ (by
   have := G.data
   obtain ⟨c, d, dt, sl⟩ := o; cases this; rfl)
  refine ⟨hup, ?_, ?_, (G.el.push hkey rfl).perm hperm, fun k' => ?_, by rw [sz, G.size, List.length_append]; rfl, T', by rw [cnt, sz], led.trans G.led, by rw [sz]; exact Nat.succ_le_succ h3⟩
  ·rw [putSet_of _ _ G.data]; exact G.ex
  ·rw [putSet_of _ _ G.data]
  ·rw [List.mem_append, G.mem k', List.mem_singleton]
   refine ⟨fun q => ?_, fun ⟨e, he, hp⟩ => ?_⟩
   ·rcases q with ⟨e, he, hp⟩ | rfl
    ·exact ⟨e, hperm.mem_iff.mpr (List.mem_append_left _ he), hp⟩
    ·exact ⟨_, hperm.mem_iff.mpr (List.mem_append_right _ (List.mem_singleton.mpr rfl)), hkey⟩
   ·rcases List.mem_append.mp (hperm.mem_iff.mp he) with he | he
    ·exact .inl ⟨e, he, hp⟩
    ·rw [List.mem_singleton] at he; subst he
     exact .inr ((intKind prog w).inj _ _ _ hp hkey)
end
theorem zkG (l : List Int) (k : Int) : l.length <= (step_dedup l k).length := by
 rw [step_length]; split
 ·exact Nat.le_refl _
 ·exact Nat.le_succ _
noncomputable def SI (prog : Program) (w : World) (h : Heap) (a : Addr) (l : List Int) : Prop := h.SetOf (intKind prog w) a (fun k => l.any (· == k)) l.length /\ (l.length <= 4 -> SetS prog w h a l)
section
variable {prog : Program} {w : World} {A : Around} {E : Value -> Shared -> Prop} {s : Shared}
theorem SI.add {a : Addr} {l : List Int} {k : Int} {u : Tok} {Q : Bool -> Shared -> Prop} (G : SI prog w s.heap a l) (hl : l.length + 1 < scanBound)
  (h : ∀ h', Heap.SameBut a s.heap h' -> SI prog w h' a (step_dedup l k) -> ∀ b, Q b { s with heap := h' }) : wpAny (model prog w) A (setAddHashed a (.int k u) (hashInt k)) Q E s := by
 by_cases q : (step_dedup l k).length <= 4
 ·exact (G.2 (Nat.le_trans (zkG l k) q)).add q fun h' sb G' b => h h' sb ⟨G'.setOf, fun _ => G'⟩ b
 ·refine wpAny_setAddHashed_of (knd := intKind prog w) (intKind_is _ _ _ _) rfl G.1 hl fun h' sb G' => h h' sb ⟨SetOf_congr G' (fun k' => (step_any _ _ _).symm) (step_length _ _).symm, fun z => absurd z q⟩ _
theorem SI.at {h h' : Heap} {a : Addr} {l : List Int} (G : SI prog w h a l) (e : ∀ o, h.get? a = some o -> h'.get? a = some o) : SI prog w h' a l := by
 refine ⟨?_, fun q => ?_⟩
 ·obtain ⟨o, es, ep, t, ho, r⟩ := G.1
  exact ⟨o, es, ep, t, e _ ho, r⟩
 ·obtain ⟨o, es, ep, t, m, G⟩ := G.2 q
  exact ⟨o, es, ep, t, m, e _ G.at_, G.ex, G.data, G.el, G.mem, G.size, G.tab, G.cnt, G.led, G.small⟩
end
section
variable {prog : Program} {w : World} {A : Around} {R : Result -> Shared -> Prop} {I : Addr} {fp wr : List Addr} {G : Array GenState -> Array GenState -> Prop} {n : Nat} {P : Nat -> Value -> Prop} {St : Nat -> Shared -> Prop}
theorem ziU (W : WalksS prog w A.in1 I fp wr G n P St) (D : Addr) (hD : D ∉ fp) (val : Nat -> Int) (hval : ∀ i v, P i v -> ∃ t, v = .int (val i) t) (hb : n + 1 < scanBound) :
  ∀ (k i : Nat) (s : Shared), n - i = k -> i <= n -> St i s -> SI prog w s.heap D (firstMet val i) ->
   (∀ s', Moved (D :: wr) G s s' -> SI prog w s'.heap D (firstMet val n) -> R (.ok (.ret .none)) s') -> codeAny (model prog w) A (.builtin "set.update.loop" ⟨[.ref D, .ref I], []⟩) R s := by
 have hw : D ∉ wr := fun h => hD (W.sub _ h)
 have up : ∀ b ∈ wr, b ∈ D :: wr := fun b hb => List.mem_cons_of_mem _ hb
 intro k
 induction k with
 | zero =>
  intro i s hk hi hst hS hR
  obtain rfl : i = n := Nat.le_antisymm hi (Nat.sub_eq_zero_iff_le.mp hk)
  refine codeAny_builtin PyProof.Rows.F.entry_set_update_loop ?_
  rw [Around.under_plainId PyProof.Rows.F.plain_set_update_loop _]
  exact wpAny_bind (W.done s _ _ hst fun s' hm => wpAny_pure (hR s' (hm.mono up) (hS.at fun o e => hm.heap D o hw e)))
 | succ k ih =>
  intro i s hk hi hst hS hR
  have hlt : i < n := Nat.sub_pos_iff_lt.mp (by rw [hk]; exact Nat.succ_pos k)
  refine codeAny_builtin PyProof.Rows.F.entry_set_update_loop ?_
  rw [Around.under_plainId PyProof.Rows.F.plain_set_update_loop _]
  refine wpAny_bind (W.item i s _ _ hlt hst fun v s' hP hst' hm => ?_)
  obtain ⟨t, rfl⟩ := hval i v hP
  have hS' := hS.at fun o e => hm.heap D o hw e
  show wpAny _ A.in1 (holding [Value.int (val i) t] (setAdd D (.int (val i) t)) >>= _) _ _ s'
  refine wpAny_bind (wpAny_holding ?_)
  unfold setAdd
  refine wpAny_holding (wpAny_bind ((intKind prog w).pyHash (k := val i) (intKind_is _ _ _ _) ?_))
  have room : (firstMet val i).length + 1 < scanBound := Nat.lt_of_le_of_lt (Nat.succ_le_succ (Nat.le_trans (firstMet_length_le val i) (Nat.le_of_lt hlt))) hb
  refine SI.add (s := { s' with toks := s'.toks + 1 }) hS' room fun h' sb hS2 b => ?_
  rw [← firstMet_succ] at hS2
  refine wpAny_pure ⟨plainId_quiet PyProof.Rows.F.plain_set_update_loop _, ih (i + 1) _ (show Nat.pred (n - i) = k from congrArg Nat.pred hk) hlt (W.frame _ s' _ _ hst' (Nat.le_succ _) fun c hc o e => ?_) hS2 fun s'' hm'' hS'' => ?_⟩
  ·rw [sb.2 c fun q => hD (q ▸ hc)]; exact e
  ·refine hR s'' (Moved.trans W.gtrans ((hm.mono up).then_heap (Nat.le_succ _) fun c o hc e => ?_) hm'') hS''
   rw [sb.2 c fun q => hc (q ▸ List.mem_cons_self)]; exact e
end
end Mine.Lake
namespace Mine.Lake
open PySem PySem.W PyProof.Rows PySem.Calls
noncomputable abbrev Names := List (Str × NameKind)
structure Cx where
 fn : Names
 cs : Option Names
 funs : List (Str × Nat)
 meths : List (Str × Nat)
 cons : List (Str × Nat)
 muts : List (Nat × Nat)
 lam : Bool
structure Sta where
 prog : Program
 w : World
 s0 : Shared
 K : Frag
 mg : Str -> Option Value
 mb : Str -> Option Value
 cev : Addr
 ec : Bool -> Addr
 fa : Nat -> Addr
 cx : Cx
 gc : Nat -> PyData
 tab : Nat -> Option Fn
 lc : Addr
 tp : Addr
 lq : Str
noncomputable abbrev Sta.B (S : Sta) : Heap := S.s0.heap
noncomputable abbrev Sta.M (S : Sta) : Model := model S.prog S.w
structure StaOk (S : Sta) : Prop where
 K : S.K.In S.B
 g : S.B.Ns mainGlobals S.mg
 b : S.B.Ns builtinsNs S.mb
 builtins : ∀ x : Str, x ≠ "__name__" -> S.mb x = bootBuiltins x
 nolimit : S.B.NoLimit
 cev : 14 < S.cev
 sm : ∃ o, S.B.get? sysModules = some o
 lc : CodeHd S.B S.lc S.tp
 tn : S.B.get? S.tp = none
 ba : ∀ h, S.B.StaysIn h -> h.BuiltinsAt S.mg S.tp
section
variable (S : Sta) (h : Heap) (g : Gh)
inductive VR : Value -> V -> Prop
 | pd {v : Value} {d : PyData} : PV S.w.params h g.κ v d -> VR v (.pd d)
 | ref {i : Nat} : i < g.n -> VR (.ref (g.μ i)) (.ref i)
 | evr {a dx : Addr} {e : DictEntry} {t : Tok} {n : Nat} {sc : V} : g.κ a = .fz -> g.κ dx = .fz -> h.get? a = some (instObj S.cev dx) -> h.get? dx = some (dictOf [e] n) -> e.key = .str (Str.ofString "scope") t -> e.hash = PyData.keyHash S.w.params (Str.ofString "scope") ->
   VR e.val sc -> VR (.ref a) (.evr sc)
 | rng {a : Addr} {lo hi : Int} {t u r : Tok} : g.κ a = .fz -> IsRange h a lo hi 1 t u r -> VR (.ref a) (.rng lo hi)
 | ty (n : String) : VR (.type n) (.ty n)
 | set {a : Addr} {o : Obj} {l : List Int} : g.κ a = .fz -> h.get? a = some o -> SI S.prog S.w h a l -> l.length < scanBound -> l.Nodup -> VR (.ref a) (.set l)
inductive VEs : List DictEntry -> List (Str × V) -> Prop
 | nil : VEs [] []
 | cons {e : DictEntry} {es : List DictEntry} {k : Str} {t : Tok} {x : V} {kvs : List (Str × V)} : e.key = .str k t -> e.hash = PyData.keyHash S.w.params k -> VR S h g e.val x -> (∀ e' ∈ es, e'.key.isStr k = false) -> VEs es kvs -> VEs (e :: es) ((k, x) :: kvs)
inductive VRs : List Value -> List V -> Prop
 | nil : VRs [] []
 | cons {v : Value} {vs : List Value} {d : V} {ds : List V} : VR S h g v d -> VRs vs ds -> VRs (v :: vs) (d :: ds)
inductive MO (a : Addr) : O -> Prop
 | list {vs : List Value} {n : Nat} {l : List PyData} : h.get? a = some ⟨.type "list", none, .seq vs.toArray n, #[]⟩ -> PVs S.w.params h g.κ vs l -> MO a (.list l)
 | dict {es : List DictEntry} {n : Nat} {l : List (Str × V)} : h.get? a = some ⟨.type "dict", none, .dict es.toArray n, #[]⟩ -> VEs S h g es l -> MO a (.dict l)
end
section
variable {S : Sta} {h h' : Heap} {g g' : Gh}
theorem VR.mono (x : Up g g' h h') {v : Value} {d : V} (r : VR S h g v d) : VR S h' g' v d := by
 induction r with
 | pd r => exact .pd (r.mono x.fz)
 | ref hi => exact x.addr _ hi ▸ .ref (Nat.lt_of_lt_of_le hi x.num)
 | evr k1 k2 e1 e2 a b _ ih => exact .evr (x.fz _ _ k1 e1).1 (x.fz _ _ k2 e2).1 (x.fz _ _ k1 e1).2 (x.fz _ _ k2 e2).2 a b ih
 | rng k e => exact .rng (x.fz _ _ k e).1 (x.fz _ _ k e).2
 | ty n => exact .ty n
 | set k e q b nd => exact .set (x.fz _ _ k e).1 (x.fz _ _ k e).2 (q.at fun o e => (x.fz _ _ k e).2) b nd
theorem VRs.mono (x : Up g g' h h') {vs : List Value} {ds : List V} (r : VRs S h g vs ds) : VRs S h' g' vs ds := by
 induction r with
 | nil => exact .nil
 | cons a _ ih => exact .cons (a.mono x) ih
theorem VEs.mono (x : Up g g' h h') {es : List DictEntry} {kvs : List (Str × V)} (r : VEs S h g es kvs) : VEs S h' g' es kvs := by
 induction r with
 | nil => exact .nil
 | cons a b c d _ ih => exact .cons a b (c.mono x) d ih
theorem MO.mono_at (x : Up g g' h h') {a b : Addr} {o : O} (r : MO S h g a o) (e : ∀ ob, h.get? a = some ob -> h'.get? b = some ob) : MO S h' g' b o := by
 cases r with
 | list e1 r => exact .list (e _ e1) (r.mono x.fz)
 | dict e1 r => exact .dict (e _ e1) (r.mono x)
theorem VRs.append {vs ws : List Value} {ds es : List V} (r : VRs S h g vs ds) (q : VRs S h g ws es) : VRs S h g (vs ++ ws) (ds ++ es) := by
 induction r with
 | nil => exact q
 | cons a _ ih => exact .cons a ih
theorem VRs.length {vs : List Value} {ds : List V} (r : VRs S h g vs ds) : vs.length = ds.length := by
 induction r with
 | nil => rfl
 | cons a _ ih => rw [List.length_cons, List.length_cons, ih]
theorem VRs.pds {vs : List Value} {ds : List V} (r : VRs S h g vs ds) : ∀ {l : List PyData}, zaK ds = some l -> PVs S.w.params h g.κ vs l := by
 induction r with
 | nil => intro l e; cases e; exact .nil
 | @cons v vs d ds a r ih =>
  intro l e
  cases d with
  | pd d =>
   obtain ⟨q, e', rfl⟩ := Option.map_eq_some_iff.mp (show (zaK ds).map (d :: ·) = some l from e)
   cases a with
   | pd a => exact .cons a (ih e')
  | _ => cases e
end
set_option backward.match.sparseCases false
noncomputable def zah : Names -> Str -> Nat -> Option (Nat × NameKind)
 | [], _, _ => none
 | (a, k) :: r, x, i => if a = x then some (i, k) else zah r x (i + 1)
theorem zaB {κ α : Type} [DecidableEq κ] {x : κ} {k : α} {l : List (κ × α)} (h : za6 l x = some k) : (x, k) ∈ l := by
 induction l with
 | nil => cases h
 | cons p r ih =>
  by_cases e : p.1 = x
  ·have := (if_pos e).symm.trans h; cases this; cases e; exact .head _
  ·exact .tail _ (ih ((if_neg e).symm.trans h))
set_option genCtorIdx false in
inductive Nm where
 | v (i : Nat)
 | w (i : Nat)
 | g
noncomputable def Nm.ctorIdx (x : Nm) : Nat := Nm.casesOn x (fun _ => 0) (fun _ => 1) 2
noncomputable def badN (x : Str) : Bool := (x == Str.ofString "__debug__") || (x == Str.ofString "__classdict__")
noncomputable def gdN (b : Bool) (x : Option Nm) : Option Nm := match b with
 | true => none
 | false => x
noncomputable def nmF : NameKind -> Nat -> Option Nm
 | .local, i => some (.v i) | .cell, i => some (.v i) | .free, i => some (.v i) | .globalExplicit, _ => none | .globalImplicit, _ => some .g
noncomputable def nmI : NameKind -> Nat -> Option Nm
 | .local, _ => none | .cell, i => some (.v i) | .free, i => some (.v i) | .globalExplicit, _ => none | .globalImplicit, _ => none
noncomputable def nmC (fn : Names) (x : Str) : NameKind -> Nat -> Option Nm
 | .local, i => some (.w i) | .cell, _ => none | .free, _ => (zah fn x 0).bind fun p => nmI p.2 p.1 | .globalExplicit, _ => none | .globalImplicit, _ => some .g
noncomputable def nmOf (cx : Cx) (x : Str) : Option Nm := gdN (badN x) (match cx.cs with
 | none => (zah cx.fn x 0).bind fun p => nmF p.2 p.1
 | some cs => (zah cs x 0).bind fun p => nmC cx.fn x p.2 p.1)
theorem zcv {cx : Cx} {x : Str} {n : Nm} (h : nmOf cx x = some n) : badN x = false := by
 unfold nmOf at h
 cases q : badN x with
 | false => rfl
 | true => rw [q] at h; cases h
theorem zfG {cx : Cx} {x : Str} {n : Nm} (hc : cx.cs = none) (h : nmOf cx x = some n) : ∃ i k, zah cx.fn x 0 = some (i, k) /\ nmF k i = some n := by
 have hb := zcv h
 unfold nmOf at h
 rw [hb, hc] at h
 exact bd_e h fun p e q => ⟨p.1, p.2, e, q⟩
theorem zhu {cx : Cx} {cs : Names} {x : Str} {n : Nm} (hc : cx.cs = some cs) (h : nmOf cx x = some n) : ∃ i k, zah cs x 0 = some (i, k) /\ nmC cx.fn x k i = some n := by
 have hb := zcv h
 unfold nmOf at h
 rw [hb, hc] at h
 exact bd_e h fun p e q => ⟨p.1, p.2, e, q⟩
theorem zkc {cx : Cx} {x : Str} {i : Nat} {k : NameKind} (hb : badN x = false) (hc : cx.cs = none) (e : zah cx.fn x 0 = some (i, k)) : nmOf cx x = nmF k i := by
 unfold nmOf
 rw [hb, hc]
 show (zah cx.fn x 0).bind _ = _
 rw [e]; rfl
noncomputable def zhy (cx : Cx) (x : Str) : Option X := match nmOf cx x with
 | some (.v i) => some (.v i)
 | some (.w i) => some (.w i)
 | some .g => (za6 cx.cons x).map .g
 | none => none
noncomputable def zfZ : Const -> Option X
 | .none => some (.c .none)
 | .bool b => some (.c (.bool b))
 | .int i => some (.c (.int i))
 | .str s => some (.c (.str s))
 | _ => none
noncomputable def opOf : Operator -> Option Op
 | .Add => some .add | .Sub => some .sub | .Mult => some .mul | .Mod => some .mod | .Pow => some .pow | _ => none
noncomputable def ziv : CmpOp -> Op
 | .Eq => .eq | .NotEq => .ne | .Lt => .lt | .LtE => .le | .Gt => .gt | .GtE => .ge | .Is => .is | .IsNot => .isnot | .In => .isin | .NotIn => .notin
noncomputable def primTab : List (Str × Prim) := [(Str.ofString "len", .len), (Str.ofString "int", .int), (Str.ofString "str", .str), (Str.ofString "repr", .repr), (Str.ofString "tuple", .tuple), (Str.ofString "list", .list), (Str.ofString "dict", .mdict), (Str.ofString "range", .range), (Str.ofString "sorted", .sorted), (Str.ofString "set", .set), (Str.ofString "abs", .abs), (Str.ofString "max", .max)]
noncomputable def tyTab : List (Str × String) := [(Str.ofString "bool", "bool"), (Str.ofString "int", "int"), (Str.ofString "str", "str"), (Str.ofString "tuple", "tuple"), (Str.ofString "list", "list")]
noncomputable def zhi (x : Str) : Option Prim := za6 primTab x
noncomputable def tyOf (x : Str) : Option String := za6 tyTab x
noncomputable def lmOf (x : Str) : Option LM := za6 [(Str.ofString "append", .append), (Str.ofString "pop", .pop)] x
noncomputable def zcW (x : Str) : Option Bool := za6 [(Str.ofString "what", false), (Str.ofString "spot", true)] x
noncomputable def zhM (cx : Cx) (p : Pos) : Bool := cx.muts.contains (p.line, p.col)
noncomputable def asKs (e : PySem.Expr) : Option {q : Const × Nat × Pos // e = .Constant q.1 q.2.1 q.2.2} := match e with
 | .Constant c k p => some ⟨(c, k, p), rfl⟩
 | _ => none
noncomputable def asK (e : PySem.Expr) : Option Const := (asKs e).bind fun q => some q.1.1
theorem zkt {e : PySem.Expr} {c : Const} (h : asK e = some c) : ∃ k p, e = .Constant c k p := bd_e h fun q _ h => by
 obtain rfl := Option.some.inj h
 exact ⟨_, _, q.2⟩
noncomputable def intK : Const -> Option Int
 | .int i => some i
 | _ => none
noncomputable def strK : Const -> Option Str
 | .str i => some i
 | _ => none
noncomputable def intC : Option PySem.Expr -> Option (Option Int)
 | none => some none
 | some e => ((asK e).bind intK).map some
noncomputable def zhE : List (Option PySem.Expr) -> Option (List Str)
 | [] => some []
 | e :: r => (e.bind asK).bind fun c => (strK c).bind fun s => (zhE r).map (s :: ·)
noncomputable def both {α β : Type} (a : Option α) (b : Option β) : Option (α × β) := match a, b with | some x, some y => some (x, y) | _, _ => none
noncomputable def zgs (o : PySem.BoolOp) : List X -> Option X
 | [] => none
 | [a] => some a
 | a :: r => (zgs o r).map fun b => match o with | .And => .and a b | .Or => .or a b
noncomputable def zak : PySem.Expr -> Bool
 | .Starred .. => true
 | _ => false
noncomputable def zaW (fn lam : Names) : Names := fn.map (fun p => (p.1, match zah lam p.1 0 with | some (_, .free) => .free | some (_, .globalImplicit) => .globalImplicit | _ => .globalExplicit)) ++ lam.filter (fun p => p.2 == .globalImplicit && lam.lookup p.1 == some .globalImplicit)
noncomputable def zmd (fn lam : Names) : Nat -> List Nat
 | i => match fn with
  | [] => []
  | p :: r => (match zah lam p.1 0 with | some (_, .free) => [i] | _ => []) ++ zmd r lam (i + 1)
noncomputable def zlA (fn : Names) (sc : Scope) : Bool := (sc.kind == .function) && !sc.isGenerator && !sc.isCoroutine && sc.names.all (fun p => p.2 != .cell) && sc.names.all fun p => p.2 != .free || !badN p.1 && (match zah fn p.1 0 with | some (_, .cell) => true | _ => false)
noncomputable def zc1 (fn : Names) (sc : Scope) : Bool := (sc.kind == .function) && sc.names.all (fun p => p.2 != .cell) && sc.names.all (fun p => p.2 != .local || sc.names.lookup p.1 == some .local) && sc.names.all fun p => p.2 != .free || !badN p.1 && (match zah fn p.1 0 with | some (_, .cell) => true | _ => false)
noncomputable def zfF : Arguments -> Bool
 | ⟨a, b, c, d, e, f, g⟩ => a.isEmpty && (b.isEmpty && (c.isNone && (d.isEmpty && (e.isEmpty && (f.isNone && g.isEmpty)))))
noncomputable def zoE : PySem.Expr -> Bool
 | .Name .. => true
 | _ => false
noncomputable def zdp : PySem.Expr -> Bool
 | .Call f a k _ => !(zoE f && (a.isEmpty && k.isEmpty))
 | _ => true
noncomputable def zn9 : NameKind -> Nat -> Option Nat
 | .local, i => some i | .cell, i => some i | .free, _ => none | .globalExplicit, _ => none | .globalImplicit, _ => none
noncomputable def ziR (fn : Names) (x : Str) : Option Nat := (zah fn x 0).bind fun p => zn9 p.2 p.1
theorem zcJ {fn : Names} {x : Str} {i : Nat} (h : ziR fn x = some i) : ∃ k, zah fn x 0 = some (i, k) /\ (k = .local \/ k = .cell) := bd_e h fun p e h => by
 obtain ⟨j, k⟩ := p
 cases k <;> cases h
 ·exact ⟨_, e, .inl rfl⟩
 ·exact ⟨_, e, .inr rfl⟩
noncomputable def zbv (e : PySem.Expr) : Option {p : Str × Pos // e = .Name p.1 p.2} := match e with
 | .Name x p => some ⟨(x, p), rfl⟩
 | _ => none
noncomputable def zbE (cx : Cx) (e : PySem.Expr) : Option Nat := (zbv e).bind fun p => ziR cx.fn p.1.1
theorem zd6 {cx : Cx} {t : PySem.Expr} {i : Nat} (h : zbE cx t = some i) : ∃ x p, t = .Name x p /\ ziR cx.fn x = some i := bd_e h fun p _ h => ⟨p.1.1, p.1.2, p.2, h⟩
noncomputable def zb3 (cx : Cx) : List PySem.Expr -> Option (List Nat)
 | [] => some []
 | e :: r => (zbE cx e).bind fun i => (zb3 cx r).bind fun l => some (i :: l)
noncomputable def one? {α : Type} (l : List α) : Option {a : α // l = [a]} := match l with
 | [a] => some ⟨a, rfl⟩
 | _ => none
noncomputable def zix (e : PySem.Expr) : Option {p : PySem.Expr × List PySem.Expr × Pos // e = .Call p.1 p.2.1 [] p.2.2} := match e with
 | .Call f as ks p => match ks with
  | [] => some ⟨(f, as, p), rfl⟩
  | _ => none
 | _ => none
noncomputable def ziy (e : PySem.Expr) : Option {p : PySem.Expr × Str × Pos // e = .Attribute p.1 p.2.1 p.2.2} := match e with
 | .Attribute o x p => some ⟨(o, x, p), rfl⟩
 | _ => none
section
variable {α β : Type} {P : α -> Prop}
noncomputable def bnd (o : Option {a : α // P a}) (k : ∀ a, P a -> Option β) : Option β := match o with
 | some a => k a.1 a.2
 | none => none
noncomputable def chk (b : Bool) (k : b = true -> Option β) : Option β := if h : b = true then k h else none
noncomputable def opt (o : Option α) (k : ∀ a, o = some a -> Option β) : Option β := match o, k with
 | some a, k => k a rfl
 | none, _ => none
end
noncomputable def zfD {α β : Type} (f : α -> Option β) : List α -> Option (List β)
 | [] => some []
 | a :: r => opt (f a) fun b _ => opt (zfD f r) fun l _ => some (b :: l)
noncomputable def dX (cx : Cx) : Nat -> PySem.Expr -> Option X
 | 0, _ => none
 | n + 1, e => match e with
  | .Constant c _ _ => zfZ c
  | .Name x _ => zhy cx x
  | .Tuple es _ _ => opt (zfD (dX cx n) es) fun l _ => some (.tup l)
  | _ => none
noncomputable def isG : Nm -> Bool
 | .g => true
 | _ => false
noncomputable def lamX (cx : Cx) (e : PySem.Expr) : Option X :=
 bnd (zix e) fun c _ => bnd (ziy c.1) fun a _ => bnd (zix a.1) fun d _ => bnd (zbv d.1) fun y _ => bnd (one? d.2.1) fun z _ =>
  opt (nmOf cx y.1) fun nm _ => chk (isG nm) fun _ => chk (decide (y.1 = Str.ofString "Evaluator")) fun _ =>
  chk (a.2.2.endLine == c.2.2.line && decide (c.2.1.length < 20)) fun _ => chk (c.2.1.all (fun e => !zak e) && !zak z) fun _ =>
  opt (za6 cx.meths a.2.1) fun f _ => opt (dX cx 9 z) fun o _ => opt (zfD (dX cx 9) c.2.1) fun l _ => some (.meth f (.new o) l)
noncomputable def zaX : PySem.Expr -> Nat
 | .ListComp .. => 1
 | .SetComp .. => 1
 | .DictComp .. => 1
 | .Tuple .. => 2
 | .Set .. => 3
 | .Slice .. => 5
 | _ => 0
set_option backward.match.sparseCases true
noncomputable def Rest (s s' : Shared) : Prop := s'.gens = s.gens /\ s'.drawn = s.drawn /\ s'.os = s.os
theorem Rest.refl (s : Shared) : Rest s s := ⟨rfl, rfl, rfl⟩
theorem Rest.trans {s s' s'' : Shared} (x : Rest s s') (y : Rest s' s'') : Rest s s'' := ⟨y.1.trans x.1, y.2.1.trans x.2.1, y.2.2.trans x.2.2⟩
theorem Rest.with_ (s : Shared) (h : Heap) (t : Nat) : Rest s { s with heap := h, toks := t } := ⟨rfl, rfl, rfl⟩
noncomputable abbrev Gh.put (g : Gh) (a : Addr) (k : Kd) : Gh := { g with κ := fun b => if b = a then k else g.κ b }
noncomputable abbrev Gh.mu (g : Gh) (a : Addr) : Gh := { κ := fun b => if b = a then .mu else g.κ b, μ := fun i => if i = g.n then a else g.μ i, n := g.n + 1 }
noncomputable def FramesOk (h : Heap) (g : Gh) (fr : List Env) : Prop := h.FunFrames {} fr /\ ∀ L ∈ fr.filterMap (·.frame), g.κ L = .fr
structure Tabs (S : Sta) (h : Heap) (g : Gh) : Prop where
 k : g.κ S.tp = .tb
 at_ : ∃ ps, h.get? S.tp = some (tabObj ps) /\ TriplesOk ps.toList /\ ∀ pos cv, codeAmong pos ps.toList = some cv -> ∃ c oc vs t, cv = .ref c /\ g.κ c = .fz /\ h.get? c = some oc /\ oc.data = .fields vs /\ vs[1]? = some (.str S.lq t)
theorem Tabs.mono {S : Sta} {h h' : Heap} {g g' : Gh} (x : Tabs S h g) (f : Fz g.κ g'.κ h h') (hk : g'.κ S.tp = .tb) (e : ∀ o, h.get? S.tp = some o -> h'.get? S.tp = some o) : Tabs S h' g' := by
 obtain ⟨ps, h1, h2, h3⟩ := x.at_
 refine ⟨hk, ps, e _ h1, h2, fun pos cv q => ?_⟩
 obtain ⟨c, oc, vs, t, q1, q2, q3, q4⟩ := h3 pos cv q
 exact ⟨c, oc, vs, t, q1, (f _ _ q2 q3).1, (f _ _ q2 q3).2, q4⟩
structure Inv (S : Sta) (fr : List Env) (g : Gh) (σ : Hp) (h : Heap) : Prop where
 stays : S.B.StaysIn h
 bfz : ∀ a o, S.B.get? a = some o -> g.κ a = .fz
 ot : ∀ a, h.get? a = none -> g.κ a = .ot
 num : σ.length = g.n
 mu : ∀ i o, σ[i]? = some o -> MO S h g (g.μ i) o
 km : ∀ i, i < g.n -> g.κ (g.μ i) = .mu
 inj : ∀ i j, i < g.n -> j < g.n -> g.μ i = g.μ j -> i = j
 fr : FramesOk h g fr
 tb : Tabs S h g
theorem zax {h h' base : Heap} : ∀ {l : List Env}, (∀ L ∈ l.filterMap (·.frame), ∀ o, h.get? L = some o -> ∃ sl, h'.get? L = some { o with slots := sl }) -> h.FunFrames base l -> h'.FunFrames base l
 | [], _, _ => trivial
 | env :: r, k, ⟨a, ⟨L, o, e1, e2, e3, e4⟩, z⟩ => by
  obtain ⟨sl, e⟩ := k L (by simp [List.filterMap_cons, e1]) o e3
  refine ⟨a, ⟨L, _, e1, e2, e, e4⟩, zax (fun L' m => k L' ?_) z⟩
  rw [List.filterMap_cons, e1]; exact List.mem_cons_of_mem _ m
theorem FramesOk.mem {h : Heap} {g : Gh} {fr : List Env} (x : FramesOk h g fr) {L : Addr} (m : L ∈ fr.filterMap (·.frame)) : ∃ o, h.get? L = some o /\ ∀ vs, o.data ≠ .fields vs := (Heap.FunFrames.mem x.1 m).2
theorem FramesOk.mono {h h' : Heap} {g g' : Gh} {fr : List Env} (x : FramesOk h g fr) (e : Ext No g g' h h') : FramesOk h' g' fr :=
 ⟨zax (fun L m o ho => e.frs L o ho id (x.2 L m)) x.1, fun L m => by
  obtain ⟨o, ho, _⟩ := x.mem m
  exact (e.kind L o ho).trans (x.2 L m)⟩
section
variable {S : Sta} {fr : List Env} {g : Gh} {σ : Hp} {h h' : Heap} {X : Addr -> Prop}
theorem MO.at {a : Addr} {o : O} (x : MO S h g a o) : ∃ ob, h.get? a = some ob := by
 cases x with
 | list e _ => exact ⟨_, e⟩
 | dict e _ => exact ⟨_, e⟩
theorem Inv.lt (I : Inv S fr g σ h) {i : Nat} {o : O} (e : σ[i]? = some o) : i < g.n := by
 rw [← I.num]; exact (List.getElem?_eq_some_iff.mp e).1
theorem Inv.new (I : Inv S fr g σ h) {a : Addr} {k : Kd} {o : Obj} (kp : ∀ b o, h.get? b = some o -> h'.get? b = some o) (hn : h.get? a = none) (ha : h'.get? a = some o) : Inv S fr (g.put a k) σ h' /\ Ext No g (g.put a k) h h' := by
 have ne : ∀ b o, h.get? b = some o -> b ≠ a := fun b o e q => by rw [q, hn] at e; cases e
 have hk : ∀ b o, h.get? b = some o -> (g.put a k).κ b = g.κ b := fun b o e => if_neg (ne b o e)
 have E : Ext No g (g.put a k) h h' := ⟨hk, Nat.le_refl _, fun _ _ => rfl, fun b o q e => ⟨(hk b o e).trans q, kp b o e⟩, fun b o e _ _ _ _ _ => kp b o e, fun b o e _ _ => ⟨o.slots, kp b o e⟩, fun b o vs e _ _ q => ⟨vs, q ▸ kp b o e⟩, fun b o e => ⟨o, kp b o e⟩⟩
 refine ⟨⟨fun b o e => kp b o (I.stays b o e), fun b o e => (hk b o (I.stays b o e)).trans (I.bfz b o e), fun b e => ?_, I.num, fun i o e => (I.mu i o e).mono_at E.up fun ob q => kp _ _ q, fun i hi => ?_, I.inj, I.fr.mono E, I.tb.mono E.fz (let ⟨_, q, _⟩ := I.tb.at_; (hk _ _ q).trans I.tb.k) (kp _)⟩, E⟩
 ·show (if b = a then k else g.κ b) = .ot
  rw [if_neg (fun q => by rw [q, ha] at e; cases e)]
  refine I.ot b ?_
  cases z : h.get? b with
  | none => rfl
  | some o => rw [kp b o z] at e; cases e
 ·have z := I.km i hi
  have hi' : i < σ.length := I.num ▸ hi
  obtain ⟨ob, e⟩ := (I.mu i σ[i] (List.getElem?_eq_getElem hi')).at
  exact (hk _ ob e).trans z
theorem Inv.keeps (I : Inv S fr g σ h) (kp : ∀ b o, h.get? b = some o -> h'.get? b = some o) : Inv S fr g σ h' /\ Ext No g g h h' := by
 have E := Ext.of_keeps No g kp
 refine ⟨⟨fun b o e => kp b o (I.stays b o e), I.bfz, fun b e => I.ot b ?_, I.num, fun i o e => (I.mu i o e).mono_at E.up fun ob q => kp _ _ q, I.km, I.inj, I.fr.mono E, I.tb.mono E.fz I.tb.k (kp _)⟩, E⟩
 cases z : h.get? b with
 | none => rfl
 | some o => rw [kp b o z] at e; cases e
theorem Inv.muAt (I : Inv S fr g σ h) {i : Nat} (hi : i < g.n) : ∃ ob, h.get? (g.μ i) = some ob := by
 have hi' : i < σ.length := I.num ▸ hi
 exact (I.mu i σ[i] (List.getElem?_eq_getElem hi')).at
theorem Inv.newMu (I : Inv S fr g σ h) {a : Addr} {o : O} (kp : ∀ b o, h.get? b = some o -> h'.get? b = some o) (hn : h.get? a = none) (ha : Up g (g.mu a) h h' -> MO S h' (g.mu a) a o) : Inv S fr (g.mu a) (σ ++ [o]) h' /\ Ext No g (g.mu a) h h' := by
 have ne : ∀ b o, h.get? b = some o -> b ≠ a := fun b o e q => by rw [q, hn] at e; cases e
 have hk : ∀ b o, h.get? b = some o -> (g.mu a).κ b = g.κ b := fun b o e => if_neg (ne b o e)
 have hμ : ∀ i, i < g.n -> (g.mu a).μ i = g.μ i := fun i hi => if_neg (Nat.ne_of_lt hi)
 have E : Ext No g (g.mu a) h h' := ⟨hk, Nat.le_succ _, hμ, fun b o q e => ⟨(hk b o e).trans q, kp b o e⟩, fun b o e _ _ _ _ _ => kp b o e, fun b o e _ _ => ⟨o.slots, kp b o e⟩, fun b o vs e _ _ q => ⟨vs, q ▸ kp b o e⟩, fun b o e => ⟨o, kp b o e⟩⟩
 have hM := ha E.up
 have hat : ∃ ob, h'.get? a = some ob := hM.at
 have hself : (g.mu a).μ g.n = a := if_pos rfl
 have old : ∀ i, i < g.n -> g.μ i ≠ a := fun i hi => by obtain ⟨ob, e⟩ := I.muAt hi; exact ne _ _ e
 refine ⟨⟨fun b o e => kp b o (I.stays b o e), fun b o e => (hk b o (I.stays b o e)).trans (I.bfz b o e), fun b e => ?_, ?_, fun i o e => ?_, fun i hi => ?_, fun i j hi hj e => ?_, I.fr.mono E, I.tb.mono E.fz (let ⟨_, q, _⟩ := I.tb.at_; (hk _ _ q).trans I.tb.k) (kp _)⟩, E⟩
 ·show (if b = a then Kd.mu else g.κ b) = .ot
  rw [if_neg (fun q => by obtain ⟨ob, z⟩ := hat; rw [q, z] at e; cases e)]
  refine I.ot b ?_
  cases z : h.get? b with
  | none => rfl
  | some o => rw [kp b o z] at e; cases e
 ·simp [I.num]
 ·by_cases hi : i < σ.length
  ·rw [List.getElem?_append_left hi] at e
   rw [hμ i (I.num ▸ hi)]
   exact (I.mu i o e).mono_at E.up fun ob q => kp _ _ q
  ·rw [List.getElem?_append_right (Nat.le_of_not_lt hi)] at e
   obtain ⟨q1, q2⟩ := List.getElem?_eq_some_iff.mp e
   have : i = σ.length := Nat.le_antisymm (Nat.sub_eq_zero_iff_le.mp (Nat.lt_one_iff.mp q1)) (Nat.not_lt.mp hi)
   subst this
   simp at q2; subst q2
   rw [I.num, hself]; exact hM
 ·by_cases z : i = g.n
  ·subst z; rw [hself]; exact if_pos rfl
  ·have hi' : i < g.n := Nat.lt_of_le_of_ne (Nat.le_of_lt_succ hi) z
   rw [hμ i hi']
   exact (if_neg (old i hi')).trans (I.km i hi')
 ·by_cases z : i = g.n <;> by_cases y : j = g.n
  ·rw [z, y]
  ·have hj' : j < g.n := Nat.lt_of_le_of_ne (Nat.le_of_lt_succ hj) y
   subst z; rw [hself, hμ j hj'] at e; exact absurd e.symm (old j hj')
  ·have hi' : i < g.n := Nat.lt_of_le_of_ne (Nat.le_of_lt_succ hi) z
   subst y; rw [hself, hμ i hi'] at e; exact absurd e (old i hi')
  ·have hi' : i < g.n := Nat.lt_of_le_of_ne (Nat.le_of_lt_succ hi) z
   have hj' : j < g.n := Nat.lt_of_le_of_ne (Nat.le_of_lt_succ hj) y
   rw [hμ i hi', hμ j hj'] at e; exact I.inj i j hi' hj' e
theorem Inv.upMu (I : Inv S fr g σ h) {i : Nat} {o : O} (hi : i < g.n) (kp : ∀ b o, b ≠ g.μ i -> h.get? b = some o -> h'.get? b = some o) (hs : ∃ ob, h'.get? (g.μ i) = some ob) (ha : Up g g h h' -> MO S h' g (g.μ i) o) : Inv S fr g (σ.set i o) h' /\ Ext No g g h h' := by
 have hki := I.km i hi
 have k2 : ∀ b o, g.κ b ≠ .mu -> h.get? b = some o -> h'.get? b = some o := fun b o q e => kp b o (fun z => q (z ▸ hki)) e
 have sti : ∀ b o, h.get? b = some o -> ∃ o', h'.get? b = some o' := fun b ob e => by
  by_cases z : b = g.μ i
  ·subst z; exact hs
  ·exact ⟨ob, kp b ob z e⟩
 have E : Ext No g g h h' := ⟨fun _ _ _ => rfl, Nat.le_refl _, fun _ _ => rfl, fun b o q e => ⟨q, k2 b o (by rw [q]; decide) e⟩, fun b o e _ q _ _ _ => k2 b o q e, fun b o e _ q => ⟨o.slots, k2 b o (by rw [q]; decide) e⟩, fun b o vs e _ q y => ⟨vs, y ▸ k2 b o (by rw [q]; decide) e⟩, sti⟩
 refine ⟨⟨fun b o e => k2 b o (by rw [I.bfz b o e]; decide) (I.stays b o e), I.bfz, fun b e => I.ot b ?_, by rw [List.length_set, I.num], fun j ob e => ?_, I.km, I.inj, I.fr.mono E, I.tb.mono E.fz I.tb.k fun o q => k2 _ o (by rw [I.tb.k]; decide) q⟩, E⟩
 ·cases z : h.get? b with
  | none => rfl
  | some o => obtain ⟨o', y⟩ := sti b o z; rw [y] at e; cases e
 ·by_cases z : i = j
  ·subst z
   rw [List.getElem?_set_self (I.num ▸ hi)] at e
   cases e; exact ha E.up
  ·rw [List.getElem?_set_ne z] at e
   exact (I.mu j ob e).mono_at E.up fun o q => kp _ o (fun y => z (I.inj _ _ (I.lt e) hi y).symm) q
end
section
variable {S : Sta} {fr : List Env} {g g2 : Gh} {σ : Hp} {h0 h1 h2 : Heap}
theorem Inv.seal {d : Addr} {k : Kd} {o : Obj} (E : Ext No g g2 h0 h1) (I : Inv S fr g2 σ h1) (hn : h0.get? d = none) (k2 : g2.κ d = .ot) (kp : ∀ b o, b ≠ d -> h1.get? b = some o -> h2.get? b = some o) (hd : h2.get? d = some o) :
  Inv S fr (g2.put d k) σ h2 /\ Ext No g (g2.put d k) h0 h2 /\ Up g2 (g2.put d k) h1 h2 := by
 have ne : ∀ b, g2.κ b ≠ .ot -> b ≠ d := fun b q z => q (z ▸ k2)
 have hk : ∀ b, b ≠ d -> (g2.put d k).κ b = g2.κ b := fun b e => if_neg e
 have n0 : ∀ b o, h0.get? b = some o -> b ≠ d := fun b o e z => by rw [z, hn] at e; cases e
 have U : Up g2 (g2.put d k) h1 h2 := ⟨Nat.le_refl _, fun _ _ => rfl, fun b o q e => ⟨(hk b (ne b (by rw [q]; decide))).trans q, kp b o (ne b (by rw [q]; decide)) e⟩⟩
 refine ⟨⟨fun b o e => kp b o (ne b (by rw [I.bfz b o e]; decide)) (I.stays b o e), fun b o e => (hk b (ne b (by rw [I.bfz b o e]; decide))).trans (I.bfz b o e), fun b e => ?_, I.num, fun i o e => ?_, fun i hi => ?_, I.inj, ?_, I.tb.mono U.fz ((hk _ (ne _ (by rw [I.tb.k]; decide))).trans I.tb.k) fun o q => kp _ o (ne _ (by rw [I.tb.k]; decide)) q⟩, ?_, U⟩
 ·by_cases z : b = d
  ·rw [z, hd] at e; cases e
  ·refine (hk b z).trans (I.ot b ?_)
   cases y : h1.get? b with
   | none => rfl
   | some o => rw [kp b o z y] at e; cases e
 ·have q := I.km i (I.lt e)
  exact (I.mu i o e).mono_at U fun ob y => kp _ ob (ne _ (by rw [q]; decide)) y
 ·have q := I.km i hi
  exact (hk _ (ne _ (by rw [q]; decide))).trans q
 ·refine ⟨zax (fun L m o ho => ⟨o.slots, kp L o (ne L (by rw [I.fr.2 L m]; decide)) ho⟩) I.fr.1, fun L m => (hk L (ne L (by rw [I.fr.2 L m]; decide))).trans (I.fr.2 L m)⟩
 ·refine ⟨fun b o e => (hk b (n0 b o e)).trans (E.kind b o e), E.num, E.addr, fun b o q e => ⟨(hk b (n0 b o e)).trans (E.fz b o q e).1, kp b o (n0 b o e) (E.fz b o q e).2⟩, fun b o e z p q r t => kp b o (n0 b o e) (E.keep b o e z p q r t), fun b o e z q => ?_, fun b o vs e z q y => ?_, fun b o e => ?_⟩
  ·obtain ⟨sl, y⟩ := E.frs b o e z q; exact ⟨sl, kp b _ (n0 b o e) y⟩
  ·obtain ⟨ws, y⟩ := E.exs b o vs e z q y; exact ⟨ws, kp b _ (n0 b o e) y⟩
  ·obtain ⟨o', y⟩ := E.still b o e; exact ⟨o', kp b _ (n0 b o e) y⟩
theorem Inv.sealMu {d : Addr} {o : O} (E : Ext No g g2 h0 h1) (I : Inv S fr g2 σ h1) (hn : h0.get? d = none) (k2 : g2.κ d = .ot) (hd1 : ∃ o, h1.get? d = some o) (kp : ∀ b o, b ≠ d -> h1.get? b = some o -> h2.get? b = some o) (ha : Up g2 (g2.mu d) h1 h2 -> MO S h2 (g2.mu d) d o) :
  Inv S fr (g2.mu d) (σ ++ [o]) h2 /\ Ext No g (g2.mu d) h0 h2 := by
 have ne : ∀ b, g2.κ b ≠ .ot -> b ≠ d := fun b q z => q (z ▸ k2)
 have hk : ∀ b, b ≠ d -> (g2.mu d).κ b = g2.κ b := fun b e => if_neg e
 have hμ : ∀ i, i < g2.n -> (g2.mu d).μ i = g2.μ i := fun i hi => if_neg (Nat.ne_of_lt hi)
 have n0 : ∀ b o, h0.get? b = some o -> b ≠ d := fun b o e z => by rw [z, hn] at e; cases e
 have U : Up g2 (g2.mu d) h1 h2 := ⟨Nat.le_succ _, hμ, fun b o q e => ⟨(hk b (ne b (by rw [q]; decide))).trans q, kp b o (ne b (by rw [q]; decide)) e⟩⟩
 have hM := ha U
 obtain ⟨od, hd⟩ := hM.at
 have hself : (g2.mu d).μ g2.n = d := if_pos rfl
 have old : ∀ i, i < g2.n -> g2.μ i ≠ d := fun i hi => ne _ (by rw [I.km i hi]; decide)
 refine ⟨⟨fun b o e => kp b o (ne b (by rw [I.bfz b o e]; decide)) (I.stays b o e), fun b o e => (hk b (ne b (by rw [I.bfz b o e]; decide))).trans (I.bfz b o e), fun b e => ?_, by simp [I.num], fun i o e => ?_, fun i hi => ?_, fun i j hi hj e => ?_, ?_, I.tb.mono U.fz ((hk _ (ne _ (by rw [I.tb.k]; decide))).trans I.tb.k) fun o q => kp _ o (ne _ (by rw [I.tb.k]; decide)) q⟩, ?_⟩
 ·by_cases z : b = d
  ·rw [z, hd] at e; cases e
  ·refine (hk b z).trans (I.ot b ?_)
   cases y : h1.get? b with
   | none => rfl
   | some o => rw [kp b o z y] at e; cases e
 ·by_cases hi : i < σ.length
  ·rw [List.getElem?_append_left hi] at e
   rw [hμ i (I.num ▸ hi)]
   exact (I.mu i o e).mono_at U fun ob q => kp _ ob (old i (I.num ▸ hi)) q
  ·rw [List.getElem?_append_right (Nat.le_of_not_lt hi)] at e
   obtain ⟨q1, q2⟩ := List.getElem?_eq_some_iff.mp e
   have : i = σ.length := Nat.le_antisymm (Nat.sub_eq_zero_iff_le.mp (Nat.lt_one_iff.mp q1)) (Nat.not_lt.mp hi)
   subst this
   simp at q2; subst q2
   rw [I.num, hself]; exact hM
 ·by_cases z : i = g2.n
  ·subst z; rw [hself]; exact if_pos rfl
  ·have hi' : i < g2.n := Nat.lt_of_le_of_ne (Nat.le_of_lt_succ hi) z
   rw [hμ i hi']
   exact (if_neg (old i hi')).trans (I.km i hi')
 ·by_cases z : i = g2.n <;> by_cases y : j = g2.n
  ·rw [z, y]
  ·have hj' : j < g2.n := Nat.lt_of_le_of_ne (Nat.le_of_lt_succ hj) y
   subst z; rw [hself, hμ j hj'] at e; exact absurd e.symm (old j hj')
  ·have hi' : i < g2.n := Nat.lt_of_le_of_ne (Nat.le_of_lt_succ hi) z
   subst y; rw [hself, hμ i hi'] at e; exact absurd e (old i hi')
  ·have hi' : i < g2.n := Nat.lt_of_le_of_ne (Nat.le_of_lt_succ hi) z
   have hj' : j < g2.n := Nat.lt_of_le_of_ne (Nat.le_of_lt_succ hj) y
   rw [hμ i hi', hμ j hj'] at e; exact I.inj i j hi' hj' e
 ·refine ⟨zax (fun L m o ho => ⟨o.slots, kp L o (ne L (by rw [I.fr.2 L m]; decide)) ho⟩) I.fr.1, fun L m => (hk L (ne L (by rw [I.fr.2 L m]; decide))).trans (I.fr.2 L m)⟩
 ·refine ⟨fun b o e => (hk b (n0 b o e)).trans (E.kind b o e), Nat.le_succ_of_le E.num, fun i hi => (hμ i (Nat.lt_of_lt_of_le hi E.num)).trans (E.addr i hi), fun b o q e => ⟨(hk b (n0 b o e)).trans (E.fz b o q e).1, kp b o (n0 b o e) (E.fz b o q e).2⟩, fun b o e z p q r t => kp b o (n0 b o e) (E.keep b o e z p q r t), fun b o e z q => ?_, fun b o vs e z q y => ?_, fun b o e => ?_⟩
  ·obtain ⟨sl, y⟩ := E.frs b o e z q; exact ⟨sl, kp b _ (n0 b o e) y⟩
  ·obtain ⟨ws, y⟩ := E.exs b o vs e z q y; exact ⟨ws, kp b _ (n0 b o e) y⟩
  ·obtain ⟨o', y⟩ := E.still b o e; exact ⟨o', kp b _ (n0 b o e) y⟩
end
section
variable (S : Sta) (fr : List Env) (X : Addr -> Prop)
inductive Ok {α β : Type} (R : Heap -> Gh -> α -> β -> Prop) (g : Gh) (s : Shared) (K : β -> Hp -> Prop) (a : α) (s' : Shared) : Prop
 | mk (b : β) (σ' : Hp) (g' : Gh) (k : K b σ') (e : Ext X g g' s.heap s'.heap) (i : Inv S fr g' σ' s'.heap) (r : R s'.heap g' a b) (z : Rest s s')
end
section
variable {S : Sta} {fr : List Env} {X : Addr -> Prop} {α β : Type} {R : Heap -> Gh -> α -> β -> Prop}
theorem Ok.trans {g g1 : Gh} {s s1 : Shared} {K : β -> Hp -> Prop} (x : Ext X g g1 s.heap s1.heap) (r : Rest s s1) {a : α} {s2 : Shared} : Ok S fr X R g1 s1 K a s2 -> Ok S fr X R g s K a s2 := by
 rintro ⟨b, σ', g', k, e, i, q, z⟩
 exact ⟨b, σ', g', k, x.trans e, i, q, r.trans z⟩
theorem Ok.mono {g : Gh} {s : Shared} {K K' : β -> Hp -> Prop} (k : ∀ b σ, K b σ -> K' b σ) {a : α} {s2 : Shared} : Ok S fr X R g s K a s2 -> Ok S fr X R g s K' a s2 := by
 rintro ⟨b, σ', g', q, e, i, y, z⟩
 exact ⟨b, σ', g', k _ _ q, e, i, y, z⟩
theorem Ok.here {g g' : Gh} {s s' : Shared} {σ' : Hp} {K : β -> Hp -> Prop} {b : β} {a : α} (k : K b σ') (p : Inv S fr g' σ' s'.heap /\ Ext X g g' s.heap s'.heap) (r : R s'.heap g' a b) (z : Rest s s') : Ok S fr X R g s K a s' := ⟨b, σ', g', k, p.2, p.1, r, z⟩
end
noncomputable def Tb (h : Heap) (g : Gh) (ea : Addr) (vs : Array Value) : Prop := ∃ T oT ts, vs[1]? = some (.ref T) /\ T ≠ ea /\ h.get? T = some oT /\ oT.data = .fields ts /\ 3 < ts.size /\ g.κ T = .ex
structure ExcAt (S : Sta) (h : Heap) (g : Gh) (ea : Addr) (e : Exc) (tr : Bool) : Prop where
 kd : g.κ ea = .ex
 obj : ∃ oe vs dx mp, h.get? ea = some oe /\ oe.cls = .ref (S.ec e.lim) /\ oe.dict = some dx /\ oe.data = .fields vs /\ 1 < vs.size /\ g.κ dx = .fz /\ h.Ns dx mp /\
  (∃ v, mp (Str.ofString "what") = some v /\ PV S.w.params h g.κ v (.str e.what)) /\ (e.lim = false -> ∃ v, mp (Str.ofString "spot") = some v /\ PV S.w.params h g.κ v e.spot) /\
  ((tr = false /\ vs[1]? = some .none) \/ (tr = true /\ Tb h g ea vs))
theorem zbd {h h' : Heap} {a : Addr} {mp : Str -> Option Value} (k : ∀ o, h.get? a = some o -> h'.get? a = some o) (x : h.Ns a mp) : h'.Ns a mp := by
 obtain ⟨o, es, ep, e, r⟩ := x
 exact ⟨o, es, ep, k o e, r⟩
theorem zji {h h' : Heap} {a : Addr} {mp : Str -> Option Value} (k : ∀ o, h.get? a = some o -> ∃ sl, h'.get? a = some { o with slots := sl }) (x : h.Ns a mp) : h'.Ns a mp := by
 obtain ⟨o, es, ep, e, r⟩ := x
 obtain ⟨sl, q⟩ := k o e
 exact ⟨_, es, ep, q, r⟩
section
variable {S : Sta} {fr : List Env} {g : Gh} {σ : Hp} {h h' : Heap} {X : Addr -> Prop}
theorem Inv.gen (I : Inv S fr g σ h) (E : Ext No g g h h') (k : ∀ b o, g.κ b = .mu -> h.get? b = some o -> h'.get? b = some o) (k' : ∀ b o, g.κ b = .tb -> h.get? b = some o -> h'.get? b = some o) (hs : ∀ b o, h'.get? b = some o -> (∃ o', h.get? b = some o') \/ g.κ b = .ot \/ True) : Inv S fr g σ h' /\ Ext No g g h h' :=
 ⟨⟨fun b o e => (E.fz b o (I.bfz b o e) (I.stays b o e)).2, I.bfz, fun b e => I.ot b (by
  cases z : h.get? b with
  | none => rfl
  | some o => obtain ⟨o', y⟩ := E.still b o z; rw [y] at e; cases e), I.num, fun i o e => (I.mu i o e).mono_at E.up fun ob q => k _ _ (I.km i (I.lt e)) q, I.km, I.inj, I.fr.mono E, I.tb.mono E.fz I.tb.k fun o q => k' _ o I.tb.k q⟩, E⟩
theorem Inv.slots (I : Inv S fr g σ h) (x : Heap.SlotsOnly (fr.filterMap (·.frame)) h h') : Inv S fr g σ h' /\ Ext No g g h h' := by
 have kf : ∀ b, g.κ b ≠ .fr -> h'.get? b = h.get? b := fun b q => x.2.1 b fun m => q (I.fr.2 b m)
 refine I.gen ⟨fun _ _ _ => rfl, Nat.le_refl _, fun _ _ => rfl, fun b o q e => ⟨q, (kf b (by rw [q]; decide)).trans e⟩, fun b o e _ _ q _ _ => (kf b q).trans e, fun b o e _ _ => x.2.2 b o e, fun b o vs e _ q y => ⟨vs, y ▸ (kf b (by rw [q]; decide)).trans e⟩, fun b o e => ?_⟩ (fun b o q e => (kf b (by rw [q]; decide)).trans e) (fun b o q e => (kf b (by rw [q]; decide)).trans e) fun _ _ _ => .inr (.inr trivial)
 obtain ⟨sl, q⟩ := x.2.2 b o e
 exact ⟨_, q⟩
theorem Inv.upEx (I : Inv S fr g σ h) {a : Addr} {o : Obj} {dt : Array Value} (hk : g.κ a = .ex) (ho : h.get? a = some o) (kp : ∀ b, b ≠ a -> h'.get? b = h.get? b) (ha : h'.get? a = some { o with data := .fields dt }) : Inv S fr g σ h' /\ Ext No g g h h' := by
 have kf : ∀ b, g.κ b ≠ .ex -> h'.get? b = h.get? b := fun b q => kp b fun m => q (m ▸ hk)
 refine I.gen ⟨fun _ _ _ => rfl, Nat.le_refl _, fun _ _ => rfl, fun b o q e => ⟨q, (kf b (by rw [q]; decide)).trans e⟩, fun b o e _ _ _ q _ => (kf b q).trans e, fun b o e _ q => ⟨o.slots, (kf b (by rw [q]; decide)).trans e⟩, fun b o' vs e _ q y => ?_, fun b o' e => ?_⟩ (fun b o q e => (kf b (by rw [q]; decide)).trans e) (fun b o q e => (kf b (by rw [q]; decide)).trans e) fun _ _ _ => .inr (.inr trivial)
 ·by_cases z : b = a
  ·obtain rfl := z.symm; rw [ho] at e; cases e; exact ⟨_, ha⟩
  ·exact ⟨vs, y ▸ (kp b z).trans e⟩
 ·by_cases z : b = a
  ·obtain rfl := z.symm; exact ⟨_, ha⟩
  ·exact ⟨o', (kp b z).trans e⟩
theorem zcm {o : Obj} {vs : Array Value} (hd : o.data = .fields vs) (f : Array Value -> Array Value) : o.mapFields f = { o with data := .fields (f vs) } := by
 obtain ⟨c, d, dt, sl⟩ := o
 subst hd; rfl
theorem Inv.setField (I : Inv S fr g σ h) {a : Addr} {o : Obj} {vs : Array Value} (hk : g.κ a = .ex) (ho : h.get? a = some o) (hd : o.data = .fields vs) (f : Array Value -> Array Value) :
  (h.update a (Obj.mapFields f)).get? a = some { o with data := .fields (f vs) } /\ (∀ b, b ≠ a -> (h.update a (Obj.mapFields f)).get? b = h.get? b) /\ Inv S fr g σ (h.update a (Obj.mapFields f)) /\ Ext No g g h (h.update a (Obj.mapFields f)) := by
 have e1 : (h.update a (Obj.mapFields f)).get? a = some { o with data := .fields (f vs) } := by
  rw [Heap.get?_update_self _ ho (Obj.isFreed_of_fields (Obj.data_mapFields hd _)), zcm hd]
 have e2 : ∀ b, b ≠ a -> (h.update a (Obj.mapFields f)).get? b = h.get? b := fun b q => Heap.get?_update_other _ _ (Ne.symm q)
 exact ⟨e1, e2, I.upEx hk ho e2 e1⟩
end
section
variable {S : Sta} {M : Model} {A : Around} {E : Value -> Shared -> Prop} {s : Shared} {env ev : Env} {outer : List Env} {L ea : Addr} {g : Gh} {σ : Hp} {e : Exc} {tr : Bool}
theorem zc7 {Q : Value -> Shared -> Prop} (hfr : A.frames = some (env :: outer)) (hf : env.frame = some L) (hv : ev.frame = some L) (I : Inv S (env :: outer) g σ s.heap)
  (h : ∀ h', Heap.SlotsOnly ((env :: outer).filterMap (·.frame)) s.heap h' -> Q (.ref L) { s with heap := h' }) : wpAny M A (PySem.frameOf ev) Q E s := by
 have : PySem.frameOf ev = PySem.frameOf env := by unfold PySem.frameOf; rw [hv, hf]
 rw [this]
 exact wpAny_frameOf_fun hfr I.fr.1 hf h
theorem zcf {head : Value} {hadNext : Bool} {Q : Unit -> Shared -> Prop} (hfr : A.frames = some (env :: outer)) (hf : env.frame = some L) (hv : ev.frame = some L) (I : Inv S (env :: outer) g σ s.heap) (x : ExcAt S s.heap g ea e tr)
  (h : ∀ g' h', Inv S (env :: outer) g' σ h' -> Ext No g g' s.heap h' -> ExcAt S h' g' ea e true -> Q () { s with heap := h' }) :
  wpAny M A (do let a ← PySem.frameOf ev; let pl ← entryPlaceOf L hadNext; let b ← EntryCells.newEntry head a .none (rawInt L) .none pl; setField (.ref ea) 1 b) Q E s := by
 obtain ⟨kd, oe, vs, dx, mp, h1, h2, h3, h4, h5, h6, h7, ⟨v1, h8, h9⟩, h10, h11⟩ := x
 refine wpAny_bind (zc7 hfr hf hv I fun h₁ hs₁ => ?_)
 obtain ⟨I₁, E₁⟩ := I.slots hs₁
 refine wpAny_bind (wpAny_entryPlaceOf fun pl hpl => ?_)
 unfold EntryCells.newEntry newFields
 refine wpAny_bind (wpAny_newObj_type ?_ (hpl.sizeOk5 _ _ _ _ _))
 have he₁ : h₁.get? ea = some oe := (hs₁.2.1 ea fun m => by have := I.fr.2 ea m; rw [kd] at this; cases this).trans h1
 have hn : h₁.get? h₁.objs.size = none := Heap.get?_none_of_le (Nat.le_refl _)
 obtain ⟨I₂, E₂⟩ := I₁.new (h' := h₁.push { cls := .type "traceback", dict := none, data := .fields ([head, .ref L, .none, rawInt L, .none] ++ (if pl.isEmpty then List.replicate 6 Value.none else pl)).toArray }) (k := .ex) (fun b o q => Heap.get?_push_of_some _ q) hn (Heap.get?_push_size h₁ rfl)
 have he₂ := Heap.get?_push_of_some (h := h₁) { cls := .type "traceback", dict := none, data := .fields ([head, .ref L, .none, rawInt L, .none] ++ (if pl.isEmpty then List.replicate 6 Value.none else pl)).toArray } he₁
 have kd₂ : (g.put h₁.objs.size .ex).κ ea = .ex := (E₂.kind ea oe he₁).trans kd
 obtain ⟨e3, o3, I₃, E₃⟩ := I₂.setField kd₂ he₂ h4 (·.setIfInBounds 1 (Value.ref h₁.objs.size))
 refine wpAny_setField he₂ h4 h5 (h _ _ I₃ ((E₁.trans E₂).trans E₃) ?_)
 have EE := (E₁.trans E₂).trans E₃
 have hTe : h₁.objs.size ≠ ea := Nat.ne_of_gt (Heap.lt_size he₁)
 have dxN : ∀ o, s.heap.get? dx = some o -> _ := fun o q => (EE.fz dx o h6 q).2
 have dxs : ∃ o, s.heap.get? dx = some o := let ⟨o, _, _, q, _⟩ := h7; ⟨o, q⟩
 refine ⟨kd₂, _, _, dx, mp, e3, h2, h3, rfl, by simpa using h5, (EE.fz dx _ h6 dxs.choose_spec).1, zbd dxN h7, ⟨v1, h8, h9.mono EE.fz⟩, fun q => ?_, .inr ⟨rfl, h₁.objs.size, _, _, by simp [h5], hTe, (o3 _ hTe).trans (Heap.get?_push_size h₁ rfl), rfl, by simp only [List.size_toArray, List.length_append, List.length_cons, List.length_nil]; omega, if_pos rfl⟩⟩
 obtain ⟨v, q1, q2⟩ := h10 q
 exact ⟨v, q1, q2.mono EE.fz⟩
theorem zbw {Q : Unit -> Shared -> Prop} (hfr : A.frames = some (env :: outer)) (hf : env.frame = some L) (hv : ev.frame = some L) (I : Inv S (env :: outer) g σ s.heap) (x : ExcAt S s.heap g ea e tr)
  (h : ∀ g' h', Inv S (env :: outer) g' σ h' -> Ext No g g' s.heap h' -> ExcAt S h' g' ea e true -> Q () { s with heap := h' }) : wpAny M A (noteFrame (.ref ea) ev) Q E s := by
 have x₀ := x
 obtain ⟨kd, oe, vs, dx, mp, h1, h2, h3, h4, h5, h6, h7, ⟨v1, h8, h9⟩, h10, h11⟩ := x
 unfold noteFrame
 simp only [hv]
 rcases h11 with ⟨_, q1⟩ | ⟨hx, T, oT, ts, q1, q2, q3, q4, q5, q6⟩
 ·refine wpAny_bind (wpAny_field h1 h4 q1 ?_)
  rw [if_neg (by decide)]
  exact zcf hfr hf hv I x₀ h
 ·refine wpAny_bind (wpAny_field h1 h4 q1 ?_)
  rw [if_pos (show (Value.ref T != Value.none) = true from by simp)]
  refine wpAny_bind (wpAny_field q3 q4 (Array.getElem?_eq_getElem q5) ?_)
  split
  ·subst hx; exact wpAny_pure (h g s.heap I (Ext.refl _ _ _) x₀)
  ·obtain ⟨e3, o3, I₃, E₃⟩ := I.setField q6 q3 q4 (·.setIfInBounds 3 Value.none)
   refine wpAny_bind (wpAny_setField q3 q4 q5 ?_)
   have hd : ∀ o, s.heap.get? dx = some o -> _ := fun o q => (E₃.fz dx o h6 q).2
   refine zcf hfr hf hv I₃ (tr := true) ⟨kd, oe, vs, dx, mp, (o3 _ (Ne.symm q2)).trans h1, h2, h3, h4, h5, h6, zbd hd h7, ⟨v1, h8, h9.mono E₃.fz⟩, fun q => ?_, .inr ⟨rfl, T, _, _, q1, q2, e3, rfl, by simpa using q5, q6⟩⟩ fun g' h' a b c => h g' h' a (E₃.trans b) c
   obtain ⟨v, y1, y2⟩ := h10 q
   exact ⟨v, y1, y2.mono E₃.fz⟩
theorem zaq {fl : Option Addr} {fr : List Env} {Q : Unit -> Shared -> Prop} (I : Inv S fr g σ s.heap) (x : ExcAt S s.heap g ea e tr)
  (h : ∀ h', Inv S fr g σ h' -> Ext No g g s.heap h' -> ExcAt S h' g ea e tr -> Q () { s with heap := h' }) : wpAny M A (setFlight (.ref ea) fl) Q E s := by
 have x₀ := x
 obtain ⟨kd, oe, vs, dx, mp, h1, h2, h3, h4, h5, h6, h7, ⟨v1, h8, h9⟩, h10, h11⟩ := x
 unfold setFlight
 rcases h11 with ⟨_, q1⟩ | ⟨hx, T, oT, ts, q1, q2, q3, q4, q5, q6⟩
 ·refine wpAny_bind (wpAny_field h1 h4 q1 ?_)
  rw [if_neg (by decide)]
  exact wpAny_pure (h _ I (Ext.refl _ _ _) x₀)
 ·refine wpAny_bind (wpAny_field h1 h4 q1 ?_)
  rw [if_pos (show (Value.ref T != Value.none) = true from by simp)]
  obtain ⟨e3, o3, I₃, E₃⟩ := I.setField q6 q3 q4 (·.setIfInBounds 3 (fl.elim Value.none fun f => rawInt f))
  refine wpAny_setField q3 q4 q5 (h _ I₃ E₃ ?_)
  have hd : ∀ o, s.heap.get? dx = some o -> _ := fun o q => (E₃.fz dx o h6 q).2
  refine ⟨kd, oe, vs, dx, mp, (o3 _ (Ne.symm q2)).trans h1, h2, h3, h4, h5, h6, zbd hd h7, ⟨v1, h8, h9.mono E₃.fz⟩, fun q => ?_, .inr ⟨hx, T, _, _, q1, q2, e3, rfl, by simpa using q5, q6⟩⟩
  obtain ⟨v, y1, y2⟩ := h10 q
  exact ⟨v, y1, y2.mono E₃.fz⟩
theorem zcz {Q : Unit -> Shared -> Prop} (hfr : A.frames = some (env :: outer)) (hf : env.frame = some L) (I : Inv S (env :: outer) g σ s.heap) (x : ExcAt S s.heap g ea e tr)
  (h : ∀ g' h', Inv S (env :: outer) g' σ h' -> Ext No g g' s.heap h' -> ExcAt S h' g' ea e true -> Q () { s with heap := h' }) : wpAny M A (leaving env (.ref ea)) Q E s := by
 unfold leaving
 refine wpAny_bind (zbw hfr hf hf I x fun g' h' I' E' x' => ?_)
 exact zaq I' x' fun h'' I'' E'' x'' => h g' h'' I'' (E'.trans E'') x''
theorem zce {α : Type} {what : String} {fr : List Env} {Q : α -> Shared -> Prop} (I : Inv S fr g σ s.heap) (x : ExcAt S s.heap g ea e true)
  (h : ∀ h', Inv S fr g σ h' -> Ext No g g s.heap h' -> ExcAt S h' g ea e true -> E (.ref ea) { s with heap := h' }) : wpAny M A (PySem.passOn what (.ref ea) ev : Sem α) Q E s := by
 have x₀ := x
 obtain ⟨kd, oe, vs, dx, mp, h1, h2, h3, h4, h5, h6, h7, ⟨v1, h8, h9⟩, h10, h11⟩ := x
 rcases h11 with ⟨q, _⟩ | ⟨hx, T, oT, ts, q1, q2, q3, q4, q5, q6⟩
 ·cases q
 ·unfold PySem.passOn
  refine wpAny_bind (wpAny_field h1 h4 q1 ?_)
  rw [if_neg (show ¬ ((Value.ref T == Value.none) = true) from by simp)]
  first
   | exact wpAny_bind (zaq I x₀ fun h' a b c => wpAny_throw (h h' a b c))
   | exact wpAny_bind (wpAny_pure (wpAny_bind (zaq I x₀ fun h' a b c => wpAny_throw (h h' a b c))))
end
set_option backward.match.sparseCases false
theorem zfV {G : zab} {gc : Nat -> PyData} {m mc : Fm} {K : KV} {d} {u0} {σ : Hp} (hh : evX G gc m mc (.c d) σ K u0) : K (.pd d) σ := hh
theorem zjF {G : zab} {gc : Nat -> PyData} {m mc : Fm} {K : KV} {i} {u0} {σ : Hp} (hh : evX G gc m mc (.g i) σ K u0) : K (.pd (gc i)) σ := hh
theorem zjE {G : zab} {gc : Nat -> PyData} {m mc : Fm} {K : KV} {i} {u0} {σ : Hp} (hh : evX G gc m mc (.v i) σ K u0) : need (locV m i) fun x => K x σ := hh
theorem zjD {G : zab} {gc : Nat -> PyData} {m mc : Fm} {K : KV} {i} {u0} {σ : Hp} (hh : evX G gc m mc (.w i) σ K u0) : need (locV mc i) fun x => K x σ := hh
theorem zjC {G : zab} {gc : Nat -> PyData} {m mc : Fm} {K : KV} {n} {u0} {σ : Hp} (hh : evX G gc m mc (.ty n) σ K u0) : K (.ty n) σ := hh
theorem zjB {G : zab} {gc : Nat -> PyData} {m mc : Fm} {E : KE} {K : KV} {l} {σ : Hp} (hh : evX G gc m mc (.tup l) σ K E) : evXs G gc m mc l σ (fun vs σ' => need (zaK vs) fun ds => when (ds.length <= sizeLine) (K (.pd (.tuple ds)) σ')) E := hh
theorem zjA {G : zab} {gc : Nat -> PyData} {m mc : Fm} {E : KE} {K : KV} {b} {l} {σ : Hp} (hh : evX G gc m mc (.lst b l) σ K E) : evXs G gc m mc l σ (fun vs σ' => need (zaK vs) fun ds => made b ds σ' K) E := hh
theorem zjz {G : zab} {gc : Nat -> PyData} {m mc : Fm} {E : KE} {K : KV} {b} {l} {σ : Hp} (hh : evX G gc m mc (.dct b l) σ K E) : evKs G gc m mc l σ (fun kvs σ' => when (zee (kvs.map (·.1)) = true) (brn b (K (.ref σ'.length) (σ' ++ [.dict kvs])) (need (kvPd kvs) fun ds => K (.pd (.dict ds)) σ'))) E := hh
theorem zdS {G : zab} {gc : Nat -> PyData} {m mc : Fm} {E : KE} {K : KV} {a} {b} {o} {σ : Hp} (hh : evX G gc m mc (.op o a b) σ K E) : evX G gc m mc a σ (fun x σ1 => evX G gc m mc b σ1 (fun y σ2 => kd (evOp o x y σ2) K σ2) E) E := hh
theorem zjy {G : zab} {gc : Nat -> PyData} {m mc : Fm} {E : KE} {K : KV} {a} {σ : Hp} (hh : evX G gc m mc (.neg a) σ K E) : evX G gc m mc a σ (fun x σ1 => need (intV x) fun i => K (.pd (.int (-i))) σ1) E := hh
theorem zey {G : zab} {gc : Nat -> PyData} {m mc : Fm} {E : KE} {K : KV} {a} {σ : Hp} (hh : evX G gc m mc (.not a) σ K E) : evX G gc m mc a σ (fun x σ1 => truth x fun b => K (.pd (.bool (!b))) σ1) E := hh
theorem zex {G : zab} {gc : Nat -> PyData} {m mc : Fm} {E : KE} {K : KV} {a} {b} {σ : Hp} (hh : evX G gc m mc (.and a b) σ K E) : evX G gc m mc a σ (fun x σ1 => truth x fun t => brn t (evX G gc m mc b σ1 K E) (K x σ1)) E := hh
theorem zew {G : zab} {gc : Nat -> PyData} {m mc : Fm} {E : KE} {K : KV} {a} {b} {σ : Hp} (hh : evX G gc m mc (.or a b) σ K E) : evX G gc m mc a σ (fun x σ1 => truth x fun t => brn t (K x σ1) (evX G gc m mc b σ1 K E)) E := hh
theorem zev {G : zab} {gc : Nat -> PyData} {m mc : Fm} {E : KE} {K : KV} {a} {b} {t} {σ : Hp} (hh : evX G gc m mc (.ite t a b) σ K E) : evX G gc m mc t σ (fun x σ1 => truth x fun r => brn r (evX G gc m mc a σ1 K E) (evX G gc m mc b σ1 K E)) E := hh
theorem zie {G : zab} {gc : Nat -> PyData} {m mc : Fm} {E : KE} {K : KV} {a} {i} {σ : Hp} (hh : evX G gc m mc (.sub a i) σ K E) : evX G gc m mc a σ (fun x σ1 => evX G gc m mc i σ1 (fun y σ2 => need (zai σ2 x y) fun z => K z σ2) E) E := hh
theorem zid {G : zab} {gc : Nat -> PyData} {m mc : Fm} {E : KE} {K : KV} {a} {hi} {lo} {σ : Hp} (hh : evX G gc m mc (.slice a lo hi) σ K E) : evX G gc m mc a σ (fun x σ1 => kd (zff σ1 x lo hi) K σ1) E := hh
theorem zic {G : zab} {gc : Nat -> PyData} {m mc : Fm} {E : KE} {K : KV} {a} {σ : Hp} (hh : evX G gc m mc (.scope a) σ K E) : evX G gc m mc a σ (fun x σ1 => need (evrV x) fun s => K s σ1) E := hh
theorem zib {G : zab} {gc : Nat -> PyData} {m mc : Fm} {K : KV} {b} {i} {u0} {σ : Hp} (hh : evX G gc m mc (.fault i b) σ K u0) : need (locA fltL m i) fun e => when ((!b || !e.lim) = true) (K (.pd (if b then e.spot else .str e.what)) σ) := hh
theorem zia {G : zab} {gc : Nat -> PyData} {m mc : Fm} {E : KE} {K : KV} {f} {l} {σ : Hp} (hh : evX G gc m mc (.call f l) σ K E) : evAs G gc m mc l σ (fun as σ' => G f as σ' K E) E := hh
theorem znC {G : zab} {gc : Nat -> PyData} {m mc : Fm} {u0} {u1} {u2} {u3} {u4} (hh : evX G gc m mc (.lam u0 u1) u2 u3 u4) : False := hh
theorem zh9 {G : zab} {gc : Nat -> PyData} {m mc : Fm} {E : KE} {K : KV} {i} {σ : Hp} (hh : evX G gc m mc (.lcall i) σ K E) : need (locA lamL m i) fun p => G 0 [.lam p.1 p.2] σ K E := hh
theorem zh8 {G : zab} {gc : Nat -> PyData} {m mc : Fm} {E : KE} {K : KV} {f} {l} {o} {σ : Hp} (hh : evX G gc m mc (.meth f o l) σ K E) : evX G gc m mc o σ (fun x σ1 => need (evrV x) fun s => evXs G gc m mc l σ1 (fun vs σ' => G f (.v (.evr s) :: vs.map .v) σ' K E) E) E := hh
theorem zh7 {G : zab} {gc : Nat -> PyData} {m mc : Fm} {E : KE} {K : KV} {a} {σ : Hp} (hh : evX G gc m mc (.new a) σ K E) : evX G gc m mc a σ (fun x σ1 => need (newV x) fun d => K (.evr d) σ1) E := hh
theorem zeu {G : zab} {gc : Nat -> PyData} {m mc : Fm} {E : KE} {K : KV} {l} {p} {σ : Hp} (hh : evX G gc m mc (.prim p l) σ K E) : evXs G gc m mc l σ (fun vs σ' => zao p vs σ' K) E := hh
theorem zh6 {G : zab} {gc : Nat -> PyData} {m mc : Fm} {E : KE} {K : KV} {l} {o} {q} {σ : Hp} (hh : evX G gc m mc (.lm q o l) σ K E) : evX G gc m mc o σ (fun x σ1 => when ((lstR σ1 x).isSome = true) (evXs G gc m mc l σ1 (fun vs σ' => evLM q x vs σ' K) E)) E := hh
theorem zh5 {G : zab} {gc : Nat -> PyData} {m mc : Fm} {E : KE} {K : KV} {l} {σ : Hp} (hh : evX G gc m mc (.fstr l) σ K E) : evFs G gc m mc l Str.empty σ (fun x σ' => K (.pd (.str x)) σ') E := hh
theorem zet {G : zab} {gc : Nat -> PyData} {m mc : Fm} {E : KE} {K : KV} {b} {c} {e} {it} {t} {σ : Hp} (hh : evX G gc m mc (.comp b e t it c) σ K E) : evX G gc m mc it σ (fun x σ1 => need (zaj σ1 x) fun l =>
   zat (fun d σ2 k => need (tgFm mc0 t d) fun mc' => evC G gc m mc' c σ2 (fun r σ3 => brn r (evX G gc m mc' e σ3 (fun v σ4 => need (pdV v) fun d' => k [d'] σ4) E) (k [] σ3)) E)
    (fun σ' k => still σ1 σ' x k) (fun ds σ' => made b ds σ' K) l [] σ1) E := hh
theorem zh4 {G : zab} {gc : Nat -> PyData} {m mc : Fm} {E : KE} {K : KV} {a} {b} {σ : Hp} (hh : evX G gc m mc (.join a b) σ K E) : evX G gc m mc a σ (fun x σ1 => need (strV x) fun u => evX G gc m mc b σ1 (fun y σ2 => kd (zhG σ2 u y) K σ2) E) E := hh
theorem znB {G : zab} {gc : Nat -> PyData} {m mc : Fm} {K} {u0} {σ : Hp} (hh : evXs G gc m mc [] σ K u0) : K [] σ := hh
theorem znA {G : zab} {gc : Nat -> PyData} {m mc : Fm} {E : KE} {K} {r} {x} {σ : Hp} (hh : evXs G gc m mc (x :: r) σ K E) : evX G gc m mc x σ (fun v σ1 => evXs G gc m mc r σ1 (fun vs σ2 => K (v :: vs) σ2) E) E := hh
theorem znG {G : zab} {gc : Nat -> PyData} {m mc : Fm} {K} {acc} {u0} {σ : Hp} (hh : evFs G gc m mc [] acc σ K u0) : whenL (acc.length <= sizeLine) (K acc σ) := hh
theorem zeA {G : zab} {gc : Nat -> PyData} {m mc : Fm} {E : KE} {K} {acc} {r} {x} {σ : Hp} (hh : evFs G gc m mc (x :: r) acc σ K E) : evX G gc m mc x σ (fun v σ1 => need (txt v) fun y => whenL (y.length <= sizeLine /\ (acc ++ y).length <= sizeLine) (evFs G gc m mc r (acc ++ y) σ1 K E)) E := hh
theorem znF {G : zab} {gc : Nat -> PyData} {m mc : Fm} {K} {u0} {σ : Hp} (hh : evKs G gc m mc [] σ K u0) : K [] σ := hh
theorem zii {G : zab} {gc : Nat -> PyData} {m mc : Fm} {E : KE} {K} {k} {r} {x} {σ : Hp} (hh : evKs G gc m mc ((k, x) :: r) σ K E) : evX G gc m mc x σ (fun v σ1 => evKs G gc m mc r σ1 (fun vs σ2 => K ((k, v) :: vs) σ2) E) E := hh
theorem znH {G : zab} {gc : Nat -> PyData} {m mc : Fm} {K} {u0} {σ : Hp} (hh : evAs G gc m mc [] σ K u0) : K [] σ := hh
theorem zik {G : zab} {gc : Nat -> PyData} {m mc : Fm} {E : KE} {K} {b} {r} {vis} {σ : Hp} (hh : evAs G gc m mc (.lam b vis :: r) σ K E) : evAs G gc m mc r σ (fun vs σ2 => K (.lam b (snap vis 0 m) :: vs) σ2) E := hh
theorem zij {G : zab} {gc : Nat -> PyData} {x : X} {r : List X} {m mc : Fm} {σ : Hp} {K : List Loc -> Hp -> Prop} {E : KE} (hx : ∀ b v, x ≠ .lam b v) (h : evAs G gc m mc (x :: r) σ K E) : evX G gc m mc x σ (fun v σ1 => evAs G gc m mc r σ1 (fun vs σ2 => K (.v v :: vs) σ2) E) E := by
 cases x <;> first | exact h | exact absurd rfl (hx _ _)
theorem zdT {G : zab} {gc : Nat -> PyData} {E : KE} {K : KS} {e} {i} {m : Fm} {σ : Hp} (hh : evS G gc (.asg i e) m σ K E) : evX G gc m [] e σ (fun v σ' => when (i < m.length) (K .next (zaw m i (some (.v v))) σ')) E := hh
theorem zjM {G : zab} {gc : Nat -> PyData} {E : KE} {K : KS} {es} {l} {m : Fm} {σ : Hp} (hh : evS G gc (.asgs l es) m σ K E) : evXs G gc m [] es σ (fun vs σ' => need (asgN l vs m) fun m' => K .next m' σ') E := hh
theorem zjL {G : zab} {gc : Nat -> PyData} {E : KE} {K : KS} {e} {l} {m : Fm} {σ : Hp} (hh : evS G gc (.unp l e) m σ K E) : evX G gc m [] e σ (fun v σ' => need (rd σ' v) fun d => need (zct d) fun ds => need (asgN l (ds.map .pd) m) fun m' => K .next m' σ') E := hh
theorem zjK {G : zab} {gc : Nat -> PyData} {E : KE} {K : KS} {e} {k} {m : Fm} {o} {σ : Hp} (hh : evS G gc (.seti o k e) m σ K E) : evX G gc m [] e σ (fun v σ1 => evX G gc m [] o σ1 (fun x σ2 => evX G gc m [] k σ2 (fun y σ3 => need (zdR σ3 x y v) fun σ4 => K .next m σ4) E) E) E := hh
theorem zjJ {G : zab} {gc : Nat -> PyData} {E : KE} {K : KS} {e} {m : Fm} {σ : Hp} (hh : evS G gc (.ex e) m σ K E) : evX G gc m [] e σ (fun _ σ' => K .next m σ') E := hh
theorem zfW {G : zab} {gc : Nat -> PyData} {E : KE} {K : KS} {e} {m : Fm} {σ : Hp} (hh : evS G gc (.ret e) m σ K E) : evX G gc m [] e σ (fun v σ' => K (.ret v) m σ') E := hh
theorem zjI {G : zab} {gc : Nat -> PyData} {E : KE} {K : KS} {a} {b} {m : Fm} {t} {σ : Hp} (hh : evS G gc (.ite t a b) m σ K E) : evX G gc m [] t σ (fun v σ' => truth v fun r => brn r (evSs G gc a m σ' K E) (evSs G gc b m σ' K E)) E := hh
theorem zjH {G : zab} {gc : Nat -> PyData} {E : KE} {K : KS} {b} {it} {m : Fm} {t} {σ : Hp} (hh : evS G gc (.for t it b) m σ K E) : evX G gc m [] it σ (fun x σ1 => need (zaj σ1 x) fun l =>
   forN (fun d m' σ' k => need (tgFm m' t d) fun m'' => evSs G gc b m'' σ' k E) (fun σ' k => still σ1 σ' x k) K l m σ1) E := hh
theorem zjG {G : zab} {gc : Nat -> PyData} {E : KE} {K : KS} {b} {m : Fm} {t} {σ : Hp} (hh : evS G gc (.while t b) m σ K E) : ∃ n, zbM (fun m' σ' k => evX G gc m' [] t σ' (fun v σ'' => truth v fun r => k r σ'') E) (fun m' σ' k => evSs G gc b m' σ' k E) K n m σ := hh
theorem znE {G : zab} {gc : Nat -> PyData} {u0} {u1} {u2} {u3} (hh : evS G gc (.bad) u0 u1 u2 u3) : False := hh
theorem zih {G : zab} {gc : Nat -> PyData} {E : KE} {l} {lim} {m : Fm} {u0} {σ : Hp} (hh : evS G gc (.raise lim l) m σ u0 E) : evXs G gc m [] l σ (fun vs σ' => need (zes lim vs) fun e => E e σ') E := hh
theorem zig {G : zab} {gc : Nat -> PyData} {E : KE} {K : KS} {b} {h} {m : Fm} {σ : Hp} (hh : evS G gc (.try b h) m σ K E) : evSs G gc b m σ K (fun e σ' => evH G gc h e m σ' K E) := hh
theorem zif {G : zab} {gc : Nat -> PyData} {K : KS} {m : Fm} {u0} {σ : Hp} (hh : evS G gc (.cont) m σ K u0) : K .cont m σ := hh
theorem znD {G : zab} {gc : Nat -> PyData} {K : KS} {m : Fm} {u0} {σ : Hp} (hh : evSs G gc [] m σ K u0) : K .next m σ := hh
theorem zez {G : zab} {gc : Nat -> PyData} {E : KE} {K : KS} {m : Fm} {r} {s} {σ : Hp} (hh : evSs G gc (s :: r) m σ K E) : evS G gc s m σ (fun f m' σ' => match f with
   | .next => evSs G gc r m' σ' K E
   | f => K f m' σ') E := hh
theorem zn1 {G : zab} {gc : Nat -> PyData} {E : KE} {e : Exc} {u0} {u1} {σ : Hp} (hh : evH G gc [] e u0 σ u1 E) : E e σ := hh
theorem zfX {G : zab} {gc : Nat -> PyData} {E : KE} {K : KS} {b} {e : Exc} {lim} {m : Fm} {r} {x} {σ : Hp} (hh : evH G gc ((lim, x, b) :: r) e m σ K E) : if lim = e.lim then
   hN x (fun i => when (i < m.length) (evSs G gc b (zaw m i (some (.fault e))) σ (fun f m' σ' => K f (zaw m' i none) σ') (fun _ _ => False))) (evSs G gc b m σ K (fun _ _ => False))
  else evH G gc r e m σ K E := hh
set_option backward.match.sparseCases true
noncomputable abbrev Sta.at (S : Sta) (fn : Names) (cs : Option Names) (lam : Bool := false) : Cx := { S.cx with fn := fn, cs := cs, lam := lam }
structure StaOk2 (S : Sta) : Prop extends StaOk S where
 cons : ∀ x i, za6 S.cx.cons x = some i -> ∃ v, S.mg x = some v /\ PV S.w.params S.B (fun _ => .fz) v (S.gc i)
 funs : ∀ x f, za6 S.cx.funs x = some f -> S.mg x = some (.ref (S.fa f))
inductive Er (S : Sta) (fr : List Env) (X : Addr -> Prop) (t : Bool) (g : Gh) (s : Shared) (E : Exc -> Hp -> Prop) (v : Value) (s' : Shared) : Prop
 | mk (exc : Exc) (σ' : Hp) (g' : Gh) (ea : Addr) (tr : Bool) (e : v = .ref ea) (f : t = true -> tr = true) (k : E exc σ') (y : Ext X g g' s.heap s'.heap) (i : Inv S fr g' σ' s'.heap) (q : ExcAt S s'.heap g' ea exc tr) (z : Rest s s')
theorem Er.trans {S : Sta} {fr : List Env} {X : Addr -> Prop} {t : Bool} {g g1 : Gh} {s s1 : Shared} {E : Exc -> Hp -> Prop} (x : Ext X g g1 s.heap s1.heap) (r : Rest s s1) {a : Value} {s2 : Shared} : Er S fr X t g1 s1 E a s2 -> Er S fr X t g s E a s2 := by
 rintro ⟨exc, σ', g', ea, tr, e, f, k, y, i, q, z⟩
 exact ⟨exc, σ', g', ea, tr, e, f, k, x.trans y, i, q, r.trans z⟩
noncomputable def NmAt (h : Heap) (g : Gh) (ev : Env) (x : Str) (v : Value) : Prop :=
 (ev.kindOf x = some .local /\ (g.κ ev.locals = .fr \/ g.κ ev.locals = .ot) /\ ∃ mp, h.Ns ev.locals mp /\ mp x = some v) \/
 (∃ c, (ev.kindOf x = some .cell \/ ev.kindOf x = some .free) /\ ev.cells.lookup x = some c /\ g.κ c = .cl /\ h.IsCell c (some v))
theorem NmAt.mono {h h' : Heap} {g g' : Gh} {ev : Env} {x : Str} {v : Value} (E : Ext No g g' h h') (n : NmAt h g ev x v) : NmAt h' g' ev x v := by
 rcases n with ⟨k, kk, mp, ns, e⟩ | ⟨c, k, l, kc, o, ho, hd⟩
 ·obtain ⟨ob, es, ep, hb, r⟩ := ns
  have kd := E.kind _ ob hb
  refine .inl ⟨k, by rw [kd]; exact kk, mp, ?_, e⟩
  rcases kk with kk | kk
  ·obtain ⟨sl, q⟩ := E.frs _ ob hb id kk
   exact ⟨_, es, ep, q, r⟩
  ·exact ⟨ob, es, ep, E.keep _ ob hb id (by rw [kk]; decide) (by rw [kk]; decide) (by rw [kk]; decide) (by rw [kk]; decide), r⟩
 ·exact .inr ⟨c, k, l, (E.kind _ o ho).trans kc, o, E.keep _ o ho id (by rw [kc]; decide) (by rw [kc]; decide) (by rw [kc]; decide) (by rw [kc]; decide), hd⟩
noncomputable def FaultAt (S : Sta) (X : Addr -> Prop) (h : Heap) (g : Gh) (ea : Addr) (e : Exc) : Prop :=
 g.κ ea = .ex /\ ¬ X ea /\ ∃ oe vs dx mp, h.get? ea = some oe /\ oe.cls = .ref (S.ec e.lim) /\ oe.dict = some dx /\ oe.data = .fields vs /\ g.κ dx = .fz /\ h.Ns dx mp /\
  (∃ v, mp (Str.ofString "what") = some v /\ PV S.w.params h g.κ v (.str e.what)) /\ (e.lim = false -> ∃ v, mp (Str.ofString "spot") = some v /\ PV S.w.params h g.κ v e.spot)
theorem FaultAt.mono {S : Sta} {X : Addr -> Prop} {h h' : Heap} {g g' : Gh} {ea : Addr} {e : Exc} (E : Ext X g g' h h') (x : FaultAt S X h g ea e) : FaultAt S X h' g' ea e := by
 obtain ⟨k, nx, oe, vs, dx, mp, h1, h2, h3, h4, h6, h7, ⟨v1, h8, h9⟩, h10⟩ := x
 obtain ⟨ws, q⟩ := E.exs ea oe vs h1 nx k h4
 obtain ⟨od, es, ep, hb, r⟩ := h7
 refine ⟨(E.kind _ _ h1).trans k, nx, _, ws, dx, mp, q, h2, h3, rfl, (E.fz dx od h6 hb).1, ⟨od, es, ep, (E.fz dx od h6 hb).2, r⟩, ⟨v1, h8, h9.mono E.fz⟩, fun y => ?_⟩
 obtain ⟨v, y1, y2⟩ := h10 y
 exact ⟨v, y1, y2.mono E.fz⟩
inductive LamCode (S : Sta) (h : Heap) (g : Gh) (fd : FuncData) : Prop
 | mk (c : Addr) (oc : Obj) (vs : Array Value) (t : Tok) (e : fd.code = .ref c) (k : g.κ c = .fz) (o : h.get? c = some oc) (d : oc.data = .fields vs) (q : vs[1]? = some (.str fd.qualname t))
structure LamSt (S : Sta) (fd : FuncData) (fn : Names) (e : PySem.Expr) (b : X) : Prop where
 ps : fd.params = ⟨[], [], none, [], [], none, []⟩
 df : fd.defaults = .none
 bd : fd.body = .expr e
 gl : fd.globals = mainGlobals
 bl : fd.builtins = builtinsNs
 kf : fd.scope.kind = .function
 ge : fd.scope.isGenerator = false
 co : fd.scope.isCoroutine = false
 cx : lamX (S.at (zaW fn fd.scope.names) none) e = some b
 nc : ∀ x ∈ fd.scope.names, x.2 ≠ .cell
inductive FreeAt (S : Sta) (Y : Addr -> Prop) (h : Heap) (g : Gh) (fd : FuncData) (x : Str) (l : Option (Option V)) : Prop
 | mk (c : Addr) (o : Obj) (q : fd.closure.lookup x = some c) (k : g.κ c = .cl) (n : ¬ Y c) (e : h.get? c = some o) (v : ∀ y, l = some (some y) -> ∃ v, h.IsCell c (some v) /\ VR S h g v y)
inductive LamAt (S : Sta) (Y : Addr -> Prop) (h : Heap) (g : Gh) (f : Addr) (b : X) (m : List (Option V)) : Prop
 | mk (o : Obj) (fd : FuncData) (fn : Names) (e : PySem.Expr) (k : g.κ f = .fz) (eo : h.get? f = some o) (d : o.data = .func fd) (st : LamSt S fd fn e b) (co : LamCode S h g fd) (fr : ∀ x i, zah fn x 0 = some i -> fd.scope.names.lookup x = some .free -> FreeAt S Y h g fd x m[i.1]?)
theorem LamCode.mono {S : Sta} {h h' : Heap} {g g' : Gh} {fd : FuncData} (E : Fz g.κ g'.κ h h') (x : LamCode S h g fd) : LamCode S h' g' fd := by
 obtain ⟨c, oc, vs, t, c1, c2, c3, c4, c5⟩ := x
 exact ⟨c, oc, vs, t, c1, (E _ _ c2 c3).1, (E _ _ c2 c3).2, c4, c5⟩
theorem FreeAt.mono {S : Sta} {Y : Addr -> Prop} {h h' : Heap} {g g' : Gh} {fd : FuncData} {x : Str} {l : Option (Option V)} (E : Ext Y g g' h h') (r : FreeAt S Y h g fd x l) : FreeAt S Y h' g' fd x l := by
 obtain ⟨c, o, q1, q2, q3, q4, q5⟩ := r
 have q4' := E.keep _ o q4 q3 (by rw [q2]; decide) (by rw [q2]; decide) (by rw [q2]; decide) (by rw [q2]; decide)
 refine ⟨c, o, q1, (E.kind _ o q4).trans q2, q3, q4', fun y hy => ?_⟩
 obtain ⟨v, ⟨o', z1, z2⟩, z3⟩ := q5 y hy
 rw [q4] at z1; cases z1
 exact ⟨v, ⟨o, q4', z2⟩, z3.mono E.up⟩
theorem LamAt.mono {S : Sta} {Y : Addr -> Prop} {h h' : Heap} {g g' : Gh} {f : Addr} {b : X} {m : List (Option V)} (E : Ext Y g g' h h') (x : LamAt S Y h g f b m) : LamAt S Y h' g' f b m := by
 obtain ⟨o, fd, fn, e, h1, h2, h3, st, co, fr⟩ := x
 exact ⟨o, fd, fn, e, (E.fz _ _ h1 h2).1, (E.fz _ _ h1 h2).2, h3, st, co.mono E.fz, fun x i e1 e2 => (fr x i e1 e2).mono E⟩
inductive LR (S : Sta) (Y : Addr -> Prop) (h : Heap) (g : Gh) : Value -> Loc -> Prop
 | v {v : Value} {x : V} : VR S h g v x -> LR S Y h g v (.v x)
 | fault {ea : Addr} {e : Exc} : FaultAt S Y h g ea e -> LR S Y h g (.ref ea) (.fault e)
 | lam {f : Addr} {b : X} {m : List (Option V)} : LamAt S Y h g f b m -> LR S Y h g (.ref f) (.lam b m)
theorem LR.mono {S : Sta} {Y : Addr -> Prop} {h h' : Heap} {g g' : Gh} {v : Value} {l : Loc} (E : Ext Y g g' h h') : LR S Y h g v l -> LR S Y h' g' v l
 | .v r => .v (r.mono E.up)
 | .fault r => .fault (r.mono E)
 | .lam r => .lam (r.mono E)
structure Rd (S : Sta) (cx : Cx) (ev : Env) (Y : Addr -> Prop) (h : Heap) (g : Gh) (m mc : Fm) : Prop where
 v : ∀ x i, nmOf cx x = some (.v i) -> ∀ l, m[i]? = some (some l) -> ∃ v, NmAt h g ev x v /\ LR S Y h g v l
 w : ∀ x i, nmOf cx x = some (.w i) -> ∀ l, mc[i]? = some (some l) -> ∃ v, NmAt h g ev x v /\ LR S Y h g v l
 c : cx.cs = none -> ∀ x i, zah cx.fn x 0 = some (i, .cell) -> ev.kindOf x = some .cell /\ ∃ c o, ev.cells.lookup x = some c /\ g.κ c = .cl /\ h.get? c = some o
theorem Rd.mono {S : Sta} {cx : Cx} {ev : Env} {Y : Addr -> Prop} {h h' : Heap} {g g' : Gh} {m mc : Fm} (E : Ext No g g' h h') (r : Rd S cx ev Y h g m mc) : Rd S cx ev Y h' g' m mc :=
 ⟨fun x i n l e => let ⟨v, a, b⟩ := r.v x i n l e; ⟨v, a.mono E, b.mono E.no⟩, fun x i n l e => let ⟨v, a, b⟩ := r.w x i n l e; ⟨v, a.mono E, b.mono E.no⟩,
  fun hl x i e => let ⟨k, c, o, h1, h2, h3⟩ := r.c hl x i e; ⟨k, c, o, h1, (E.kind _ o h3).trans h2, E.keep _ o h3 id (by rw [h2]; decide) (by rw [h2]; decide) (by rw [h2]; decide) (by rw [h2]; decide)⟩⟩
structure Act (S : Sta) (cx : Cx) (A : Around) (env ev : Env) (outer : List Env) (L : Addr) (nd : Nat) (hd : Bool) : Prop where
 hn : hd = false -> A.handled = none
 frames : A.frames = some (env :: outer)
 fL : env.frame = some L
 vL : ev.frame = some L
 guards : A.guards = some []
 depth : A.depth + nd + 10 < recursionLimit
 units : A.units + 16 * nd + 300 < cLine
 kf : ev.scope.kind = .function
 gl : ev.globals = mainGlobals
 bl : ev.builtins = builtinsNs
 gn : ∀ x, nmOf cx x = some .g -> ev.kindOf x = some .globalImplicit
 lam : cx.lam = true -> ev.code = .ref S.lc /\ ev.qual ++ "<lambda>" = S.lq
noncomputable abbrev RV (S : Sta) : Heap -> Gh -> Value -> V -> Prop := fun h g v d => VR S h g v d
noncomputable abbrev RVs (S : Sta) : Heap -> Gh -> List Value -> List V -> Prop := fun h g v d => VRs S h g v d
noncomputable abbrev RB : Heap -> Gh -> Bool -> Bool -> Prop := fun _ _ a b => a = b
noncomputable def SndX (S : Sta) (G : zab) (nd : Nat) (hd : Bool) (cx : Cx) (e : PySem.Expr) (x : X) : Prop :=
 ∀ A env ev outer L Y m mc σ g s K E, Act S cx A env ev outer L nd hd -> Inv S (env :: outer) g σ s.heap -> Rd S cx ev Y s.heap g m mc -> evX G S.gc m mc x σ K E ->
  wpAny S.M A (eval e ev) (Ok S (env :: outer) No (RV S) g s K) (Er S (env :: outer) No false g s E) s
noncomputable def SndT (S : Sta) (G : zab) (nd : Nat) (hd : Bool) (cx : Cx) (e : PySem.Expr) (x : X) : Prop :=
 ∀ A env ev outer L Y m mc σ g s K E, Act S cx A env ev outer L nd hd -> Inv S (env :: outer) g σ s.heap -> Rd S cx ev Y s.heap g m mc -> evX G S.gc m mc x σ (fun v σ' => truth v fun b => K b σ') E ->
  wpAny S.M A (isTrue e ev (eval e ev)) (Ok S (env :: outer) No RB g s K) (Er S (env :: outer) No false g s E) s
noncomputable def zb0 (S : Sta) (G : zab) (nd : Nat) (hd : Bool) (cx : Cx) (es : List PySem.Expr) (xs : List X) : Prop :=
 ∀ A env ev outer L Y m mc σ g s K E pos, Act S cx A env ev outer L nd hd -> Inv S (env :: outer) g σ s.heap -> Rd S cx ev Y s.heap g m mc -> evXs G S.gc m mc xs σ K E ->
  wpAny S.M A (spliced (backTo pos (starEach es ev))) (Ok S (env :: outer) No (RVs S) g s K) (Er S (env :: outer) No false g s E) s
section
variable {S : Sta} {fr : List Env} {α β γ δ : Type} {R : Heap -> Gh -> α -> β -> Prop} {R' : Heap -> Gh -> γ -> δ -> Prop} {A : Around} {g : Gh} {s : Shared} {K : β -> Hp -> Prop} {K' : δ -> Hp -> Prop} {E : Exc -> Hp -> Prop} {t : Sem α} {t' : Sem γ}
theorem step {P : α -> Shared -> Prop} {Ev : Value -> Shared -> Prop} (h : wpAny S.M A t (Ok S fr No R g s K) Ev s)
  (k : ∀ a b σ1 g1 s1, K b σ1 -> Ext No g g1 s.heap s1.heap -> Inv S fr g1 σ1 s1.heap -> R s1.heap g1 a b -> Rest s s1 -> P a s1) : wpAny S.M A t P Ev s :=
 wpAny_mono h (fun a s1 ⟨b, σ1, g1, k1, e, i, r, z⟩ => k a b σ1 g1 s1 k1 e i r z) fun _ _ x => x
theorem zdO {g1 : Gh} {s1 : Shared} {tr : Bool} (e : Ext No g g1 s.heap s1.heap) (z : Rest s s1) (h : wpAny S.M A t (Ok S fr No R g1 s1 K) (Er S fr No tr g1 s1 E) s1) :
  wpAny S.M A t (Ok S fr No R g s K) (Er S fr No tr g s E) s1 := wpAny_mono h (fun _ _ x => x.trans e z) fun _ _ x => x.trans e z
theorem zbp {g1 : Gh} {s1 : Shared} {tr : Bool} {P : α -> Shared -> Prop} (e : Ext No g g1 s.heap s1.heap) (z : Rest s s1) (h : wpAny S.M A t P (Er S fr No tr g1 s1 E) s1) :
  wpAny S.M A t P (Er S fr No tr g s E) s1 := wpAny_mono h (fun _ _ x => x) fun _ _ x => x.trans e z
end
section
variable {S : Sta} {A : Around} {ev : Env} {x : Str} {v : Value} {s : Shared} {g : Gh} {Q : Value -> Shared -> Prop} {Ev : Value -> Shared -> Prop} {M : Model}
theorem NmAt.load (n : NmAt s.heap g ev x v) (kf : ev.scope.kind = .function) (hb : badN x = false) (h : Q v s) : wpAny M A (loadName ev x) Q Ev s := by
 rcases n with ⟨k, _, mp, ns, e⟩ | ⟨c, k | k, l, kc, o⟩
 ·exact wpAny_loadName_local kf k ns e h
 ·exact wpAny_loadName_cell kf k l o h
 ·unfold badN at hb
  exact wpAny_loadName_free kf k l o h (by simpa using (Bool.or_eq_false_iff.mp hb).2)
theorem NmAt.eval_ {pos : Pos} (n : NmAt s.heap g ev x v) (kf : ev.scope.kind = .function) (hb : badN x = false) (h : Q v s) : wpAny M A (eval (.Name x pos) ev) Q Ev s :=
 wpAny_Name (n.load kf hb h) (by unfold badN at hb; exact (Bool.or_eq_false_iff.mp hb).1)
theorem za2 {cx : Cx} {n : Nm} (e : nmOf cx x = some n) : badN x = false := zcv e
theorem zaF {pos : Pos} {cx : Cx} {env : Env} {outer : List Env} {L : Addr} {nd : Nat} {hd : Bool} (a : Act S cx A env ev outer L nd hd) (ok : StaOk S) (st : S.B.StaysIn s.heap) (n : nmOf cx x = some .g) (hv : S.mg x = some v) (h : Q v s) : wpAny M A (eval (.Name x pos) ev) Q Ev s := by
 refine Name_function_global a.kf (a.gn x n) (loadGlobal_global (a.gl ▸ zbd (fun o e => st _ _ e) ok.g) hv h) ?_
 have := za2 n
 unfold badN at this; exact (Bool.or_eq_false_iff.mp this).1
theorem zbq {pos : Pos} {cx : Cx} {env : Env} {outer : List Env} {L : Addr} {nd : Nat} {hd : Bool} (a : Act S cx A env ev outer L nd hd) (ok : StaOk S) (st : S.B.StaysIn s.heap) (n : nmOf cx x = some .g) (hg : S.mg x = none) (hv : S.mb x = some v) (h : Q v s) : wpAny M A (eval (.Name x pos) ev) Q Ev s := by
 refine Name_function_global a.kf (a.gn x n) (loadGlobal_builtin (a.gl ▸ zbd (fun o e => st _ _ e) ok.g) hg (a.bl ▸ zbd (fun o e => st _ _ e) ok.b) hv h) ?_
 have := za2 n
 unfold badN at this; exact (Bool.or_eq_false_iff.mp this).1
end
section
variable {S : Sta} {G : zab} {nd : Nat} {hd : Bool} {cx : Cx}
theorem zcG {c : Const} {k : Nat} {pos : Pos} {x : X} (hc : zfZ c = some x) : SndX S G nd hd cx (.Constant c k pos) x := by
 intro A env ev outer L Y m mc σ g s K E a I rd h
 rw [eval_Constant]
 cases c <;> cases hc <;> replace h := zfV h
 ·exact wpAny_pure (.here h ⟨I, .refl _ _ _⟩ (.pd .none) (.refl _))
 ·exact wpAny_pure (.here h ⟨I, .refl _ _ _⟩ (.pd (.bool _)) (.refl _))
 ·exact fun _ _ _ => Ok.here (S := S) (X := No) h ⟨I, .refl _ _ _⟩ (.pd (.int _ _)) ⟨rfl, rfl, rfl⟩
 ·exact fun _ _ _ => Ok.here (S := S) (X := No) h ⟨I, .refl _ _ _⟩ (.pd (.str _ _)) ⟨rfl, rfl, rfl⟩
theorem PV.base {fr : List Env} {g : Gh} {σ : Hp} {h : Heap} (I : Inv S fr g σ h) {v : Value} {d : PyData} (p : PV S.w.params S.B (fun _ => .fz) v d) : PV S.w.params h g.κ v d := p.mono fun a o _ e => ⟨I.bfz a o e, I.stays a o e⟩
theorem zej {m : Fm} {i : Nat} {x : V} (h : locV m i = some x) : m[i]? = some (some (.v x)) := zhA h fun l a b => zj1 b ▸ a
theorem zag {α : Type} {o : Option α} {k : α -> Prop} (h : need o k) : ∃ a, o = some a /\ k a := by
 cases o with
 | none => exact h.elim
 | some a => exact ⟨a, rfl, h⟩
theorem zdy (ok : StaOk2 S) {fn : Names} {cs : Option Names} {y : Str} {pos : Pos} {lam : Bool} {x : X} (hc : zhy (S.at fn cs lam) y = some x) : SndX S G nd hd (S.at fn cs lam) (.Name y pos) x := by
 intro A env ev outer L Y m mc σ g s K E a I rd h
 unfold zhy at hc
 split at hc
 ·rename_i i hn
  cases hc
  replace h := zjE h
  obtain ⟨u, hl, h⟩ := zag h
  obtain ⟨v, n, r⟩ := rd.v y i hn _ (zej hl)
  cases r with
  | v r => exact n.eval_ a.kf (za2 hn) (Ok.here (K := K) h ⟨I, .refl _ _ _⟩ r (.refl _))
 ·rename_i i hn
  cases hc
  replace h := zjD h
  obtain ⟨u, hl, h⟩ := zag h
  obtain ⟨v, n, r⟩ := rd.w y i hn _ (zej hl)
  cases r with
  | v r => exact n.eval_ a.kf (za2 hn) (Ok.here (K := K) h ⟨I, .refl _ _ _⟩ r (.refl _))
 ·rename_i hn
  obtain ⟨i, hi, rfl⟩ := Option.map_eq_some_iff.mp hc
  obtain ⟨v, hv, p⟩ := ok.cons y i hi
  replace h := zjF h
  exact zaF a ok.toStaOk I.stays hn hv (Ok.here (K := K) h ⟨I, .refl _ _ _⟩ (.pd (PV.base I p)) (.refl _))
 ·cases hc
end
noncomputable def Is (S : Sta) (fr : List Env) (g : Gh) (σ : Hp) (s : Shared) (d : V) : Value -> Shared -> Prop := Ok S fr No (RV S) g s (fun v σ' => v = d /\ σ' = σ)
structure Room (A : Around) : Prop where
 guards : A.guards = some []
 units : A.units + 200 < cLine
 depth : A.depth + 10 < recursionLimit
theorem Act.room {S : Sta} {cx : Cx} {A : Around} {env ev : Env} {outer : List Env} {L : Addr} {nd : Nat} {hd : Bool} (a : Act S cx A env ev outer L nd hd) : Room A :=
 ⟨a.guards, Nat.lt_of_le_of_lt (Nat.add_le_add (Nat.le_add_right _ _) (by decide)) a.units, Nat.lt_of_le_of_lt (Nat.add_le_add_right (Nat.le_add_right _ _) 10) a.depth⟩
structure OpsOk (S : Sta) : Prop where
 bin : ∀ {A fr g σ s a b x y d o bo Ev}, Room A -> Inv S fr g σ s.heap -> VR S s.heap g a x -> VR S s.heap g b y -> opOf bo = some o -> evOp o x y σ = some d -> wpAny S.M A (binaryOp bo a b) (Is S fr g σ s (.pd d)) Ev s
 cmp : ∀ {A fr g σ s a b x y d co Ev}, Room A -> Inv S fr g σ s.heap -> VR S s.heap g a x -> VR S s.heap g b y -> evOp (ziv co) x y σ = some d -> wpAny S.M A (compareOp co a b) (Is S fr g σ s (.pd d)) Ev s
section
variable {S : Sta} {fr : List Env} {A : Around} {g : Gh} {σ : Hp} {s : Shared} {K : KV} {Ev : Value -> Shared -> Prop} {t : Sem Value} {d : V}
theorem Is.ok {a : Value} {s1 : Shared} (k : K d σ) (x : Is S fr g σ s d a s1) : Ok S fr No (RV S) g s K a s1 := x.mono fun v σ' q => by rw [q.1, q.2]; exact k
theorem zaZ {v : V} {k : Bool -> Prop} (h : truth v k) : ∃ b, v = .pd (.bool b) /\ k b := zal h fun b e q => ⟨b, zl1 e, q⟩
theorem zcA {h : Heap} {v : Value} {b : Bool} (r : VR S h g v (.pd (.bool b))) : v = .bool b := by
 cases r with
 | pd r => cases r; rfl
theorem zbD {h : Heap} {v : Value} {i : Int} (r : VR S h g v (.pd (.int i))) : ∃ t, v = .int i t := by
 cases r with
 | pd r => cases r; exact ⟨_, rfl⟩
theorem zfq {h : Heap} {v : Value} {x : Str} (r : VR S h g v (.pd (.str x))) : ∃ t, v = .str x t := by
 cases r with
 | pd r => cases r; exact ⟨_, rfl⟩
theorem zbN {h : Heap} {v : Value} {d : PyData} (r : VR S h g v (.pd d)) : PV S.w.params h g.κ v d := by
 cases r with
 | pd r => exact r
theorem zdJ {o : Option PyData} {K : KV} {σ : Hp} (h : kd o K σ) : ∃ d, o = some d /\ K (.pd d) σ := zag h
end
section
variable {S : Sta} {G : zab} {nd : Nat} {hd : Bool} {cx : Cx}
theorem zb2 : zb0 S G nd hd cx [] [] := by
 intro A env ev outer L Y m mc σ g s K E pos a I rd h
 exact spliced_none (.here (K := K) h ⟨I, .refl _ _ _⟩ .nil (.refl _))
theorem za4 {e : PySem.Expr} {es : List PySem.Expr} {x : X} {xs : List X} (hx : SndX S G nd hd cx e x) (hr : zb0 S G nd hd cx es xs) (hs : zak e = false) : zb0 S G nd hd cx (e :: es) (x :: xs) := by
 intro A env ev outer L Y m mc σ g s K E pos a I rd h
 refine spliced_more (step (hx A env ev outer L Y m mc σ g s _ E a I rd h) fun v d σ1 g1 s1 h1 e1 i1 r1 z1 => ?_) (by cases e <;> first | rfl | cases hs)
 refine zbp e1 z1 (step (hr A env ev outer L Y m mc σ1 g1 s1 _ E pos a i1 (rd.mono e1) h1) fun vs ds σ2 g2 s2 h2 e2 i2 r2 z2 => ?_)
 exact ⟨d :: ds, σ2, g2, h2, e1.trans e2, i2, .cons (r1.mono e2.up) r2, z1.trans z2⟩
theorem zdx {es : List PySem.Expr} {xs : List X} {c : Nat} {pos : Pos} (hx : zb0 S G nd hd cx es xs) : SndX S G nd hd cx (.Tuple es c pos) (.tup xs) := by
 intro A env ev outer L Y m mc σ g s K E a I rd h
 replace h := zjB h
 rw [arm_eval_Tuple]
 refine wpAny_bind (wpAny_standAt (wpAny_bind (step (hx A env ev outer L Y m mc σ g s _ E pos a I rd h) fun vs ds σ1 g1 s1 h1 e1 i1 r1 z1 => ?_)))
 obtain ⟨pd, hp, h1⟩ := zag h1
 obtain ⟨hl, h1⟩ := zar h1
 have ps := r1.pds hp
 have hn : s1.heap.get? s1.heap.objs.size = none := Heap.get?_none_of_le (Nat.le_refl _)
 refine wpAny_newTuple ?_ (by rw [ps.length]; exact hl)
 obtain ⟨I2, E2⟩ := i1.new (k := .fz) (fun b o q => Heap.get?_push_of_some _ q) hn (Heap.get?_push_size s1.heap (o := { cls := .type "tuple", data := .seq vs.toArray }) rfl)
 exact ⟨_, σ1, _, h1, e1.trans E2, I2, .pd (.tuple (if_pos rfl) (Heap.get?_push_size _ rfl) rfl rfl (by simpa using ps.mono E2.up.fz)), z1⟩
theorem zlq {fr : List Env} {g : Gh} {σ : Hp} {h : Heap} {m : Bool} {ds : List PyData} {K : KV} {vs : List Value} {P : V -> Hp -> Gh -> Prop} (sm : ∃ o, S.B.get? sysModules = some o) (I : Inv S fr g σ h) (ps : PVs S.w.params h g.κ vs ds) (hm : made m ds σ K) :
  ∃ d σ' g', K d σ' /\ Ext No g g' h (h.push { cls := .type "list", data := .seq vs.toArray }) /\ Inv S fr g' σ' (h.push { cls := .type "list", data := .seq vs.toArray }) /\ VR S (h.push { cls := .type "list", data := .seq vs.toArray }) g' (.ref h.objs.size) d := by
 have hn : h.get? h.objs.size = none := Heap.get?_none_of_le (Nat.le_refl _)
 have kp : ∀ b o, h.get? b = some o -> (h.push { cls := .type "list", data := .seq vs.toArray }).get? b = some o := fun b o q => Heap.get?_push_of_some _ q
 have hat : (h.push { cls := .type "list", data := .seq vs.toArray }).get? h.objs.size = some { cls := .type "list", data := .seq vs.toArray } := Heap.get?_push_size _ rfl
 have ns : h.objs.size ≠ sysModules := fun q => by
  obtain ⟨o, e⟩ := sm
  rw [← q] at e; rw [I.stays _ _ e] at hn; cases hn
 replace hm := zar hm
 cases m with
 | true =>
  obtain ⟨I2, E2⟩ := I.newMu (o := .list ds) kp hn (fun u => .list hat (ps.mono u.fz))
  refine ⟨_, _, _, hm.2, E2, I2, ?_⟩
  have : (g.mu h.objs.size).μ σ.length = h.objs.size := by rw [I.num]; exact if_pos rfl
  conv => lhs; rw [← this]
  exact .ref (by show σ.length < g.n + 1; rw [I.num]; exact Nat.lt_succ_self _)
 | false =>
  obtain ⟨I2, E2⟩ := I.new (k := .fz) kp hn hat
  exact ⟨_, _, _, hm.2, E2, I2, .pd (.list (if_pos rfl) hat rfl rfl ns (by simpa using ps.mono E2.up.fz))⟩
theorem zkM (sm : ∃ o, S.B.get? sysModules = some o) {es : List PySem.Expr} {xs : List X} {b : Bool} {pos : Pos} (hx : zb0 S G nd hd cx es xs) : SndX S G nd hd cx (.List es pos) (.lst b xs) := by
 intro A env ev outer L Y m mc σ g s K E a I rd h
 replace h := zjA h
 rw [arm_eval_List]
 refine wpAny_bind (wpAny_standAt (wpAny_bind (step (hx A env ev outer L Y m mc σ g s _ E pos a I rd h) fun vs ds σ1 g1 s1 h1 e1 i1 r1 z1 => ?_)))
 obtain ⟨pd, hp, h1⟩ := zag h1
 have ps := r1.pds hp
 refine wpAny_newList ?_ (by rw [ps.length]; exact (zar h1).1)
 obtain ⟨d, σ', g', k, E2, I2, r⟩ := zlq (P := fun _ _ _ => True) sm i1 ps h1
 exact ⟨d, σ', g', k, e1.trans E2, I2, r, z1⟩
theorem zkR (ops : OpsOk S) {l r : PySem.Expr} {bo : Operator} {o : Op} {pos : Pos} {a b : X} (ho : opOf bo = some o) (ha : SndX S G nd hd cx l a) (hb : SndX S G nd hd cx r b) : SndX S G nd hd cx (.BinOp l bo r pos) (.op o a b) := by
 intro A env ev outer L Y m mc σ g s K E ac I rd h
 replace h := zdS h
 refine wpAny_BinOp (step (ha A env ev outer L Y m mc σ g s _ E ac I rd h) fun v d σ1 g1 s1 h1 e1 i1 r1 z1 => ?_)
 refine zbp e1 z1 (step (hb A env ev outer L Y m mc σ1 g1 s1 _ E ac i1 (rd.mono e1) h1) fun w f σ2 g2 s2 h2 e2 i2 r2 z2 => ?_)
 obtain ⟨x, hx, h2⟩ := zdJ h2
 exact wpAny_mono (ops.bin ac.room i2 (r1.mono e2.up) r2 ho hx) (fun _ _ q => (q.ok h2).trans (e1.trans e2) (z1.trans z2)) fun _ _ q => q
theorem zeF {e : PySem.Expr} (h : zaX e ≠ 3) (co : CmpOp) : behindInMarks co e = false := by
 cases e <;> first | rfl | exact absurd rfl h
theorem zkQ (ops : OpsOk S) {l r : PySem.Expr} {co : CmpOp} {pos : Pos} {a b : X} (hm : behindInMarks co r = false) (ha : SndX S G nd hd cx l a) (hb : SndX S G nd hd cx r b) : SndX S G nd hd cx (.Compare l [co] [r] pos) (.op (ziv co) a b) := by
 intro A env ev outer L Y m mc σ g s K E ac I rd h
 replace h := zdS h
 refine wpAny_Compare1 (step (ha A env ev outer L Y m mc σ g s _ E ac I rd h) fun v d σ1 g1 s1 h1 e1 i1 r1 z1 => ?_) hm
 refine zbp e1 z1 (step (hb A env ev outer L Y m mc σ1 g1 s1 _ E ac i1 (rd.mono e1) h1) fun w f σ2 g2 s2 h2 e2 i2 r2 z2 => ?_)
 obtain ⟨x, hx, h2⟩ := zdJ h2
 exact wpAny_mono (ops.cmp ac.room i2 (r1.mono e2.up) r2 hx) (fun _ _ q => (q.ok h2).trans (e1.trans e2) (z1.trans z2)) fun _ _ q => q
theorem ziM (ops : OpsOk S) {l r : PySem.Expr} {co : CmpOp} {pos : Pos} {a b : X} (hm : behindInMarks co r = false) (ha : SndX S G nd hd cx l a) (hb : SndX S G nd hd cx r b) : SndT S G nd hd cx (.Compare l [co] [r] pos) (.op (ziv co) a b) := by
 intro A env ev outer L Y m mc σ g s K E ac I rd h
 replace h := zdS h
 refine wpAny_isTrue_Compare1 (step (ha A env ev outer L Y m mc σ g s _ E ac I rd h) fun v d σ1 g1 s1 h1 e1 i1 r1 z1 => ?_) hm
 refine zbp e1 z1 (step (hb A env ev outer L Y m mc σ1 g1 s1 _ E ac i1 (rd.mono e1) h1) fun w f σ2 g2 s2 h2 e2 i2 r2 z2 => ?_)
 obtain ⟨x, hx, h2⟩ := zdJ h2
 obtain ⟨bb, q, h2⟩ := zaZ h2
 cases q
 refine step (ops.cmp ac.room i2 (r1.mono e2.up) r2 hx) fun u f' σ3 g3 s3 h3 e3 i3 r3 z3 => ?_
 obtain ⟨rfl, rfl⟩ := h3
 obtain rfl := zcA r3
 exact wpAny_truthy_bool ⟨bb, σ3, g3, h2, (e1.trans e2).trans e3, i3, rfl, (z1.trans z2).trans z3⟩
theorem zkL {e : PySem.Expr} {pos : Pos} {a : X} (ha : SndX S G nd hd cx e a) : SndX S G nd hd cx (.UnaryOp .USub e pos) (.neg a) := by
 intro A env ev outer L Y m mc σ g s K E ac I rd h
 replace h := zjy h
 rw [arm_eval_UnaryOp]
 refine wpAny_bind (step (ha A env ev outer L Y m mc σ g s _ E ac I rd h) fun v d σ1 g1 s1 h1 e1 i1 r1 z1 => ?_)
 obtain ⟨i, hi, h1⟩ := zag h1
 obtain ⟨t, rfl⟩ := zbD (zbF hi ▸ r1)
 exact wpAny_bind (wpAny_standAt (wpAny_holding (P.neg_int ⟨_, σ1, g1, h1, e1, i1, .pd (.int _ _), z1⟩)))
theorem zkK {e : PySem.Expr} {pos : Pos} {a : X} (ha : SndX S G nd hd cx e a) : SndX S G nd hd cx (.UnaryOp .Not e pos) (.not a) := by
 intro A env ev outer L Y m mc σ g s K E ac I rd h
 replace h := zey h
 rw [arm_eval_UnaryOp]
 refine wpAny_bind (step (ha A env ev outer L Y m mc σ g s _ E ac I rd h) fun v d σ1 g1 s1 h1 e1 i1 r1 z1 => ?_)
 obtain ⟨b, rfl, h1⟩ := zaZ h1
 obtain rfl := zcA r1
 refine wpAny_bind (wpAny_standAt (wpAny_holding ?_))
 unfold unaryOp
 refine wpAny_holding ?_
 show wpAny S.M A (truthy (.bool b) >>= fun c => pure (Value.bool (!c))) _ _ _
 exact wpAny_bind (wpAny_truthy_bool (wpAny_pure ⟨_, σ1, g1, h1, e1, i1, .pd (.bool _), z1⟩))
theorem ziL {e : PySem.Expr} {pos : Pos} {a : X} (ha : SndT S G nd hd cx e a) : SndT S G nd hd cx (.UnaryOp .Not e pos) (.not a) := by
 intro A env ev outer L Y m mc σ g s K E ac I rd h
 replace h := zey h
 rw [arm_isTrue_UnaryOp]
 refine wpAny_bind (step (ha A env ev outer L Y m mc σ g s (fun b σ' => K (!b) σ') E ac I rd h) fun v d σ1 g1 s1 h1 e1 i1 r1 z1 => ?_)
 subst r1
 exact wpAny_pure ⟨_, σ1, g1, h1, e1, i1, rfl, z1⟩
end
inductive HasSub (σ : Hp) (x : V) : Prop
 | l (l : List PyData) (e : rd σ x = some (.list l))
 | t (l : List PyData) (e : rd σ x = some (.tuple l))
 | r (i : Nat) (l : List (Str × V)) (e : x = .ref i) (q : σ[i]? = some (.dict l))
 | d (l : List (PyData × PyData)) (e : x = .pd (.dict l))
theorem zh0 {σ : Hp} {x y z : V} (h : zai σ x y = some z) : HasSub σ x :=
 zaG h (fun h => bd_e h fun k _ h => zaG h (fun h => bd_e h fun p h1 _ => .r _ _ (zdo h1).1 (zdo h1).2) fun h => bd_e h fun l h1 _ => bd_e h1 fun d h2 h3 => .d l (by rw [zbm h2, zc0 h3]))
  fun h => bd_e h fun i _ h => bd_e h fun d h1 h => zaG h (fun h => bd_e h fun l h2 _ => .l l (by rw [h1, zbI h2])) fun h => bd_e h fun l h2 _ => .t l (by rw [h1, zdd h2])
theorem zh2 {σ : Hp} {x : V} {lo hi : Option Int} {d : PyData} (h : zff σ x lo hi = some d) : HasSub σ x :=
 bd_e h fun d h1 h => zaG h (fun h => bd_e h fun l h2 _ => .l l (by rw [h1, zbI h2])) fun h => bd_e h fun l h2 _ => .t l (by rw [h1, zdd h2])
structure SubOk (S : Sta) : Prop where
 gip : ∀ {A fr g σ s a x Ev}, Room A -> Inv S fr g σ s.heap -> VR S s.heap g a x -> HasSub σ x -> wpAny S.M A (getitemInPython a) (fun b s' => b = false /\ s' = s) Ev s
 get : ∀ {A fr g σ s a b x y z Ev}, Room A -> Inv S fr g σ s.heap -> VR S s.heap g a x -> VR S s.heap g b y -> zai σ x y = some z -> wpAny S.M A (getItem a b) (Is S fr g σ s z) Ev s
 cut : ∀ {A fr g σ s a x d lo hi sl vl vu Ev}, Room A -> Inv S fr g σ s.heap -> VR S s.heap g a x -> s.heap.IsSliceOf sl vl vu .none -> IsPart vl lo -> IsPart vu hi -> zff σ x lo hi = some d -> wpAny S.M A (getItem a (.ref sl)) (Is S fr g σ s (.pd d)) Ev s
 scope : ∀ {A fr g σ s a sc Ev}, Room A -> Inv S fr g σ s.heap -> VR S s.heap g a (.evr sc) -> wpAny S.M A (getAttr a (Str.ofString "scope") true) (Is S fr g σ s sc) Ev s
 fault : ∀ {A fr g σ s ea e b y Y Ev}, Room A -> Inv S fr g σ s.heap -> FaultAt S Y s.heap g ea e -> zcW y = some b -> (b = true -> e.lim = false) -> wpAny S.M A (getAttr (.ref ea) y true) (Is S fr g σ s (.pd (if b then e.spot else .str e.what))) Ev s
section
variable {M : Model} {A : Around} {Ev : Value -> Shared -> Prop} {s : Shared}
theorem zbL {vs : List Value} {m : Sem Value} {Q : Value -> Shared -> Prop} (h : wpAny M A m Q Ev s) : wpAny M A (operate vs m) Q Ev s := fun Γ p hΓ => by rw [Sem.wp_operate]; exact h Γ p hΓ
theorem zgG {x : V} {P : Prop} {F : Bool -> Prop} : (truth x fun t => brn t P (truth x F)) = (truth x fun t => brn t P (F false)) := by
 unfold truth
 cases zjR x with
 | none => rfl
 | some b => cases b <;> rfl
theorem ziE {x : V} {P : Prop} {F : Bool -> Prop} : (truth x fun t => brn t (truth x F) P) = (truth x fun t => brn t (F true) P) := by
 unfold truth
 cases zjR x with
 | none => rfl
 | some b => cases b <;> rfl
end
section
variable {S : Sta} {G : zab} {nd : Nat} {hd : Bool} {cx : Cx}
inductive Sn2 (S : Sta) (G : zab) (nd : Nat) (hd : Bool) (cx : Cx) : List PySem.Expr -> List X -> Prop
 | nil : Sn2 S G nd hd cx [] []
 | cons {e : PySem.Expr} {x : X} {es : List PySem.Expr} {xs : List X} : SndX S G nd hd cx e x -> SndT S G nd hd cx e x -> zak e = false -> Sn2 S G nd hd cx es xs -> Sn2 S G nd hd cx (e :: es) (x :: xs)
theorem Sn2.xs {es : List PySem.Expr} {xs : List X} (h : Sn2 S G nd hd cx es xs) : zb0 S G nd hd cx es xs := by
 induction h with
 | nil => exact zb2
 | cons hx _ hs _ ih => exact za4 hx ih hs
theorem zgg {o : PySem.BoolOp} {pos : Pos} {es : List PySem.Expr} {xs : List X} {x : X} (h2 : Sn2 S G nd hd cx es xs) (hj : zgs o xs = some x) : SndX S G nd hd cx (.BoolOp o es pos) x := by
 suffices ∀ A env ev outer L Y m mc σ g s K E, Act S cx A env ev outer L nd hd -> Inv S (env :: outer) g σ s.heap -> Rd S cx ev Y s.heap g m mc -> evX G S.gc m mc x σ K E ->
   wpAny S.M A (boolOp pos o (evalEach es ev)) (Ok S (env :: outer) No (RV S) g s K) (Er S (env :: outer) No false g s E) s by
  intro A env ev outer L Y m mc σ g s K E a I rd h
  rw [arm_eval_BoolOp]
  exact this A env ev outer L Y m mc σ g s K E a I rd h
 induction h2 generalizing x with
 | nil => cases hj
 | @cons e y es ys hx ht hs hr ih =>
  intro A env ev outer L Y m mc σ g s K E a I rd h
  cases hr with
  | nil =>
   cases hj
   exact hx A env ev outer L Y m mc σ g s K E a I rd h
  | @cons e' y' es' ys' hx' ht' hs' hr' =>
   have hj : Option.map _ (zgs o (y' :: ys')) = some _ := hj
   obtain ⟨q, hq, rfl⟩ := Option.map_eq_some_iff.mp hj
   have ih := ih hq
   rw [arm_evalEach_cons, arm_evalEach_cons]
   unfold boolOp
   cases o with
   | And =>
    simp only at h
    replace h := zex h
    refine wpAny_bind (step (hx A env ev outer L Y m mc σ g s _ E a I rd h) fun v d σ1 g1 s1 h1 e1 i1 r1 z1 => ?_)
    obtain ⟨b, rfl, h1⟩ := zaZ h1
    obtain rfl := zcA r1
    refine wpAny_bind (wpAny_standAt (wpAny_bind (wpAny_holding (wpAny_truthy_bool ?_))))
    cases b with
    | false => exact wpAny_pure ⟨_, σ1, g1, h1, e1, i1, r1, z1⟩
    | true => exact zdO e1 z1 (ih A env ev outer L Y m mc σ1 g1 s1 K E a i1 (rd.mono e1) h1)
   | Or =>
    simp only at h
    replace h := zew h
    refine wpAny_bind (step (hx A env ev outer L Y m mc σ g s _ E a I rd h) fun v d σ1 g1 s1 h1 e1 i1 r1 z1 => ?_)
    obtain ⟨b, rfl, h1⟩ := zaZ h1
    obtain rfl := zcA r1
    refine wpAny_bind (wpAny_standAt (wpAny_bind (wpAny_holding (wpAny_truthy_bool ?_))))
    cases b with
    | true => exact wpAny_pure ⟨_, σ1, g1, h1, e1, i1, r1, z1⟩
    | false => exact zdO e1 z1 (ih A env ev outer L Y m mc σ1 g1 s1 K E a i1 (rd.mono e1) h1)
theorem zeX {o : PySem.BoolOp} {pos : Pos} {es : List PySem.Expr} {xs : List X} {x : X} (h2 : Sn2 S G nd hd cx es xs) (hj : zgs o xs = some x) : SndT S G nd hd cx (.BoolOp o es pos) x := by
 suffices ∀ A env ev outer L Y m mc σ g s K E, Act S cx A env ev outer L nd hd -> Inv S (env :: outer) g σ s.heap -> Rd S cx ev Y s.heap g m mc -> evX G S.gc m mc x σ (fun v σ' => truth v fun b => K b σ') E ->
   wpAny S.M A (allTrue o es ev) (Ok S (env :: outer) No RB g s K) (Er S (env :: outer) No false g s E) s by
  intro A env ev outer L Y m mc σ g s K E a I rd h
  rw [arm_isTrue_BoolOp]
  exact this A env ev outer L Y m mc σ g s K E a I rd h
 induction h2 generalizing x with
 | nil => cases hj
 | @cons e y es ys hx ht hs hr ih =>
  intro A env ev outer L Y m mc σ g s K E a I rd h
  cases hr with
  | nil =>
   cases hj
   rw [arm_allTrue_cons]
   refine wpAny_bind (step (ht A env ev outer L Y m mc σ g s K E a I rd h) fun b b' σ1 g1 s1 h1 e1 i1 r1 z1 => ?_)
   subst r1
   cases o <;> cases b <;> first | exact wpAny_pure ⟨_, σ1, g1, h1, e1, i1, rfl, z1⟩ | (show wpAny _ _ (allTrue _ [] _) _ _ _; rw [arm_allTrue_nil]; exact wpAny_pure ⟨_, σ1, g1, h1, e1, i1, rfl, z1⟩)
  | @cons e' y' es' ys' hx' ht' hs' hr' =>
   have hj : Option.map _ (zgs o (y' :: ys')) = some _ := hj
   obtain ⟨q, hq, rfl⟩ := Option.map_eq_some_iff.mp hj
   have ih := ih hq
   rw [arm_allTrue_cons]
   cases o with
   | And =>
    simp only at h
    replace h := zex h
    refine wpAny_bind (step (ht A env ev outer L Y m mc σ g s (fun b σ' => brn b (evX G S.gc m mc q σ' (fun v σ' => truth v fun b => K b σ') E) (K false σ')) E a I rd ?_) fun b b' σ1 g1 s1 h1 e1 i1 r1 z1 => ?_)
    ·exact (funext fun x => funext fun σ1 => zgG : (fun x σ1 => truth x fun t => brn t (evX G S.gc m mc q σ1 (fun v σ' => truth v fun b => K b σ') E) (truth x fun b => K b σ1)) = _) ▸ h
    ·subst r1
     cases b with
     | false => exact wpAny_pure ⟨_, σ1, g1, h1, e1, i1, rfl, z1⟩
     | true => exact zdO e1 z1 (ih A env ev outer L Y m mc σ1 g1 s1 K E a i1 (rd.mono e1) h1)
   | Or =>
    simp only at h
    replace h := zew h
    refine wpAny_bind (step (ht A env ev outer L Y m mc σ g s (fun b σ' => brn b (K true σ') (evX G S.gc m mc q σ' (fun v σ' => truth v fun b => K b σ') E)) E a I rd ?_) fun b b' σ1 g1 s1 h1 e1 i1 r1 z1 => ?_)
    ·exact (funext fun x => funext fun σ1 => ziE : (fun x σ1 => truth x fun t => brn t (truth x fun b => K b σ1) (evX G S.gc m mc q σ1 (fun v σ' => truth v fun b => K b σ') E)) = _) ▸ h
    ·subst r1
     cases b with
     | true => exact wpAny_pure ⟨_, σ1, g1, h1, e1, i1, rfl, z1⟩
     | false => exact zdO e1 z1 (ih A env ev outer L Y m mc σ1 g1 s1 K E a i1 (rd.mono e1) h1)
theorem zgY {t a b : PySem.Expr} {pos : Pos} {xt xa xb : X} (ht : SndT S G nd hd cx t xt) (ha : SndX S G nd hd cx a xa) (hb : SndX S G nd hd cx b xb) : SndX S G nd hd cx (.IfExp t a b pos) (.ite xt xa xb) := by
 intro A env ev outer L Y m mc σ g s K E ac I rd h
 replace h := zev h
 rw [arm_eval_IfExp]
 refine wpAny_bind (step (ht A env ev outer L Y m mc σ g s (fun r σ1 => brn r (evX G S.gc m mc xa σ1 K E) (evX G S.gc m mc xb σ1 K E)) E ac I rd h) fun b b' σ1 g1 s1 h1 e1 i1 r1 z1 => ?_)
 subst r1
 cases b with
 | true => exact zdO e1 z1 (ha A env ev outer L Y m mc σ1 g1 s1 K E ac i1 (rd.mono e1) h1)
 | false => exact zdO e1 z1 (hb A env ev outer L Y m mc σ1 g1 s1 K E ac i1 (rd.mono e1) h1)
theorem zgf {t a b : PySem.Expr} {pos : Pos} {xt xa xb : X} (ht : SndT S G nd hd cx t xt) (ha : SndT S G nd hd cx a xa) (hb : SndT S G nd hd cx b xb) : SndT S G nd hd cx (.IfExp t a b pos) (.ite xt xa xb) := by
 intro A env ev outer L Y m mc σ g s K E ac I rd h
 replace h := zev h
 rw [arm_isTrue_IfExp]
 refine wpAny_bind (step (ht A env ev outer L Y m mc σ g s (fun r σ1 => brn r (evX G S.gc m mc xa σ1 _ E) (evX G S.gc m mc xb σ1 _ E)) E ac I rd h) fun b b' σ1 g1 s1 h1 e1 i1 r1 z1 => ?_)
 subst r1
 cases b with
 | true => exact zdO e1 z1 (ha A env ev outer L Y m mc σ1 g1 s1 K E ac i1 (rd.mono e1) h1)
 | false => exact zdO e1 z1 (hb A env ev outer L Y m mc σ1 g1 s1 K E ac i1 (rd.mono e1) h1)
theorem zkI (hx : SndX S G nd hd cx e x) (he : ∀ ev whole, isTrue e ev whole = (do let v ← whole; standAt e.pos; holding [v] (truthy v))) : SndT S G nd hd cx e x := by
 intro A env ev outer L Y m mc σ g s K E ac I rd h
 rw [he]
 refine wpAny_bind (step (hx A env ev outer L Y m mc σ g s _ E ac I rd h) fun v d σ1 g1 s1 h1 e1 i1 r1 z1 => ?_)
 obtain ⟨b, rfl, h1⟩ := zaZ h1
 obtain rfl := zcA r1
 exact wpAny_bind (wpAny_standAt (wpAny_holding (wpAny_truthy_bool ⟨_, σ1, g1, h1, e1, i1, rfl, z1⟩)))
theorem zkJ (so : SubOk S) {v i : PySem.Expr} {pos : Pos} {a b : X} (hi : ∀ o j, subscripted i false o j = operate [o, j] (getItem o j)) (ha : SndX S G nd hd cx v a) (hb : SndX S G nd hd cx i b) : SndX S G nd hd cx (.Subscript v i pos) (.sub a b) := by
 intro A env ev outer L Y m mc σ g s K E ac I rd h
 replace h := zie h
 rw [arm_eval_Subscript]
 refine wpAny_bind (step (ha A env ev outer L Y m mc σ g s _ E ac I rd h) fun o dv σ1 g1 s1 h1 e1 i1 r1 z1 => ?_)
 refine zbp e1 z1 (wpAny_bind (wpAny_holding (step (hb A env ev outer L Y m mc σ1 g1 s1 _ E ac i1 (rd.mono e1) h1) fun w f σ2 g2 s2 h2 e2 i2 r2 z2 => ?_)))
 obtain ⟨z, hz, h2⟩ := zag h2
 refine wpAny_bind (wpAny_standAt (wpAny_bind (wpAny_mono (so.gip ac.room i2 (r1.mono e2.up) (zh0 hz)) (fun p s' hp => ?_) fun _ _ q => q)))
 obtain ⟨rfl, rfl⟩ := hp
 rw [hi]
 refine wpAny_bind (zbL (step (so.get ac.room i2 (r1.mono e2.up) r2 hz) fun c f' σ3 g3 s3 h3 e3 i3 r3 z3 => ?_))
 obtain ⟨rfl, rfl⟩ := h3
 exact wpAny_bind (wpAny_letTemporaryGo (wpAny_pure ⟨_, _, g3, h2, (e1.trans e2).trans e3, i3, r3, (z1.trans z2).trans z3⟩))
theorem zeo {S : Sta} {A : Around} {ev : Env} {e : Option PySem.Expr} {i : Option Int} {s : Shared} {Ev : Value -> Shared -> Prop} {Q : Value -> Shared -> Prop} (h : intC e = some i) (hQ : ∀ v tk, IsPart v i -> Q v { s with toks := tk }) : wpAny S.M A (valueOrNone (evalOpt e ev)) Q Ev s := by
 cases e with
 | none => cases h; exact wpAny_pure (hQ _ _ .none)
 | some e =>
  obtain ⟨j, h2, rfl⟩ := Option.map_eq_some_iff.mp h
  obtain ⟨c, h1, h⟩ := Option.bind_eq_some_iff.mp h2
  obtain ⟨_, _, rfl⟩ := zkt h1
  cases c <;> first | (cases h; done) | (cases h; exact fun Γ p hΓ => hQ _ _ (.int _ _))
theorem zgU (so : SubOk S) {v : PySem.Expr} {lo hi : Option PySem.Expr} {xlo xhi : Option Int} {p pos : Pos} {a : X} (hlo : intC lo = some xlo) (hhi : intC hi = some xhi) (ha : SndX S G nd hd cx v a) : SndX S G nd hd cx (.Subscript v (.Slice lo hi none p) pos) (.slice a xlo xhi) := by
 intro A env ev outer L Y m mc σ g s K E ac I rd h
 replace h := zid h
 rw [arm_eval_Subscript]
 refine wpAny_bind (step (ha A env ev outer L Y m mc σ g s _ E ac I rd h) fun o dv σ1 g1 s1 h1 e1 i1 r1 z1 => ?_)
 obtain ⟨d, hd, h1⟩ := zdJ h1
 rw [arm_eval_Slice]
 refine wpAny_bind (wpAny_holding (wpAny_bind (zeo hlo fun vl tk pl => wpAny_bind (wpAny_holding (zeo hhi fun vu tk' pu => wpAny_bind (wpAny_holding (wpAny_pure ?_)))))))
 unfold newFields
 refine wpAny_newObj_type ?_ (by show 3 <= _; rw [sizeLine_eq]; omega)
 obtain ⟨I2, E2⟩ := i1.keeps (h' := s1.heap.push { cls := .type "slice", dict := none, data := .fields [vl, vu, Value.none].toArray }) (fun b o q => Heap.get?_push_of_some _ q)
 refine wpAny_bind (wpAny_standAt (wpAny_bind (wpAny_mono (so.gip (σ := σ1) (g := g1) ac.room I2 (r1.mono E2.up) (zh2 hd)) (fun p s' hp => ?_) fun _ _ q => q)))
 ·obtain ⟨rfl, rfl⟩ := hp
  show wpAny _ _ (operate _ (getItem _ _) >>= _) _ _ _
  refine wpAny_bind (zbL (step (so.cut ac.room I2 (r1.mono E2.up) (Heap.IsSliceOf.new _ _ _ _) pl pu hd) fun c f' σ3 g3 s3 h3 e3 i3 r3 z3 => ?_))
  obtain ⟨rfl, rfl⟩ := h3
  exact wpAny_bind (wpAny_letTemporaryGo (wpAny_pure ⟨_, _, g3, h1, (e1.trans E2).trans e3, i3, r3, z1.trans z3⟩))
theorem zgV (so : SubOk S) {x : Str} {q pos : Pos} {a : X} (ha : SndX S G nd hd cx (.Name x q) a) : SndX S G nd hd cx (.Attribute (.Name x q) (Str.ofString "scope") pos) (.scope a) := by
 intro A env ev outer L Y m mc σ g s K E ac I rd h
 replace h := zic h
 rw [arm_eval_Attribute]
 refine wpAny_bind (m := eval (.Name x q) ev) (step (ha A env ev outer L Y m mc σ g s _ E ac I rd h) fun o dv σ1 g1 s1 h1 e1 i1 r1 z1 => ?_)
 obtain ⟨sc, hsc, h1⟩ := zag h1
 obtain rfl := zkr hsc
 refine wpAny_bind (wpAny_standAt (wpAny_bind (wpAny_holding (step (so.scope ac.room i1 r1) fun c f' σ3 g3 s3 h3 e3 i3 r3 z3 => ?_))))
 obtain ⟨rfl, rfl⟩ := h3
 exact wpAny_bind (wpAny_letTemporaryGo (wpAny_pure ⟨_, _, g3, h1, e1.trans e3, i3, r3, z1.trans z3⟩))
end
theorem zbo : ∀ {names : Names} {x : Str} {k i : Nat} {kd : NameKind}, zah names x k = some (i, kd) -> k <= i /\ names[i - k]? = some (x, kd)
 | [], x, k, i, kd, h => by cases h
 | (a, c) :: r, x, k, i, kd, h => by
  unfold zah at h
  split at h
  ·rename_i e; cases h; subst e; exact ⟨Nat.le_refl _, by simp⟩
  ·obtain ⟨h1, h2⟩ := zbo h
   exact ⟨Nat.le_of_succ_le h1, by rw [← Nat.sub_add_cancel (Nat.sub_pos_of_lt h1)]; exact h2⟩
theorem zad : ∀ {names : Names} {x : Str} {k i : Nat} {kd : NameKind}, zah names x k = some (i, kd) -> names.lookup x = some kd
 | [], x, k, i, kd, h => by cases h
 | (a, c) :: r, x, k, i, kd, h => by
  unfold zah at h
  split at h
  ·rename_i e; cases h; subst e; simp [List.lookup]
  ·rename_i e
   have : (x == a) = false := by simp; exact fun q => e q.symm
   simp only [List.lookup, this]
   exact zad h
theorem zaJ {names : Names} {x y : Str} {i : Nat} {k l : NameKind} (h : zah names x 0 = some (i, k)) (q : zah names y 0 = some (i, l)) : x = y := by
 have a := (zbo h).2; have b := (zbo q).2
 rw [a] at b; cases b; rfl
theorem zaE {α : Type} : ∀ {l : List α} {i : Nat} {x : α}, i < l.length -> (zaw l i x)[i]? = some x
 | [], i, x, h => by cases h
 | _ :: r, 0, x, _ => rfl
 | _ :: r, i + 1, x, h => by show (zaw r i x)[i]? = _; exact zaE (Nat.lt_of_succ_lt_succ h)
theorem zaL {α : Type} : ∀ {l : List α} {i j : Nat} {x : α}, i ≠ j -> (zaw l i x)[j]? = l[j]?
 | [], i, j, x, h => rfl
 | _ :: r, 0, j, x, h => by cases j with
  | zero => exact absurd rfl h
  | succ j => rfl
 | _ :: r, i + 1, j, x, h => by cases j with
  | zero => rfl
  | succ j => show (zaw r i x)[j]? = r[j]?; exact zaL fun q => h (by rw [q])
theorem zaS {α : Type} : ∀ {l : List α} {i : Nat} {x : α}, (zaw l i x).length = l.length
 | [], i, x => rfl
 | _ :: r, 0, x => rfl
 | _ :: r, i + 1, x => congrArg (· + 1) (zaS (l := r))
theorem zdg {α : Type} : ∀ {l : List α} {i j : Nat} {x y : α}, i ≠ j -> zaw (zaw l i x) j y = zaw (zaw l j y) i x
 | [], i, j, x, y, h => by cases i <;> cases j <;> rfl
 | _ :: r, 0, j, x, y, h => by cases j with
  | zero => exact absurd rfl h
  | succ j => rfl
 | _ :: r, i + 1, j, x, y, h => by cases j with
  | zero => rfl
  | succ j => exact congrArg (_ :: ·) (zdg (l := r) fun q => h (by rw [q]))
structure VarsOk (S : Sta) (Y : Addr -> Prop) (h : Heap) (g : Gh) (env : Env) (names : Names) (m : Fm) : Prop where
 len : m.length = names.length
 nm : env.scope.names = names
 kL : g.κ env.locals = .fr
 yL : Y env.locals
 yH : ∀ a, Y a -> ∃ o, h.get? a = some o /\ (g.κ a = .fr \/ g.κ a = .cl)
 loc : ∃ mp, h.Ns env.locals mp /\ ∀ x i l, zah names x 0 = some (i, .local) -> m[i]? = some (some l) -> ∃ v, mp x = some v /\ LR S Y h g v l
 cel : ∀ x i, zah names x 0 = some (i, .cell) -> ∃ c, env.cells.lookup x = some c /\ Y c /\ c ≠ env.locals /\ g.κ c = .cl /\ ∃ ov, h.IsCell c ov /\ ∀ l, m[i]? = some (some l) -> ∃ v, ov = some v /\ LR S Y h g v l
 inj : ∀ x y c, env.cells.lookup x = some c -> env.cells.lookup y = some c -> x = y
theorem VarsOk.mono {S : Sta} {Y : Addr -> Prop} {h h' : Heap} {g g' : Gh} {env : Env} {names : Names} {m : Fm} (E : Ext No g g' h h') (v : VarsOk S Y h g env names m) : VarsOk S Y h' g' env names m := by
 obtain ⟨mp, ns, r⟩ := v.loc
 have ns' := ns
 obtain ⟨o, es, ep, ho, q⟩ := ns'
 refine ⟨v.len, v.nm, (E.kind _ o ho).trans v.kL, v.yL, fun a ya => let ⟨o, e, k⟩ := v.yH a ya; let ⟨o', e'⟩ := E.still a o e; ⟨o', e', by rw [E.kind _ _ e]; exact k⟩, ⟨mp, zji (fun o e => E.frs _ o e id v.kL) ns, fun x i l e1 e2 => let ⟨u, a, b⟩ := r x i l e1 e2; ⟨u, a, b.mono E.no⟩⟩, fun x i e => ?_, v.inj⟩
 obtain ⟨c, c1, c2, c3, c4, ov, ⟨oc, c5, c6⟩, c7⟩ := v.cel x i e
 refine ⟨c, c1, c2, c3, (E.kind _ oc c5).trans c4, ov, ⟨oc, E.keep _ oc c5 id (by rw [c4]; decide) (by rw [c4]; decide) (by rw [c4]; decide) (by rw [c4]; decide), c6⟩, fun l hl => ?_⟩
 obtain ⟨u, a, b⟩ := c7 l hl
 exact ⟨u, a, b.mono E.no⟩
theorem zbU {h h' base : Heap} : ∀ {l : List Env}, (∀ L ∈ l.filterMap (·.frame), ∀ o, h.get? L = some o -> (∀ vs, o.data ≠ .fields vs) -> ∃ o', h'.get? L = some o' /\ ∀ vs, o'.data ≠ .fields vs) -> h.FunFrames base l -> h'.FunFrames base l
 | [], _, _ => trivial
 | env :: r, k, ⟨a, ⟨L, o, e1, e2, e3, e4⟩, z⟩ => by
  obtain ⟨o', e, e'⟩ := k L (by simp [e1]) o e3 e4
  refine ⟨a, ⟨L, _, e1, e2, e, e'⟩, zbU (fun L' m => k L' ?_) z⟩
  rw [List.filterMap_cons, e1]; exact List.mem_cons_of_mem _ m
theorem Inv.own {S : Sta} {fr : List Env} {g : Gh} {σ : Hp} {h h' : Heap} {Y : Addr -> Prop} (I : Inv S fr g σ h) {a : Addr} (ya : Y a) (ka : g.κ a = .fr \/ g.κ a = .cl) (hs : Heap.SameBut a h h') (ha : ∃ o, h'.get? a = some o /\ ∀ vs, o.data ≠ .fields vs) :
  Inv S fr g σ h' /\ Ext Y g g h h' := by
 have kp : ∀ b o, g.κ b ≠ .fr -> g.κ b ≠ .cl -> h.get? b = some o -> h'.get? b = some o := fun b o k1 k2 e => (hs.2 b fun q => by subst q; exact ka.elim k1 k2).trans e
 have ky : ∀ b o, ¬ Y b -> h.get? b = some o -> h'.get? b = some o := fun b o k e => (hs.2 b fun q => k (q ▸ ya)).trans e
 have E : Ext Y g g h h' := ⟨fun _ _ _ => rfl, Nat.le_refl _, fun _ _ => rfl, fun b o q e => ⟨q, kp b o (by rw [q]; decide) (by rw [q]; decide) e⟩, fun b o e z _ _ _ _ => ky b o z e, fun b o e z _ => ⟨o.slots, ky b o z e⟩, fun b o vs e z _ q => ⟨vs, q ▸ ky b o z e⟩, fun b o e => by
  by_cases z : b = a
  ·obtain rfl := z.symm; obtain ⟨o', q, _⟩ := ha; exact ⟨o', q⟩
  ·exact ⟨o, (hs.2 b z).trans e⟩⟩
 refine ⟨⟨fun b o e => (E.fz b o (I.bfz b o e) (I.stays b o e)).2, I.bfz, fun b e => I.ot b (by
  cases z : h.get? b with
  | none => rfl
  | some o => obtain ⟨o', y⟩ := E.still b o z; rw [y] at e; cases e), I.num, fun i o e => (I.mu i o e).mono_at E.up fun ob q => kp _ _ (by rw [I.km i (I.lt e)]; decide) (by rw [I.km i (I.lt e)]; decide) q, I.km, I.inj, ⟨zbU (fun L m o e nf => ?_) I.fr.1, I.fr.2⟩, I.tb.mono E.fz I.tb.k fun o q => kp _ o (by rw [I.tb.k]; decide) (by rw [I.tb.k]; decide) q⟩, E⟩
 by_cases z : L = a
 ·subst z; exact ha
 ·exact ⟨o, (hs.2 L z).trans e, nf⟩
theorem zhs {h : Heap} {a : Addr} {m : Str -> Option Value} (n : h.Ns a m) : ∃ o, h.get? a = some o /\ ∀ vs, o.data ≠ .fields vs := by
 obtain ⟨o, es, ep, ho, hd, _⟩ := n
 exact ⟨o, ho, fun vs q => by rw [hd] at q; cases q⟩
theorem zlZ {h : Heap} {a : Addr} {v : Option Value} (n : h.IsCell a v) : ∃ o, h.get? a = some o /\ ∀ vs, o.data ≠ .fields vs := by
 obtain ⟨o, ho, hd⟩ := n
 exact ⟨o, ho, fun vs q => by rw [hd] at q; cases q⟩
theorem store {S : Sta} {M : Model} {A : Around} {Ev : Value -> Shared -> Prop} {Y : Addr -> Prop} {env : Env} {outer : List Env} {names : Names} {m : Fm} {g : Gh} {σ : Hp} {s : Shared} {x : Str} {i : Nat} {k : NameKind} {v : Value} {l : Loc} {Q : Unit -> Shared -> Prop}
  (kf : env.scope.kind = .function) (V : VarsOk S Y s.heap g env names m) (I : Inv S (env :: outer) g σ s.heap) (hi : zah names x 0 = some (i, k)) (hk : k = .local \/ k = .cell) (r : LR S Y s.heap g v l)
  (hQ : ∀ h' tk, Inv S (env :: outer) g σ h' -> Ext Y g g s.heap h' -> VarsOk S Y h' g env names (zaw m i (some l)) -> (∀ C, g.κ C = .ot -> h'.get? C = s.heap.get? C) -> Q () { s with heap := h', toks := tk }) : wpAny M A (storeName env x v) Q Ev s := by
 have hkind : env.kindOf x = some k := by unfold Env.kindOf; rw [V.nm]; exact zad hi
 have ilt : i < m.length := by
  rw [V.len]; exact (List.getElem?_eq_some_iff.mp (by simpa using (zbo hi).2)).1
 obtain ⟨mp, ns, lr⟩ := V.loc
 rcases hk with rfl | rfl
 ·refine wpAny_storeName_local hkind ns (fun h' ns' sb => ?_) (by rw [kf]; rfl)
  obtain ⟨I', E'⟩ := I.own V.yL (.inl V.kL) sb (zhs ns')
  refine hQ h' _ I' E' ⟨by rw [zaS]; exact V.len, V.nm, V.kL, V.yL, fun a ya => let ⟨o, e, k⟩ := V.yH a ya; let ⟨o', e'⟩ := E'.still a o e; ⟨o', e', k⟩, ⟨_, ns', fun y j l' e1 e2 => ?_⟩, fun y j e => ?_, V.inj⟩ fun C kC => sb.2 C fun q => by rw [q, V.kL] at kC; cases kC
  ·by_cases z : y = x
   ·obtain rfl := z.symm
    rw [hi] at e1; cases e1
    rw [zaE ilt] at e2; cases e2
    exact ⟨v, if_pos rfl, r.mono E'⟩
   ·have ne : i ≠ j := fun q => z (zaJ e1 (q ▸ hi))
    rw [zaL ne] at e2
    obtain ⟨u, a, b⟩ := lr y j l' e1 e2
    exact ⟨u, (if_neg z).trans a, b.mono E'⟩
  ·obtain ⟨c, c1, c2, c3, c4, ov, c5, c7⟩ := V.cel y j e
   refine ⟨c, c1, c2, c3, c4, ov, ?_, fun l' hl => ?_⟩
   ·obtain ⟨oc, a, b⟩ := c5; exact ⟨oc, (sb.2 c c3).trans a, b⟩
   ·have ne : i ≠ j := fun q => by subst q; have := zaJ e hi; subst this; rw [hi] at e; cases e
    rw [zaL ne] at hl
    obtain ⟨u, a, b⟩ := c7 l' hl
    exact ⟨u, a, b.mono E'⟩
 ·obtain ⟨c, c1, c2, c3, c4, ov, c5, c7⟩ := V.cel x i hi
  refine wpAny_storeName_cell kf hkind c1 c5 fun h' ic sb => ?_
  obtain ⟨I', E'⟩ := I.own c2 (.inr c4) sb (zlZ ic)
  refine hQ h' s.toks I' E' ⟨by rw [zaS]; exact V.len, V.nm, V.kL, V.yL, fun a ya => let ⟨o, e, k⟩ := V.yH a ya; let ⟨o', e'⟩ := E'.still a o e; ⟨o', e', k⟩, ⟨mp, ?_, fun y j l' e1 e2 => ?_⟩, fun y j e => ?_, V.inj⟩ fun C kC => sb.2 C fun q => by rw [q, c4] at kC; cases kC
  ·obtain ⟨o, es, ep, a, b⟩ := ns; exact ⟨o, es, ep, (sb.2 _ (Ne.symm c3)).trans a, b⟩
  ·have ne : i ≠ j := fun q => by subst q; have := zaJ e1 hi; subst this; rw [hi] at e1; cases e1
   rw [zaL ne] at e2
   obtain ⟨u, a, b⟩ := lr y j l' e1 e2
   exact ⟨u, a, b.mono E'⟩
  ·by_cases z : y = x
   ·obtain rfl := z.symm
    rw [hi] at e; cases e
    refine ⟨c, c1, c2, c3, c4, _, ic, fun l' hl => ?_⟩
    rw [zaE ilt] at hl; cases hl
    exact ⟨v, rfl, r.mono E'⟩
   ·obtain ⟨d, d1, d2, d3, d4, ow, d5, d7⟩ := V.cel y j e
    have ne : i ≠ j := fun q => z (zaJ e (q ▸ hi))
    have cd : d ≠ c := fun q => z (V.inj y x c (q ▸ d1) c1)
    refine ⟨d, d1, d2, d3, d4, ow, ?_, fun l' hl => ?_⟩
    ·obtain ⟨oc, a, b⟩ := d5; exact ⟨oc, (sb.2 d cd).trans a, b⟩
    ·rw [zaL ne] at hl
     obtain ⟨u, a, b⟩ := d7 l' hl
     exact ⟨u, a, b.mono E'⟩
theorem VarsOk.rd {S : Sta} {Y : Addr -> Prop} {h : Heap} {g : Gh} {env : Env} {names : Names} {m mc : Fm} (V : VarsOk S Y h g env names m) {lam : Bool} (nofree : ∀ x i, zah names x 0 ≠ some (i, .free)) : Rd S (S.at names none lam) env Y h g m mc := by
 have kind : ∀ {x i k}, zah names x 0 = some (i, k) -> env.kindOf x = some k := fun e => by unfold Env.kindOf; rw [V.nm]; exact zad e
 refine ⟨fun x i hn l hl => ?_, fun x i hn => ?_, fun _ x i e => ?_⟩
 ·obtain ⟨j, k, e, q⟩ := zfG rfl hn
  cases k with
  | «local» =>
   cases q
   obtain ⟨mp, ns, lr⟩ := V.loc
   obtain ⟨v, a, b⟩ := lr x i l e hl
   exact ⟨v, .inl ⟨kind e, .inl V.kL, mp, ns, a⟩, b⟩
  | cell =>
   cases q
   obtain ⟨c, c1, c2, c3, c4, ov, c5, c7⟩ := V.cel x i e
   obtain ⟨v, rfl, b⟩ := c7 l hl
   exact ⟨v, .inr ⟨c, .inl (kind e), c1, c4, c5⟩, b⟩
  | free => exact absurd e (nofree x j)
  | _ => cases q
 ·obtain ⟨j, k, e, q⟩ := zfG rfl hn
  cases k <;> cases q
 ·obtain ⟨c, c1, c2, c3, c4, ov, ⟨o, c5, _⟩, c7⟩ := V.cel x i e
  exact ⟨kind e, c, o, c1, c4, c5⟩
end Mine.Lake
namespace Mine.Lake
open PySem PySem.W PyProof.Rows PySem.Calls PySem.SeqAt
theorem zlt {k n m : Nat} {vs ws : List Value} {ns ms : List Int} (i1 : IntsAre vs ns) (i2 : IntsAre ws ms) (hz : [] = vs.zip ws) (h1 : vs.length + k = n) (h2 : ws.length + k = m) : ltL ns ms = decide (n < m) := by
 cases i1 with
 | nil =>
  cases i2 with
  | nil => exact (decide_eq_false (by rw [← h1, ← h2]; exact Nat.lt_irrefl _)).symm
  | cons => exact (decide_eq_true (by rw [← h1, ← h2]; exact Nat.add_lt_add_right (Nat.succ_pos _) k)).symm
 | cons =>
  cases i2 with
  | nil => exact (decide_eq_false (by rw [← h1, ← h2]; exact Nat.not_lt.mpr (Nat.add_le_add_right (Nat.zero_le _) k))).symm
  | cons => cases hz
theorem zgE (l b : Addr) (items items2 : Array Value) (n n2 : Nat) (dd dd2 : Option Addr) (sl sl2 : Array (Option Value)) {ns ms : List Int} (ia : IntsAre items.toList ns) (ib : IntsAre items2.toList ms) :
  Meets (Builtin.«tuple.__lt__» ⟨[.ref l, .ref b], []⟩)
   (fun A R s => s.heap.get? l = some { cls := .type "tuple", dict := dd, data := .seq items n, slots := sl } /\ s.heap.get? b = some { cls := .type "tuple", dict := dd2, data := .seq items2 n2, slots := sl2 } /\
    R (.ok (.ret (.bool (ltL ns ms)))) s) :=
 .of_wp fun prog w A R s h => by
  obtain ⟨hp, g, d, tk, os⟩ := s; obtain ⟨hl, hb, h⟩ := h
  have f2 := AutoSeq1.sub_tuple_tuple
  wp_walk using AutoSeq1.wpAny_loadPart' hl, AutoSeq1.wpAny_loadPart' hb, wpAny_forIn_list _ (fun rest b s' => b.1 = none /\ s' = ⟨hp, g, d, tk, os⟩ /\ ∃ vs ws ns' ms' k, IntsAre vs ns' /\ IntsAre ws ms' /\ rest = vs.zip ws /\ vs.length + k = items.size /\ ws.length + k = items2.size /\ ltL ns' ms' = ltL ns ms) _
  case turn =>
   rintro ⟨y, x⟩ rest b s' ⟨hb', rfl, vs, ws, ns', ms', k, i1, i2, hz, h1, h2, hR⟩
   cases i1 with
   | nil => cases hz
   | cons i t r1 =>
    cases i2 with
    | nil => cases hz
    | cons j u r2 =>
     cases hz
     refine wpAny_bind (wpAny_eqBool_int ?_)
     by_cases q : i = j
     ·obtain rfl := q
      rw [show (i == i) = true from beq_self_eq_true i]
      wp_walk
      exact ⟨rfl, rfl, _, _, _, _, k + 1, r1, r2, rfl, (Nat.succ_add_eq_add_succ _ _).symm.trans h1, (Nat.succ_add_eq_add_succ _ _).symm.trans h2, (if_pos rfl).symm.trans hR⟩
     ·rw [show (i == j) = false from by simpa using q]
      rw [if_pos (show (!false) = true from rfl)]
      refine wpAny_bind (wpAny_rule (wpAny_bind (show wpAny (model prog w) _ (compareOp .Lt (.int i t) (.int j u)) _ _ _ from PySem.P.lt_int ?_)))
      rw [show ltL ns ms = decide (i < j) from hR.symm.trans (if_neg q)] at h
      wp_walk
      exact ⟨_, rfl, h⟩
  case fin =>
   rintro ⟨b1, b2⟩ s' ⟨hb', rfl, vs, ws, ns', ms', k, i1, i2, hz, h1, h2, hR⟩
   simp only at hb'
   subst hb'
   wp_walk
   refine ⟨_, rfl, ?_⟩
   rw [← hR, zlt i1 i2 hz h1 h2] at h
   exact h
  case h =>
   exact ⟨rfl, rfl, _, _, _, _, 0, ia, ib, rfl, by simp, by simp, rfl⟩
theorem zjk {S : Sta} {A : Around} {Ev : Value -> Shared -> Prop} {s : Shared} {Q : Value -> Shared -> Prop} {l b : Addr} {vs ws : Array Value} {ns ms : List Int} (room : A.units < cLine) (hl : IsTup s.heap l vs) (hb : IsTup s.heap b ws) (ia : IntsAre vs.toList ns) (ib : IntsAre ws.toList ms) (h : Q (.bool (ltL ns ms)) s) :
  wpAny S.M A (compareOp .Lt (.ref l) (.ref b)) Q Ev s := by
 obtain ⟨⟨cls, dd, data, sl⟩, ho, hc, n, hd⟩ := id hl
 obtain ⟨⟨cls2, dd2, data2, sl2⟩, ho2, hc2, n2, hd2⟩ := id hb
 simp only at hc hd hc2 hd2
 subst hc hd hc2 hd2
 exact richCompare_meets_room (op := .Lt) ⟨_, ho, rfl⟩ ⟨_, ho2, rfl⟩ PySem.F.slot_tuple_lt PySem.F.entry_tuple_lt (PySem.F.args_tuple_lt_2 _ _) (zgE l b vs ws n n2 dd dd2 sl sl2 ia ib)
  ⟨ho, ho2, show Value.bool (ltL ns ms) ≠ Value.notImplemented /\ Q (.bool (ltL ns ms)) s from ⟨(fun x => nomatch x), h⟩⟩ room
section
variable {prog : Program} {w : World} {A : Around} {E : Value -> Shared -> Prop} {s : Shared} {Q : Value -> Shared -> Prop}
theorem zox {a : Bool} {b : Int} {u : Tok} (h : Q (.bool (decide ((if a = true then (1 : Int) else 0) < b))) s) : wpAny (model prog w) A (compareOp .Lt (.bool a) (.int b u)) Q E s :=
 rc_left_or (op := .Lt) rfl (typeIs_int s b u) (by decide) PySem.F.sub_int_bool PySem.F.slot_bool_lt
  (call_gives PySem.F.slot_bool_lt rfl PySem.F.entry_int_lt (PySem.F.args_int_lt_2 _ _) (.of_eq rfl : Gives (Builtin.«int.__lt__» ⟨[.bool a, .int b u], []⟩) (.val (.bool (decide ((if a = true then (1 : Int) else 0) < b))))) ⟨nofun, h⟩) (.inl rfl)
theorem zow {a : Int} {t : Tok} {b : Bool} (h : Q (.bool (decide (a < if b = true then (1 : Int) else 0))) s) : wpAny (model prog w) A (compareOp .Lt (.int a t) (.bool b)) Q E s :=
 rc_sub_first_or (op := .Lt) (typeIs_int s a t) rfl (by decide) PySem.F.sub_bool_int PySem.F.slot_bool_gt
  (call_gives PySem.F.slot_bool_gt rfl PySem.F.entry_int_gt (PySem.F.args_int_gt_2 _ _) (.of_eq rfl : Gives (Builtin.«int.__gt__» ⟨[.bool b, .int a t], []⟩) (.val (.bool (decide ((if b = true then (1 : Int) else 0) > a))))) ⟨nofun, h⟩) (.inl rfl)
end
section
variable {S : Sta} {fr : List Env} {g : Gh} {σ : Hp} {h : Heap}
theorem VEs.pes {es : List DictEntry} {kvs : List (Str × V)} (r : VEs S h g es kvs) : ∀ {ds : List (PyData × PyData)}, kvPd kvs = some ds -> PEs S.w.params h g.κ es ds := by
 induction r with
 | nil => intro ds e; cases e; exact .nil
 | cons a b c d r ih => exact fun e => bd_e e fun p h1 e => zbe e fun q h2 e => e ▸ .cons a b (zbN (zbm h1 ▸ c)) d (ih h2)
theorem zdi {i : Nat} {d : PyData} {P : Prop} (e : rd σ (.ref i) = some d) (kl : ∀ l, σ[i]? = some (.list l) -> d = .list l -> P) (kd : ∀ l ds, σ[i]? = some (.dict l) -> kvPd l = some ds -> d = .dict ds -> P) : P :=
 bd_e e fun o h1 e => by
  cases o with
  | list l => cases e; exact kl l h1 rfl
  | dict l => exact zbe e fun ds h2 e => kd l ds h1 h2 e.symm
theorem VR.rdK {v : Value} {x : V} {d : PyData} {P : Prop} (r : VR S h g v x) (e : rd σ x = some d) (kp : VR S h g v (.pd d) -> P) (kr : ∀ i, VR S h g v (.ref i) -> rd σ (.ref i) = some d -> P) : P := by
 cases x with
 | pd d' => cases e; exact kp r
 | ref i => exact kr i r e
 | _ => cases e
theorem MO.asList {a : Addr} {l : List PyData} (r : MO S h g a (.list l)) : ∃ (vs : List Value) (n : Nat), h.get? a = some ⟨.type "list", none, .seq vs.toArray n, #[]⟩ /\ PVs S.w.params h g.κ vs l := by
 cases r with
 | list e r => exact ⟨_, _, e, r⟩
theorem MO.asDict {a : Addr} {l : List (Str × V)} (r : MO S h g a (.dict l)) : ∃ (es : List DictEntry) (n : Nat), h.get? a = some ⟨.type "dict", none, .dict es.toArray n, #[]⟩ /\ VEs S h g es l := by
 cases r with
 | dict e r => exact ⟨_, _, e, r⟩
theorem zd1 {v : Value} {i : Nat} (r : VR S h g v (.ref i)) : v = .ref (g.μ i) /\ i < g.n := by
 cases r with
 | ref hi => exact ⟨rfl, hi⟩
theorem VR.readsN (sm : ∃ o, S.B.get? sysModules = some o) (I : Inv S fr g σ h) {v : Value} {x : V} {d : PyData} (r : VR S h g v x) (e : rd σ x = some d) : ∃ as, Reads h v d as /\ sysModules ∉ as := by
 refine r.rdK e (fun r => PV.reads (zbN r)) fun i r e => ?_
 obtain ⟨rfl, hi⟩ := zd1 r
 have ne : g.μ i ≠ sysModules := fun q => by
  obtain ⟨o, y⟩ := sm
  have k1 := I.bfz _ o y
  have k2 := I.km i hi
  rw [q, k1] at k2; cases k2
 refine zdi e (fun l z q => ?_) fun l ds z hk q => ?_
 ·subst q
  obtain ⟨vs, n, e1, r1⟩ := (I.mu i _ z).asList
  obtain ⟨as, q, n⟩ := PVs.reads r1
  exact ⟨_, .list e1 rfl rfl q, fun hm => (List.mem_cons.mp hm).elim (fun w => ne w.symm) n⟩
 ·subst q
  obtain ⟨es, n, e1, r1⟩ := (I.mu i _ z).asDict
  obtain ⟨as, bs, q1, q2, n1, n2⟩ := PEs.reads (VEs.pes r1 hk)
  exact ⟨_, .dict e1 rfl rfl q1 q2, fun hm => (List.mem_append.mp hm).elim (fun hm => (List.mem_cons.mp hm).elim (fun w => ne w.symm) n1) n2⟩
theorem VR.reads (ok : StaOk S) (I : Inv S fr g σ h) {v : Value} {x : V} {d : PyData} (r : VR S h g v x) (e : rd σ x = some d) : ∃ as, Reads h v d as := (r.readsN ok.sm I e).imp fun _ q => q.1
@[elab_as_elim] theorem VR.flat {P : Value -> Prop} {v : Value} {x : V} {d : PyData} (r : VR S h g v x) (e : rd σ x = some d) (hl : zbC d = none) (hd : zfh d = none) (k : ∀ v, VR S h g v (.pd d) -> PV S.w.params h g.κ v d -> P v) : P v := by
 exact r.rdK e (fun r => k v r (zbN r)) fun i r e => zdi e (fun l _ q => by rw [q] at hl; cases hl) fun l ds _ _ q => by rw [q] at hd; cases hd
@[elab_as_elim] theorem VR.strK {P : Value -> Prop} {v : Value} {x : V} {d : PyData} {u : Str} (r : VR S h g v x) (e : rd σ x = some d) (q : strP d = some u) (k : ∀ t, P (.str u t)) : P v := by
 obtain rfl := zd4 q
 refine r.flat e rfl rfl fun v _ p => ?_
 cases p; exact k _
@[elab_as_elim] theorem VR.intK {P : Value -> Prop} {v : Value} {x : V} {d : PyData} {i : Int} (r : VR S h g v x) (e : rd σ x = some d) (q : intP d = some i) (k : ∀ t, P (.int i t)) : P v := by
 obtain rfl := zen q
 refine r.flat e rfl rfl fun v _ p => ?_
 cases p; exact k _
@[elab_as_elim] theorem VR.numK {P : Value -> Int -> Prop} {v : Value} {x : V} {d : PyData} {i : Int} (r : VR S h g v x) (e : rd σ x = some d) (q : zfm d = some i) (k : ∀ i t, P (.int i t) i) (kb : ∀ b, P (.bool b) (if b = true then 1 else 0)) : P v i := by
 cases d with
 | int j =>
  cases q
  refine r.flat (P := fun v => P v i) e rfl rfl fun v _ p => ?_
  cases p; exact k _ _
 | bool b =>
  cases q
  refine r.flat (P := fun v => P v _) e rfl rfl fun v _ p => ?_
  cases p; exact kb _
 | _ => cases q
@[elab_as_elim] theorem VR.listK {P : Value -> Prop} (I : Inv S fr g σ h) {v : Value} {x : V} {d : PyData} {l : List PyData} (r : VR S h g v x) (e : rd σ x = some d) (q : zbC d = some l) (k : ∀ a vs, h.IsList a vs -> PVs S.w.params h g.κ vs.toList l -> vs.size = l.length -> P (.ref a)) : P v := by
 obtain rfl := zbI q
 refine r.rdK e (fun r => ?_) fun i r e => zdi e (fun l' z w => ?_) fun l ds _ _ w => by cases w
 ·cases zbN r with
  | list k1 e1 c d z q => exact k _ _ ⟨_, e1, c, _, d⟩ q (by simpa using q.length)
 ·cases w
  obtain ⟨rfl, hi⟩ := zd1 r
  obtain ⟨vs, n, e1, r1⟩ := (I.mu i _ z).asList
  exact k _ _ ⟨_, e1, rfl, _, rfl⟩ r1 r1.length
@[elab_as_elim] theorem VR.tupK {P : Value -> Prop} {v : Value} {x : V} {d : PyData} {l : List PyData} (r : VR S h g v x) (e : rd σ x = some d) (q : tupP d = some l) (k : ∀ a vs, IsTup h a vs -> VR S h g (.ref a) (.pd (.tuple l)) -> PVs S.w.params h g.κ vs.toList l -> vs.size = l.length -> P (.ref a)) : P v := by
 obtain rfl := zdd q
 refine r.flat e rfl rfl fun v r p => ?_
 cases p with
 | tuple k1 e1 c d q => exact k _ _ ⟨_, e1, c, _, d⟩ r q (by simpa using q.length)
theorem VR.isList (I : Inv S fr g σ h) {v : Value} {x : V} {l : List PyData} (r : VR S h g v x) (e : rd σ x = some (.list l)) : ∃ a vs, v = .ref a /\ h.IsList a vs /\ PVs S.w.params h g.κ vs.toList l := r.listK (P := fun v => ∃ a vs, v = .ref a /\ h.IsList a vs /\ PVs S.w.params h g.κ vs.toList l) I e rfl fun a vs h1 h2 _ => ⟨a, vs, rfl, h1, h2⟩
theorem VR.isTup {v : Value} {x : V} {l : List PyData} (r : VR S h g v x) (e : rd σ x = some (.tuple l)) : ∃ a vs, v = .ref a /\ IsTup h a vs /\ PVs S.w.params h g.κ vs.toList l := r.tupK (P := fun v => ∃ a vs, v = .ref a /\ IsTup h a vs /\ PVs S.w.params h g.κ vs.toList l) e rfl fun a vs h1 _ h2 _ => ⟨a, vs, rfl, h1, h2⟩
noncomputable def getE (es : List DictEntry) (k : Str) : Option Value := (es.find? fun e => Value.isStrOf k e.key).map (·.val)
theorem zgA {es : List DictEntry} {kvs : List (Str × V)} (r : VEs S h g es kvs) (k : Str) : (∃ v x, getE es k = some v /\ zbf k kvs = some x /\ VR S h g v x) \/ (getE es k = none /\ zbf k kvs = none) := by
 induction r with
 | nil => exact .inr ⟨rfl, rfl⟩
 | @cons e es k' t x kvs a b c d r ih =>
  have hk : Value.isStrOf k e.key = sb k' k := by
   rw [a]; show (k' == k) = _; exact (str_beq k' k).symm
  unfold getE at ih ⊢
  rw [List.find?_cons, hk]
  simp only [zbf]
  cases q : sb k' k with
  | true => exact .inl ⟨e.val, x, rfl, rfl, c⟩
  | false => exact ih
theorem zlg {es : List DictEntry} {kvs : List (PyData × PyData)} (r : PEs S.w.params h g.κ es kvs) : ∃ kv, VEs S h g es kv /\ (∀ k, zbf k kv = (zda k kvs).map .pd) /\ kv.length = kvs.length /\ kvPd kv = some kvs := by
 induction kvs generalizing es with
 | nil => cases r; exact ⟨[], .nil, fun _ => rfl, rfl, rfl⟩
 | cons p r' ih =>
  cases r with
  | @cons e es k t d kvs a b c f r =>
   obtain ⟨kv, h1, h2, h3, h4⟩ := ih r
   refine ⟨(k, .pd d) :: kv, .cons a b (.pd c) f h1, fun y => ?_, congrArg (· + 1) h3, congrArg (Option.map ((PyData.str k, d) :: ·)) h4⟩
   show (match sb k y with | true => some (V.pd d) | false => zbf y kv) = Option.map V.pd (match sb k y with | true => some d | false => zda y r')
   cases sb k y with
   | true => rfl
   | false => exact h2 y
theorem zds {es : List DictEntry} {kvs : List (Str × V)} (r : VEs S h g es kvs) : ∀ e ∈ es, ∃ k, Value.isStrOf k e.key = true /\ e.hash = hashStr S.w k := by
 induction r with
 | nil => exact fun _ he => (List.not_mem_nil he).elim
 | cons a b c d r ih => exact List.forall_mem_cons.mpr ⟨⟨_, by rw [a]; exact beq_self_eq_true _, b⟩, ih⟩
noncomputable abbrev zb4 (S : Sta) : PySem.KeyKind S.prog S.w Str := PySem.strKind S.prog S.w
theorem zdr {a : Addr} {es : List DictEntry} {n : Nat} {kvs : List (Str × V)} (e : h.get? a = some ⟨.type "dict", none, .dict es.toArray n, #[]⟩) (r : VEs S h g es kvs) : h.MapOf (zb4 S) a (getE es) := by
 refine ⟨_, _, _, e, ⟨rfl, rfl, rfl⟩, rfl, fun e he => ?_, fun k => ?_⟩
 ·exact zds r e (by simpa using he)
 ·unfold findBy getE
  rw [List.find?_toArray]; rfl
theorem VR.refDict (ok : StaOk S) (I : Inv S fr g σ h) {v : Value} {i : Nat} {l : List (Str × V)} (r : VR S h g v (.ref i)) (e : σ[i]? = some (.dict l)) :
  ∃ a es n, v = .ref a /\ a = g.μ i /\ i < g.n /\ h.get? a = some ⟨.type "dict", none, .dict es.toArray n, #[]⟩ /\ VEs S h g es l /\ (a == sysModules) = false := by
 obtain ⟨rfl, hi⟩ := zd1 r
 have hm := I.km i hi
 obtain ⟨es, n, e1, r1⟩ := (I.mu i _ e).asDict
 refine ⟨_, _, _, rfl, rfl, hi, e1, r1, ?_⟩
 obtain ⟨o, y⟩ := ok.sm
 have := I.bfz _ o y
 by_cases q : g.μ i = sysModules
 ·rw [q, this] at hm; cases hm
 ·simpa using q
theorem zlB {k : Str} {l : List (Str × V)} : ∀ {ds : List (PyData × PyData)}, kvPd l = some ds -> (zbf k l).isSome = (zda k ds).isSome := by
 induction l with
 | nil => intro ds e; cases e; rfl
 | cons p r ih =>
  exact fun e => bd_e e fun d h1 e => zbe e fun q h2 e => by
   subst e
   show (match sb p.1 k with | true => some p.2 | false => zbf k r).isSome = (match sb p.1 k with | true => some d | false => zda k q).isSome
   cases sb p.1 k with
   | true => rfl
   | false => exact ih h2
theorem VR.pdDict {v : Value} {d : List (PyData × PyData)} (r : VR S h g v (.pd (.dict d))) :
  ∃ a es n kv, v = .ref a /\ g.κ a = .fz /\ h.get? a = some ⟨.type "dict", none, .dict es.toArray n, #[]⟩ /\ VEs S h g es kv /\ (a == sysModules) = false /\ (∀ k, zbf k kv = (zda k d).map .pd) /\ kv.length = d.length /\ kvPd kv = some d := by
 cases zbN r with
 | dict k e n r =>
  obtain ⟨kv, h1, h2, h3, h4⟩ := zlg r
  exact ⟨_, _, _, kv, rfl, k, by simpa using e, h1, by simpa using n, h2, h3, h4⟩
end
section
variable {S : Sta} {fr : List Env} {A : Around} {g : Gh} {σ : Hp} {s : Shared} {d : V} {Ev : Value -> Shared -> Prop}
theorem zca (I : Inv S fr g σ s.heap) {v : Value} {k : Nat} (r : VR S s.heap g v d) : Is S fr g σ s d v { s with toks := k } :=
 ⟨d, σ, g, ⟨rfl, rfl⟩, .refl _ _ _, I, r, ⟨rfl, rfl, rfl⟩⟩
theorem zbJ (I : Inv S fr g σ s.heap) {v : Value} (r : VR S s.heap g v d) : Is S fr g σ s d v s := ⟨d, σ, g, ⟨rfl, rfl⟩, .refl _ _ _, I, r, ⟨rfl, rfl, rfl⟩⟩
theorem zbQ (I : Inv S fr g σ s.heap) {i : Int} {t : Tok} {k : Nat} : Is S fr g σ s (.pd (.int i)) (.int i t) { s with toks := k } := zca I (.pd (.int _ _))
theorem zcQ (I : Inv S fr g σ s.heap) {x : Str} {t : Tok} {k : Nat} : Is S fr g σ s (.pd (.str x)) (.str x t) { s with toks := k } := zca I (.pd (.str _ _))
theorem zap (I : Inv S fr g σ s.heap) {b : Bool} : Is S fr g σ s (.pd (.bool b)) (.bool b) s := zbJ I (.pd (.bool _))
theorem zdL (I : Inv S fr g σ s.heap) {b : Bool} {k : Nat} : Is S fr g σ s (.pd (.bool b)) (.bool b) { s with toks := k } := zca I (.pd (.bool _))
theorem zhL (I : Inv S fr g σ s.heap) {vs : Array Value} {l : List PyData} {k : Nat} (r : PVs S.w.params s.heap g.κ vs.toList l) :
  Is S fr g σ s (.pd (.tuple l)) (.ref s.heap.objs.size) { s with heap := s.heap.push { cls := .type "tuple", data := .seq vs }, toks := k } := by
 have hn : s.heap.get? s.heap.objs.size = none := Heap.get?_none_of_le (Nat.le_refl _)
 obtain ⟨I2, E2⟩ := I.new (k := .fz) (fun b o q => Heap.get?_push_of_some _ q) hn (Heap.get?_push_size s.heap (o := { cls := .type "tuple", data := .seq vs }) rfl)
 exact ⟨_, σ, _, ⟨rfl, rfl⟩, E2, I2, .pd (.tuple (if_pos rfl) (Heap.get?_push_size _ rfl) rfl rfl (r.mono E2.up.fz)), ⟨rfl, rfl, rfl⟩⟩
theorem ze6 (ok : StaOk S) (I : Inv S fr g σ s.heap) : s.heap.objs.size ≠ sysModules := fun q => by
 obtain ⟨o, e⟩ := ok.sm
 have := Heap.lt_size (I.stays _ _ e)
 rw [← q] at this; exact Nat.lt_irrefl _ this
theorem znb (ok : StaOk S) (I : Inv S fr g σ s.heap) {vs : Array Value} {l : List PyData} {k : Nat} (r : PVs S.w.params s.heap g.κ vs.toList l) :
  Is S fr g σ s (.pd (.list l)) (.ref s.heap.objs.size) { s with heap := s.heap.push { cls := .type "list", data := .seq vs }, toks := k } := by
 have hn : s.heap.get? s.heap.objs.size = none := Heap.get?_none_of_le (Nat.le_refl _)
 obtain ⟨I2, E2⟩ := I.new (k := .fz) (fun b o q => Heap.get?_push_of_some _ q) hn (Heap.get?_push_size s.heap (o := { cls := .type "list", data := .seq vs }) rfl)
 exact ⟨_, σ, _, ⟨rfl, rfl⟩, E2, I2, .pd (.list (if_pos rfl) (Heap.get?_push_size _ rfl) rfl rfl (ze6 ok I) (r.mono E2.up.fz)), ⟨rfl, rfl, rfl⟩⟩
theorem zbr {P : Prop} {o : Op} {x y : V} {d : PyData} (h1 : o ≠ .isin) (h2 : o ≠ .notin) (h : evOp o x y σ = some d) (k : ∀ a b, rd σ x = some a -> rd σ y = some b -> opP o a b = some d -> P) : P := by
 have h : ((rd σ x).bind fun a => (rd σ y).bind fun b => opP o a b) = some d := by
  cases o <;> first | exact h | exact absurd rfl h1 | exact absurd rfl h2
 exact bd_e h fun a e1 h => bd_e h fun b e2 h => k a b e1 e2 h
theorem znW (ok : StaOk S) {a b : Value} {x y : V} {p q d : PyData} (I : Inv S fr g σ s.heap) (ra : VR S s.heap g a x) (rb : VR S s.heap g b y) (e1 : rd σ x = some p) (e2 : rd σ y = some q) (h : addP p q = some d) :
  wpAny S.M A (binaryOp .Add a b) (Is S fr g σ s (.pd d)) Ev s := by
 refine zaG h (fun h => b2_e h fun u w h1 h2 h => ?_) fun h => b2_e h fun i j h1 h2 h => ?_
 ·refine gd_m h fun hz => ?_
  refine ra.strK e1 h1 fun t => ?_
  exact rb.strK e2 h2 fun t' => PyProof.Rows.add_str (hsz := hz) fun _ _ => zcQ I
 ·refine some_m h ?_
  refine ra.intK e1 h1 fun t => ?_
  exact rb.intK e2 h2 fun t' => PyProof.Rows.add_int (zbQ I)
theorem zoo {P : Prop} {o : Op} {bo : Operator} {x y : V} {d : PyData} (ho : opOf bo = some o) (h : evOp o x y σ = some d) (k : ∀ a b, rd σ x = some a -> rd σ y = some b -> opP o a b = some d -> P) : P := by
 have h : ((rd σ x).bind fun a => (rd σ y).bind fun b => opP o a b) = some d := by
  cases bo <;> cases ho <;> exact h
 exact bd_e h fun a e1 h => bd_e h fun b e2 h => k a b e1 e2 h
theorem zlj (ok : StaOk S) {a b : Value} {x y : V} {d : PyData} {o : Op} {bo : Operator} (I : Inv S fr g σ s.heap) (ra : VR S s.heap g a x) (rb : VR S s.heap g b y) (ho : opOf bo = some o) (he : evOp o x y σ = some d) :
  wpAny S.M A (binaryOp bo a b) (Is S fr g σ s (.pd d)) Ev s := by
 refine zoo ho he fun p q e1 e2 h => ?_
 clear he
 cases bo <;> cases ho
 ·exact znW ok I ra rb e1 e2 h
 ·refine b2_e h fun i j h1 h2 h => some_m h ?_
  refine ra.intK e1 h1 fun t => ?_
  exact rb.intK e2 h2 fun t' => PySem.P.sub_int (zbQ I)
 ·refine b2_e h fun i j h1 h2 h => gd_m h fun hz => ?_
  refine ra.intK e1 h1 fun t => ?_
  exact rb.intK e2 h2 fun t' => PySem.P.mul_int (zbQ I) (IntMulOk.of_left (intBits_le_64 hz.1 hz.2))
 ·refine b2_e h fun i j h1 h2 h => gd_m h fun hz => ?_
  refine ra.intK e1 h1 fun t => ?_
  refine rb.intK e2 h2 fun t' => mod_int' (Int.ne_of_gt hz) ?_
  rw [Int.fmod_eq_emod_of_nonneg _ (Int.le_of_lt hz)]; exact zbQ I
 ·refine b2_e h fun i j h1 h2 h => gd_m h fun hz => ?_
  refine ra.intK e1 h1 fun t => ?_
  exact rb.intK e2 h2 fun t' => pow_int hz.1 hz.2 (zbQ I)
theorem zdh (room : Room A) : A.units + 64 < cLine := Nat.lt_of_le_of_lt (Nat.add_le_add_left (by decide) _) room.units
noncomputable abbrev zl8 (S : Sta) (A : Around) (fr : List Env) (g : Gh) (σ : Hp) (s : Shared) (Ev : Value -> Shared -> Prop) (p n : CmpOp) (a b : Value) (r : Bool) : Prop := wpAny S.M A (compareOp p a b) (Is S fr g σ s (.pd (.bool r))) Ev s /\ wpAny S.M A (compareOp n a b) (Is S fr g σ s (.pd (.bool (!r)))) Ev s
theorem zj9 (ok : StaOk S) {a b : Value} {x y : V} {p q : PyData} {r : Bool} (room : Room A) (I : Inv S fr g σ s.heap) (ra : VR S s.heap g a x) (rb : VR S s.heap g b y) (e1 : rd σ x = some p) (e2 : rd σ y = some q) (he : eqP p q = some r) : zl8 S A fr g σ s Ev .Eq .NotEq a b r := by
 refine zaG he (fun h => b2_e h fun u w h1 h2 h => some_m h ?_) fun h => zaG h (fun h => b2_e h fun i j h1 h2 h => some_m h ?_) fun h => gd_m h fun hz => ?_
 ·refine ra.strK e1 h1 fun t => ?_
  exact rb.strK e2 h2 fun t' => ⟨PySem.P.eq_str (zap I), PySem.P.ne_str (zap I)⟩
 ·refine ra.intK e1 h1 fun t => ?_
  exact rb.intK e2 h2 fun t' => ⟨PySem.P.eq_int (zap I), PySem.P.ne_int (zap I)⟩
 ·obtain ⟨as, r1⟩ := ra.reads ok I e1
  obtain ⟨bs, r2⟩ := rb.reads ok I e2
  have hu : A.units + min p.depth q.depth < cLine := Nat.lt_of_le_of_lt (Nat.add_le_add_left (Nat.le_trans (Nat.min_le_left _ _) hz.2.2) _) (zdh room)
  exact ⟨compareEq_reads r1 r2 hz.1 hz.2.1 hu (zap I), compareNe_reads r1 r2 hz.1 hz.2.1 hu (zap I)⟩
theorem znP (x y : Str) : (x == y) = sb x y := by
 rw [Bool.eq_iff_iff, beq_iff_eq]
 unfold sb
 rw [beq_iff_eq]
 exact ⟨fun h => h ▸ rfl, fun h => by cases x; cases y; rw [Str.mk.injEq]; exact Array.toList_inj.mp h⟩
theorem zka {x : Str} (h : okS x = true) : (PyData.str x).canLay0 = true := by
 show PyData.strOk x = true
 unfold PyData.strOk
 rw [← Array.all_toList]; exact h
theorem zne {x : Str} : ∀ {l : List PyData} {r : Bool}, inS x l = some r -> PyData.canLayAll0 l = true /\ (l.any fun y => PyData.eqv y (.str x)) = r
 | [], _, h => ⟨rfl, Option.some.inj h⟩
 | d :: l, _, h0 => bd_e h0 fun y h1 h => bd_e h fun b h2 h => zbe h fun q h3 h4 => gd_e h2 fun ho hb => by
  obtain rfl := zd4 h1
  obtain ⟨e1, e2⟩ := zne h3
  refine ⟨Bool.and_eq_true_iff.mpr ⟨zka ho, e1⟩, ?_⟩
  rw [List.any_cons, e2, ← h4, ← hb]; exact congrArg (· || q) (znP y x)
theorem znf {i : Int} : ∀ {l : List PyData} {r : Bool}, inI i l = some r -> PyData.canLayAll0 l = true /\ (l.any fun y => PyData.eqv y (.int i)) = r
 | [], _, h => ⟨rfl, Option.some.inj h⟩
 | d :: l, _, h0 => bd_e h0 fun y h1 h => zbe h fun q h3 h4 => by
  obtain rfl := zen h1
  obtain ⟨e1, e2⟩ := znf h3
  refine ⟨e1, ?_⟩
  rw [List.any_cons, e2, ← h4]; rfl
@[elab_as_elim] theorem inL_m {P : Bool -> Prop} {d : PyData} {l : List PyData} {r : Bool} (h : inL d l = some r) (k : d.canLay0 = true /\ PyData.canLayAll0 l = true /\ d.depth <= 64 -> P (l.any fun y => PyData.eqv y d)) : P r :=
 zaG h (fun h => bd_e h fun x h1 h => bd_e h fun y h2 h => gd_e h2 fun ho e => by
  obtain rfl := zd4 h1; subst e
  obtain ⟨e1, e2⟩ := zne h
  exact e2 ▸ k ⟨zka ho, e1, Nat.le_of_ble_eq_true rfl⟩) fun h => zaG h (fun h => bd_e h fun i h1 h => by
  obtain rfl := zen h1
  obtain ⟨e1, e2⟩ := znf h
  exact e2 ▸ k ⟨rfl, e1, Nat.le_of_ble_eq_true rfl⟩) fun h => gd_m h k
theorem zcx (room : Room A) {m n : Nat} (h : n <= 64) : A.units + 1 + min m n < cLine := Nat.lt_of_le_of_lt (Nat.add_le_add_left (Nat.le_trans (Nat.min_le_right _ _) h) _) (Nat.lt_of_le_of_lt (by rw [Nat.add_assoc]; exact Nat.add_le_add_left (by decide) _) room.units)
theorem zfa {a : Value} {k : Str} {da : Addr} {es : List DictEntry} {n : Nat} {kv : List (Str × V)} {r : Bool} (I : Inv S fr g σ s.heap) (ra : VR S s.heap g a (.pd (.str k))) (e1 : s.heap.get? da = some ⟨.type "dict", none, .dict es.toArray n, #[]⟩) (e2 : VEs S s.heap g es kv) (e3 : (da == sysModules) = false) (e4 : (zbf k kv).isSome = r) : zl8 S A fr g σ s Ev .In .NotIn a (.ref da) r := by
 obtain ⟨t, rfl⟩ := zfq ra
 have hr : (getE es k).isSome = r := by
  rcases zgA e2 k with ⟨v, x, h1, h2, _⟩ | ⟨h1, h2⟩ <;> rw [h1, ← e4, h2] <;> rfl
 have mp := zdr e1 e2
 exact ⟨wpAny_in_of (knd := zb4 S) (k := k) (beq_self_eq_true k) e3 mp (hr.symm ▸ zdL I), wpAny_notIn_of (knd := zb4 S) (k := k) (beq_self_eq_true k) e3 mp (hr.symm ▸ zdL I)⟩
theorem zj8 (ok : StaOk S) {a b : Value} {x y : V} {r : Bool} (room : Room A) (I : Inv S fr g σ s.heap) (ra : VR S s.heap g a x) (rb : VR S s.heap g b y) (he : inV x σ y = some r) : zl8 S A fr g σ s Ev .In .NotIn a b r := by
 have rc : ∀ {c}, pdV x = some c -> ∃ as, Reads s.heap a c as := fun h2 => ra.reads ok I (by rw [zbm h2]; rfl)
 refine zaG he (fun h => bd_e h fun p h1 h => bd_e h fun k h2 h => ?r) fun h => bd_e h fun d e2 h => zaG h (fun h => bd_e h fun l h1 h => bd_e h fun c h2 h => inL_m h fun hz => ?l) fun h => zaG h (fun h => bd_e h fun l h1 h => bd_e h fun c h2 h => inL_m h fun hz => ?t) fun h => bd_e h fun l h1 h => bd_e h fun k h2 h => ?d
 case r =>
  obtain ⟨q, z⟩ := zdo h1
  obtain ⟨da, es, n, rfl, _, _, e1, e2, e3⟩ := (q ▸ rb).refDict ok I z
  exact zfa I (zch h2 ▸ ra) e1 e2 e3 (Option.some.inj h)
 case l =>
  obtain ⟨as, r1⟩ := rc h2
  obtain ⟨bs, r2⟩ := rb.reads ok I (zbI h1 ▸ e2)
  exact ⟨in_list_reads r2 r1 hz.2.1 hz.1 (zcx room hz.2.2) (zap I), notIn_list_reads r2 r1 hz.2.1 hz.1 (zcx room hz.2.2) (zap I)⟩
 case t =>
  obtain ⟨as, r1⟩ := rc h2
  obtain ⟨bs, r2⟩ := rb.reads ok I (zdd h1 ▸ e2)
  exact ⟨in_tuple_reads r2 r1 hz.2.1 hz.1 (zcx room hz.2.2) (zap I), notIn_tuple_reads r2 r1 hz.2.1 hz.1 (zcx room hz.2.2) (zap I)⟩
 case d =>
  have e2 := zc0 h1 ▸ e2
  refine rb.rdK e2 (fun rb => ?_) fun i rb e2 => zdi e2 (fun l _ q => by cases q) fun l' ds z hk q => ?_
  ·obtain ⟨da, es, n, kv, rfl, _, e1, e2, e3, e4, _⟩ := rb.pdDict
   exact zfa I (zch h2 ▸ ra) e1 e2 e3 (by rw [e4, ← Option.some.inj h]; cases zda k l <;> rfl)
  ·cases q
   obtain ⟨da, es, n, rfl, _, _, e1, e2, e3⟩ := rb.refDict ok I z
   exact zfa I (zch h2 ▸ ra) e1 e2 e3 ((zlB hk).trans (Option.some.inj h))
theorem zhq {f : Int -> Int -> Bool} {co : CmpOp} {a b : Value} {x y : V} {p q : PyData} {r : Bool} (ra : VR S s.heap g a x) (rb : VR S s.heap g b y) (e1 : rd σ x = some p) (e2 : rd σ y = some q) (h : ordP f p q = some r) (k : ∀ i t j u, wpAny S.M A (compareOp co (.int i t) (.int j u)) (Is S fr g σ s (.pd (.bool (f i j)))) Ev s) : wpAny S.M A (compareOp co a b) (Is S fr g σ s (.pd (.bool r))) Ev s := by
 refine b2_e h fun i j h1 h2 h => some_m h ?_
 refine ra.intK e1 h1 fun t => ?_
 exact rb.intK e2 h2 fun t' => k i t j t'
theorem zaQ {P : Params} {h : Heap} {κ : Addr -> Kd} : ∀ {vs : List Value} {l : List PyData} {ns : List Int}, PVs P h κ vs l -> zbb l = some ns -> IntsAre vs ns
 | [], l, ns, p, e => by cases p; cases e; exact .nil
 | v :: vs, l, ns, p, e => by
  cases p with
  | cons a r =>
   refine bd_e e fun i hi e => zbe e fun q hq e => ?_
   subst e
   obtain rfl := zen hi
   cases a with
   | int i t => exact .cons _ _ (zaQ r hq)
theorem zdm {a : Value} {x : V} {p : PyData} (ra : VR S s.heap g a x) (e : rd σ x = some p) : (a == Value.none) = isN p := by
 refine ra.rdK e (fun ra => ?_) fun i ra e => ?_
 ·have r := zbN ra
  cases r <;> rfl
 ·obtain ⟨rfl, _⟩ := zd1 ra
  exact zdi e (fun l _ q => q ▸ rfl) fun l ds _ _ q => q ▸ rfl
theorem zna {co : CmpOp} {f : Bool -> Bool} {a b : Value} {x y : V} {p q : PyData} {r : Bool} (I : Inv S fr g σ s.heap) (ra : VR S s.heap g a x) (rb : VR S s.heap g b y) (e1 : rd σ x = some p) (e2 : rd σ y = some q) (h : isP p q = some r)
  (k : ∀ Q : Value -> Shared -> Prop, Q (.bool (f (a == Value.none))) s -> wpAny S.M A (compareOp co a .none) Q Ev s) : wpAny S.M A (compareOp co a b) (Is S fr g σ s (.pd (.bool (f r)))) Ev s := by
 refine gd_m h fun hn => ?_
 have hb : b = Value.none := beq_iff_eq.mp ((zdm rb e2).trans hn)
 rw [hb]
 refine k _ ?_
 rw [zdm ra e1]; exact zap I
theorem zov {a b : Value} {x y : V} {p q : PyData} {r : Bool} (room : Room A) (I : Inv S fr g σ s.heap) (ra : VR S s.heap g a x) (rb : VR S s.heap g b y) (e1 : rd σ x = some p) (e2 : rd σ y = some q) (h : ltP p q = some r) : wpAny S.M A (compareOp .Lt a b) (Is S fr g σ s (.pd (.bool r))) Ev s := by
 refine zaG h (fun h => b2_e h fun u w h1 h2 h => some_m h ?_) fun h => zaG h (fun h => b2_e h fun u w h1 h2 h => bd_e h fun ns q1 h => bd_e h fun ms q2 h => gd_m h fun _ => ?_) fun h => b2_e h fun i j h1 h2 h => some_m h ?_
 ·refine ra.strK e1 h1 fun t => ?_
  exact rb.strK e2 h2 fun t' => PySem.P.lt_str (zap I)
 ·refine ra.tupK e1 h1 fun l vs hl rt pl z1 => ?_
  refine rb.tupK e2 h2 fun l' ws hl' rt' pl' z2 => ?_
  exact zjk (Nat.lt_of_le_of_lt (Nat.le_add_right _ 64) (zdh room)) hl hl' (zaQ pl q1) (zaQ pl' q2) (zap I)
 ·refine ra.numK (P := fun a i => wpAny S.M A (compareOp .Lt a b) (Is S fr g σ s (.pd (.bool (decide (i < j))))) Ev s) e1 h1 (fun i t => ?_) fun c => ?_
  ·exact rb.numK (P := fun b j => wpAny S.M A (compareOp .Lt (.int i t) b) (Is S fr g σ s (.pd (.bool (decide (i < j))))) Ev s) e2 h2 (fun j u => PySem.P.lt_int (zap I)) fun b => zow (zap I)
  ·exact rb.numK (P := fun b j => wpAny S.M A (compareOp .Lt (.bool c) b) (Is S fr g σ s (.pd (.bool (decide ((if c = true then 1 else 0) < j))))) Ev s) e2 h2 (fun j u => zox (zap I)) fun b => lt_bool (zap I)
theorem zli (ok : StaOk S) {a b : Value} {x y : V} {d : PyData} {co : CmpOp} (room : Room A) (I : Inv S fr g σ s.heap) (ra : VR S s.heap g a x) (rb : VR S s.heap g b y) (he : evOp (ziv co) x y σ = some d) :
  wpAny S.M A (compareOp co a b) (Is S fr g σ s (.pd d)) Ev s := by
 cases co with
 | Eq => exact zbr (o := .eq) nofun nofun he fun p q e1 e2 h => map_m h fun r h => (zj9 ok room I ra rb e1 e2 h).1
 | NotEq => exact zbr (o := .ne) nofun nofun he fun p q e1 e2 h => map_m h fun r h => (zj9 ok room I ra rb e1 e2 h).2
 | Lt => exact zbr (o := .lt) nofun nofun he fun p q e1 e2 h => map_m h fun r h => zov room I ra rb e1 e2 h
 | LtE => exact zbr (o := .le) nofun nofun he fun p q e1 e2 h => map_m h fun r h => zhq ra rb e1 e2 h fun i t j u => PySem.P.le_int (zap I)
 | Gt => exact zbr (o := .gt) nofun nofun he fun p q e1 e2 h => map_m h fun r h => zhq ra rb e1 e2 h fun i t j u => PySem.P.gt_int (zap I)
 | GtE => exact zbr (o := .ge) nofun nofun he fun p q e1 e2 h => map_m h fun r h => zhq ra rb e1 e2 h fun i t j u => PySem.P.ge_int (zap I)
 | Is => exact zbr (o := .is) nofun nofun he fun p q e1 e2 h => map_m h fun r h => zna (f := id) I ra rb e1 e2 h fun Q hq => is_none_gen hq
 | IsNot => exact zbr (o := .isnot) nofun nofun he fun p q e1 e2 h => map_m h fun r h => zna (f := not) I ra rb e1 e2 h fun Q hq => isnot_none_gen hq
 | In => exact map_m he fun r h => (zj8 ok room I ra rb h).1
 | NotIn => exact map_m he fun r h => (zj8 ok room I ra rb h).2
theorem zlk (ok : StaOk S) : OpsOk S := ⟨fun r I a b o e => zlj ok I a b o e, fun r I a b e => zli ok r I a b e⟩
end
section
variable {S : Sta} {fr : List Env} {A : Around} {g : Gh} {σ : Hp} {s : Shared} {d : V} {Ev : Value -> Shared -> Prop}
theorem zbT {o : Value} {T id : String} {Q : Bool -> Shared -> Prop} {M : Model} (hT : s.TypeIs o T) (hl : typeLookup (.type T) "__getitem__" = pure (some (.builtin id))) (h : Q false s) : wpAny M A (getitemInPython o) Q Ev s := by
 rw [getitemInPython_of_ne hT.not_modules]
 exact wpAny_bind (wpAny_specialOf hT hl (wpAny_pure h))
structure IdxAt (l : List PyData) (i : Int) (w : PyData) (j : Nat) : Prop where
 h1 : seqIndex? i l.length = some j
 h2 : l[j]? = some w
 h3 : -(2 ^ 63) <= i
 h4 : i < 2 ^ 63
 h5 : 0 <= i -> j = i.toNat
 h6 : i < 0 -> j = (i + l.length).toNat /\ -(l.length : Int) <= i
theorem zfL {l : List PyData} {i : Int} {w : PyData} (h : idx l i = some w) : ∃ j, IdxAt l i w j := by
 have hb : -(l.length : Int) <= i /\ i < l.length /\ l.length <= sizeLine := Classical.byContradiction fun q => by cases (if_neg q).symm.trans h
 have h := (if_pos hb).symm.trans h
 obtain ⟨h1, h2, h3⟩ := hb
 rw [sizeLine_eq] at h3
 refine ⟨_, ?_, h, Int.le_trans (Int.le_trans (by decide) (Int.neg_le_neg (Int.ofNat_le.mpr h3))) h1, Int.lt_of_lt_of_le h2 (Int.le_trans (Int.ofNat_le.mpr h3) (by decide)), fun h0 => ?_, fun h0 => ?_⟩
 ·unfold seqIndex?
  by_cases hn : i < 0
  ·simp only [hn, if_true]; rw [if_pos]; simp; exact ⟨by have := Int.add_le_add_right h1 l.length; rwa [Int.add_left_neg] at this, by have := Int.add_lt_add_right hn l.length; rwa [Int.zero_add] at this⟩
  ·simp only [hn, if_false]; rw [if_pos]; simp; exact ⟨Int.not_lt.mp hn, h2⟩
 ·rw [if_neg (Int.not_lt.mpr h0)]
 ·exact ⟨by rw [if_pos h0], h1⟩
theorem PVs.getA {P : Params} {h : Heap} {κ : Addr -> Kd} {vs : Array Value} {l : List PyData} (p : PVs P h κ vs.toList l) {j : Nat} {w : PyData} (e : l[j]? = some w) : ∃ v, vs[j]? = some v /\ PV P h κ v w := by
 obtain ⟨v, h1, h2⟩ := p.get e
 exact ⟨v, by simpa using h1, h2⟩
theorem ziG {v : Value} {x : V} {d : PyData} {l : List PyData} {i : Int} {u : Tok} {w : PyData} (I : Inv S fr g σ s.heap) (r : VR S s.heap g v x) (e : rd σ x = some d) (q : zbC d = some l) (hi : idx l i = some w) :
  wpAny S.M A (getItem v (.int i u)) (Is S fr g σ s (.pd w)) Ev s := by
 refine r.listK I e q fun a vs hl p hlen => ?_
 obtain ⟨j, J⟩ := zfL hi
 obtain ⟨y, h8, h9⟩ := p.getA J.h2
 by_cases hn : i < 0
 ·refine wpAny_getItem_list_neg hl hn (by rw [hlen]; exact (J.h6 hn).2) J.h3 ?_ (zbJ I (.pd h9))
  rw [hlen, ← (J.h6 hn).1]; exact h8
 ·refine wpAny_getItem_list hl (Int.not_lt.mp hn) J.h4 ?_ (zbJ I (.pd h9))
  rw [← J.h5 (Int.not_lt.mp hn)]; exact h8
theorem zkC {v : Value} {x : V} {d : PyData} {l : List PyData} {i : Int} {u : Tok} {w : PyData} (I : Inv S fr g σ s.heap) (r : VR S s.heap g v x) (e : rd σ x = some d) (q : tupP d = some l) (hi : idx l i = some w) :
  wpAny S.M A (getItem v (.int i u)) (Is S fr g σ s (.pd w)) Ev s := by
 refine r.tupK e q fun a vs hl _ p hlen => ?_
 obtain ⟨j, J⟩ := zfL hi
 obtain ⟨y, h8, h9⟩ := p.getA J.h2
 exact PyProof.Rows.getItem_tuple hl J.h3 J.h4 (by rw [hlen]; exact J.h1) h8 (zbJ I (.pd h9))
theorem zfr {da : Addr} {es : List DictEntry} {n : Nat} {kv : List (Str × V)} {k : Str} {t : Tok} {z : V} (I : Inv S fr g σ s.heap) (e1 : s.heap.get? da = some ⟨.type "dict", none, .dict es.toArray n, #[]⟩) (e2 : VEs S s.heap g es kv) (e3 : zbf k kv = some z) : wpAny S.M A (getItem (.ref da) (.str k t)) (Is S fr g σ s z) Ev s := by
 rcases zgA e2 k with ⟨v, x, h1, h2, h3⟩ | ⟨h1, h2⟩
 ·rw [h2] at e3; cases e3
  exact wpAny_getItem_of (knd := zb4 S) (k := k) (beq_self_eq_true k) (zdr e1 e2) h1 (zca I h3)
 ·rw [h2] at e3; cases e3
theorem zkE (ok : StaOk S) {a b : Value} {x y z : V} (I : Inv S fr g σ s.heap) (ra : VR S s.heap g a x) (rb : VR S s.heap g b y) (he : zai σ x y = some z) : wpAny S.M A (getItem a b) (Is S fr g σ s z) Ev s := by
 refine zaG he (fun h => bd_e h fun k hk h => ?_) fun h => bd_e h fun i hi h => bd_e h fun d e h => ?_
 ·obtain ⟨t, rfl⟩ := zfq (zch hk ▸ rb)
  refine zaG h (fun h => bd_e h fun p hp h => ?_) fun h => bd_e h fun l hl h => bd_e hl fun d hp hd => ?_
  ·obtain ⟨q, z'⟩ := zdo hp
   obtain ⟨da, es, n, rfl, _, _, e1, e2, e3⟩ := (q ▸ ra).refDict ok I z'
   exact zfr I e1 e2 h
  ·have ra : VR S s.heap g a (.pd (.dict l)) := by rw [← zc0 hd, ← zbm hp]; exact ra
   obtain ⟨da, es, n, kv, rfl, _, e1, e2, e3, e4, _⟩ := ra.pdDict
   exact zfr I e1 e2 (by rw [e4]; exact h)
 ·obtain ⟨t, rfl⟩ := zbD (zbF hi ▸ rb)
  refine zaG h (fun h => bd_e h fun l hl h => ?_) fun h => bd_e h fun l hl h => ?_
  ·refine map_m h fun w hw => ?_
   exact ziG I ra e hl hw
  ·refine map_m h fun w hw => ?_
   exact zkC I ra e hl hw
theorem zlX {P : Params} {h : Heap} {κ : Addr -> Kd} {vs : Array Value} {l : List PyData} (p : PVs P h κ vs.toList l) (lo hi : Option Int) : PVs P h κ (slicePick vs lo hi none).toList (cut l lo hi) := by
 rw [slicePick_plain]
 have e : vs.size = l.length := by have := p.length; simpa using this
 simp only [cut, e]
 exact (p.drop _).take _
theorem zcK {sl : Addr} {vl vu vs : Value} {lo hi st : Option Int} {n : Nat} {Q : Int × Int × Nat -> Shared -> Prop} (hs : s.heap.IsSliceOf sl vl vu vs) (pl : IsPart vl lo) (pu : IsPart vu hi) (ps : IsPart vs st) (h0 : (st.getD 1 == 0) = false)
  (h : Q ((Builtin.Slice.sliceAdjust lo hi (st.getD 1) n).1, st.getD 1, Builtin.Slice.slicePlaces (Builtin.Slice.sliceAdjust lo hi (st.getD 1) n).1 (Builtin.Slice.sliceAdjust lo hi (st.getD 1) n).2 (st.getD 1)) s) :
  wpAny (model S.prog S.w) A (Builtin.Slice.sliceApplied (.ref sl) (pure (n : Int))) Q Ev s := by
 have part : ∀ {v k} {R : Option Int -> Shared -> Prop}, IsPart v k -> R k s -> wpAny (model S.prog S.w) A (Builtin.Slice.slicePartIndex v) R Ev s := by
  intro v k R p r
  cases p with
  | none => exact slicePart_none r
  | int i t => exact slicePart_int r
 obtain ⟨os, hos, hcs, hds⟩ := id hs
 unfold Builtin.Slice.sliceApplied Builtin.Slice.sliceFields
 refine wpAny_bind (wpAny_bind (wpAny_field hos hds (x := vl) rfl (wpAny_bind (wpAny_field hos hds (x := vu) rfl (wpAny_bind (wpAny_field hos hds (x := vs) rfl (wpAny_pure ?_)))))))
 refine wpAny_bind (part ps ?_)
 show wpAny _ _ (if (st.getD 1 == 0) = true then _ else _) _ _ s
 rw [if_neg (by rw [h0]; decide)]
 refine wpAny_bind (part pl (wpAny_bind (part pu (wpAny_bind (wpAny_pure ?_)))))
 exact wpAny_pure h
theorem zcb {t sl : Addr} {items : Array Value} {vl vu vs : Value} {lo hi st : Option Int} {Q : Value -> Shared -> Prop} {a b c : Int} {k : Nat} (ht : IsTup s.heap t items) (hs : s.heap.IsSliceOf sl vl vu vs) (pl : IsPart vl lo) (pu : IsPart vu hi) (ps : IsPart vs st) (h0 : (st.getD 1 == 0) = false)
  (ea : Builtin.Slice.sliceAdjust lo hi (st.getD 1) items.size = (a, b)) (ec : st.getD 1 = c) (ek : Builtin.Slice.slicePlaces a b c = k)
  (hw : (a == 0 && c == 1 && k == items.size) = true -> Q (.ref t) s)
  (h : Q (.ref s.heap.objs.size) { s with heap := s.heap.push { cls := .type "tuple", data := .seq ((List.range k).filterMap fun (j : Nat) => items[(a + (j : Int) * c).toNat]?).toArray } })
  (hz : k <= sizeLine) : wpAny (model S.prog S.w) A (getItem (.ref t) (.ref sl)) Q Ev s := by
 subst ec
 have hsz : sizeOk (.seq ((List.range k).filterMap fun (j : Nat) => items[(a + (j : Int) * (st.getD 1)).toNat]?).toArray) := by
  show ((List.range k).filterMap fun (j : Nat) => items[(a + (j : Int) * (st.getD 1)).toNat]?).toArray.size <= sizeLine
  rw [List.size_toArray]
  exact Nat.le_trans (List.length_filterMap_le _ _) (by rw [List.length_range]; exact hz)
 obtain ⟨os, hos, hcs, hds⟩ := id hs
 have hTs : s.TypeIs (.ref sl) "slice" := ⟨os, hos, hcs⟩
 unfold getItem
 try with_reducible refine wpAny_holding ?_
 first | refine wpAny_bind (wpAny_pure ?_) | skip
 refine wpAny_bind (wpAny_sequenceKey ht.typeIs (by decide) ?_)
 refine wpAny_bind (wpAny_callSpecial?_slot (name := Str.ofString "__getitem__") ht.typeIs slot_tuple_getitem
  (wpAny_call_entry slot_tuple_getitem ht.typeIs entry_tuple_getitem ?_ (args_tuple_getitem _ _)))
 show wpAny _ _ (Builtin.Tuple.tupleItemsOf (.ref t) >>= _) _ _ s
 refine wpAny_bind (tupleItemsOf_ ht ?_)
 refine wpAny_bind (wpAny_typeOf hTs ?_)
 rw [if_pos (by decide)]
 refine wpAny_bind (zcK hs pl pu ps h0 ?_)
 rw [ea, ek]
 show wpAny _ _ (if (a == 0 && st.getD 1 == 1 && k == items.size) = true then _ else _) _ _ s
 have tail : wpAny (model S.prog S.w) A.in1 (Builtin.Tuple.tupleExact ((List.range k).filterMap fun (j : Nat) => items[(a + (j : Int) * (st.getD 1)).toNat]?).toArray) (fun v s' => Q v s') Ev s := wpAny_newObj_type h hsz
 split
 ·rename_i q
  unfold Builtin.Tuple.tupleIsExact
  refine wpAny_bind (wpAny_bind (wpAny_typeOf ht.typeIs (wpAny_pure ?_)))
  rw [if_pos (by decide)]
  first
   | exact wpAny_bind (wpAny_rule (wpAny_bind (wpAny_pure (wpAny_pure ⟨_, rfl, wpAny_pure (hw q)⟩))))
   | exact wpAny_bind (wpAny_rule (wpAny_bind (wpAny_pure ⟨_, rfl, wpAny_pure (hw q)⟩)))
   | exact wpAny_bind (wpAny_rule (wpAny_pure ⟨_, rfl, wpAny_pure (hw q)⟩))
 ·first
   | exact wpAny_bind (wpAny_mono tail (fun v s' q => wpAny_pure ⟨_, rfl, wpAny_pure q⟩) fun _ _ q => q)
   | exact wpAny_bind (wpAny_mono tail (fun v s' q => wpAny_bind (wpAny_pure (wpAny_pure ⟨_, rfl, wpAny_pure q⟩))) fun _ _ q => q)
theorem zks {i : Int} (n : Nat) (h : 0 <= i) : (if i < 0 then max (i + n) (if (1 : Int) < 0 then -1 else 0) else min i (if (1 : Int) < 0 then (n : Int) - 1 else n)) = ((clipAt n i : Nat) : Int) := by
 have e : ¬ i < 0 := Int.not_lt.mpr h
 rw [if_neg e, if_neg (by decide), clipAt_cast, if_neg e]
 exact (Int.max_eq_right (Int.le_min.mpr ⟨h, Int.natCast_nonneg n⟩)).symm
theorem zeP {lo hi : Option Int} {n : Nat} (h1 : zfE lo = true) (h2 : zfE hi = true) : Builtin.Slice.sliceAdjust lo hi 1 (n : Int) = (((lo.elim 0 (clipAt n) : Nat) : Int), ((hi.elim n (clipAt n) : Nat) : Int)) := by
 refine Prod.ext ?_ ?_
 ·cases lo with
  | none => rfl
  | some i => exact zks n (of_decide_eq_true h1)
 ·cases hi with
  | none => rfl
  | some i => exact zks n (of_decide_eq_true h2)
theorem zed {a b : Nat} : Builtin.Slice.slicePlaces (a : Int) (b : Int) 1 = b - a := by
 unfold Builtin.Slice.slicePlaces
 rw [if_pos (by decide), Int.ediv_one]
 by_cases h : a < b
 ·rw [if_pos (Int.ofNat_lt.mpr h), Int.sub_add_cancel]; exact Int.toNat_sub b a
 ·rw [if_neg fun q => h (Int.ofNat_lt.mp q)]; exact (Nat.sub_eq_zero_of_le (Nat.le_of_not_lt h)).symm
theorem zlY (n : Nat) (i : Option Int) : (i.elim n (clipAt n)) <= n := by
 cases i with
 | none => exact Nat.le_refl _
 | some i => exact Int.ofNat_le.mp (by show ((clipAt n i : Nat) : Int) <= _; rw [clipAt_cast]; exact Int.max_le.mpr ⟨Int.natCast_nonneg n, Int.min_le_right _ _⟩)
theorem zkF (ok : StaOk S) {a : Value} {x : V} {d : PyData} {lo hi : Option Int} {sl : Addr} {vl vu : Value} (I : Inv S fr g σ s.heap) (ra : VR S s.heap g a x) (hs : s.heap.IsSliceOf sl vl vu .none) (pl : IsPart vl lo) (pu : IsPart vu hi) (he : zff σ x lo hi = some d) :
  wpAny S.M A (getItem a (.ref sl)) (Is S fr g σ s (.pd d)) Ev s := by
 refine bd_e he fun d e h => zaG h (fun h => bd_e h fun l hl h => ?_) fun h => bd_e h fun l hl h => ?_
 ·refine gd_m h fun hz => ?_
  refine ra.listK I e hl fun a vs hl p hlen => ?_
  exact wpAny_getItem_list_slice hl hs pl pu .none (by simp) (znb (k := s.toks) ok I (zlX p lo hi)) (by rw [hlen]; exact hz)
 ·refine gd_m h fun hz => ?_
  refine ra.tupK e hl fun a vs hl ra p hlen => ?_
  refine zcb (c := 1) hl hs pl pu .none rfl (zeP (n := vs.size) hz.2.1 hz.2.2) rfl zed (fun q => ?_) ?_ (Nat.le_trans (Nat.sub_le _ _) (Nat.le_trans (zlY _ _) (hlen ▸ hz.1)))
  ·simp only [Bool.and_eq_true, beq_iff_eq] at q
   obtain ⟨⟨q1, _⟩, q2⟩ := q
   have q1 : lo.elim 0 (clipAt vs.size) = 0 := by exact_mod_cast q1
   rw [q1, Nat.sub_zero] at q2
   have : cut l lo hi = l := by
    show ((l.drop (lo.elim 0 (clipAt l.length))).take (hi.elim l.length (clipAt l.length) - lo.elim 0 (clipAt l.length))) = l
    rw [← hlen, q1, q2, Nat.sub_zero, hlen]
    exact List.take_length
   rw [this]; exact zbJ I ra
  ·have e2 : ((List.range (hi.elim vs.size (clipAt vs.size) - lo.elim 0 (clipAt vs.size))).filterMap fun (j : Nat) => vs[(((lo.elim 0 (clipAt vs.size) : Nat) : Int) + (j : Int) * 1).toNat]?) = (vs.toList.drop (lo.elim 0 (clipAt vs.size))).take (hi.elim vs.size (clipAt vs.size) - lo.elim 0 (clipAt vs.size)) := by
    rw [← pick_run, List.filterMap_map]
    congr 1
    funext j
    show vs[_]? = vs[lo.elim 0 (clipAt vs.size) + j]?
    rw [Int.mul_one, ← Int.natCast_add]; rfl
   show Is S fr g σ s _ _ { s with heap := s.heap.push { cls := .type "tuple", data := .seq (((List.range _).filterMap _).toArray) } }
   rw [e2]
   refine zhL (k := s.toks) I ?_
   simp only [cut, hlen]
   exact (p.drop _).take _
end
structure KOk (S : Sta) : Prop where
 eGet : ∀ x, plainGet S.K S.cev x = true
 eDict : hasDictIn S.K S.cev = true
 eScope : findIn S.K (.ref S.cev) (Str.ofString "scope") = some none
 xGa : ∀ b, findIn S.K (.ref (S.ec b)) "__getattribute__" = some (some (.builtin "BaseException.__getattribute__"))
 xGn : ∀ b, findIn S.K (.ref (S.ec b)) "__getattr__" = some none
 xSub : ∀ b, mroIn S.K (S.ec b) (.type "BaseException") = some true
 xDict : ∀ b, hasDictIn S.K (S.ec b) = true
 xWhat : ∀ b, findIn S.K (.ref (S.ec b)) (Str.ofString "what") = some none
 xSpot : ∀ b, findIn S.K (.ref (S.ec b)) (Str.ofString "spot") = some none
section
variable {prog : Program} {w : World} {A : Around} {E : Value -> Shared -> Prop} {s : Shared} {K : Frag} {x C : Addr} {ox : Obj} {od : Option Obj} {name : Str} {expr : Bool} {Q : Value -> Shared -> Prop}
theorem zeK {name : Str} {t : Tok} : Builtin.ObjectAttr.attrName (.str name t) = pure name := by rfl
theorem zlK {v : Value} (X : K.In s.heap) (I : InstAt s.heap x ox C od) (hga : findIn K (.ref C) "__getattribute__" = some (some (.builtin "BaseException.__getattribute__"))) (hgn : findIn K (.ref C) "__getattr__" = some none) (hsub : mroIn K C (.type "BaseException") = some true)
  (hf : findObj K C od name = some (.value v)) (hh : handedIn v = true) (h : Q v { s with toks := s.toks + 1 }) : wpAny (model prog w) A (getAttr (.ref x) name expr) Q E s := by
 obtain ⟨hp, gg, d, t, os⟩ := s
 have L0 := I.type (M := model prog w)
 have L1 := looks_findIn (M := model prog w) X hga
 have L2 := looks_findIn (M := model prog w) X hgn
 have L3 := looks_find (M := model prog w) X I hf
 have f3 := PySem.F.attr_Exception.ga.bind (.ref x)
 have hx0 : (expr && onTheHeap (Value.builtin "BaseException.__getattribute__")) = false := by cases expr <;> rfl
 have hx1 : (onTheHeap (Value.ref C) && Value.builtin "BaseException.__getattribute__" == Value.builtin "object.__getattribute__") = false := by
  have : (Value.builtin "BaseException.__getattribute__" == Value.builtin "object.__getattribute__") = false := by decide +kernel
  rw [this]; rfl
 unfold getAttr getAttrBy
 refine wpAny_bind (wpAny_mkText (wpAny_holding (wpAny_bind (L0.at (wpAny_bind (L1.at ?_))))))
 dsimp only
 rw [hx1, if_neg Bool.false_ne_true]
 unfold getAttrByItsOwn hookBefore
 refine wpAny_bind ?_
 show wpAny _ _ (typeLookup (.ref C) "__getattr__") _ _ _
 refine L2.at ?_
 refine wpAny_bind (wpAny_attempt (wpAny_holding ?_))
 unfold callGetattribute
 rw [hx0, if_neg Bool.false_ne_true]
 unfold boundAndCalled
 refine wpAny_bind (wpAny_of_eq f3 ?_)
 refine wpAny_call ?_
 show codeAny (model prog w) A (.call (.builtin "BaseException.__getattribute__") ⟨[.ref x, .str name t], []⟩) _ _
 have hk : builtinKind "BaseException.__getattribute__" = some .slot := by decide +kernel
 have hs : splitId "BaseException.__getattribute__" = some ("BaseException", "__getattribute__") := by decide +kernel
 refine codeAny_call_builtin PySem.F.attr_Exception.ga.plain PySem.F.entry_bexc_ga (@check_slot (model prog w) _ _ ⟨hp, gg, d, t + 1, os⟩ "BaseException.__getattribute__" "BaseException" "__getattribute__" (.ref x) [.str name t] [] _ hk hs (L0.andThen (looks_mroIn X hsub)) (PySem.F.args_bexc_ga (.ref x) (.str name t)) ?_)
 unfold Builtin.«object.__getattribute__»
 refine wpAny_bind (m := slotArgs "__getattribute__" 1 _) (wpAny_pure ?_)
 refine wpAny_bind (wpAny_of_eq zeK (wpAny_bind (L0.at (wpAny_bind (L3.at ?_)))))
 show wpAny _ _ (ret v) _ _ _
 refine wpAny_pure ?_
 show wpAny _ _ (handedOut v) _ _ _
 rw [handedOut_of hh]; exact wpAny_pure h
end
section
variable {S : Sta} {fr : List Env} {A : Around} {g : Gh} {σ : Hp} {s : Shared} {Ev : Value -> Shared -> Prop}
theorem zlv {h : Heap} {a : Addr} {mp : Str -> Option Value} {name : Str} {v : Value} (n : h.Ns a mp) (e : mp name = some v) : ∃ o, h.get? a = some o /\ lookIn name o = some (some v) := by
 obtain ⟨o, es, ep, ho, hd, _, hf⟩ := n
 refine ⟨o, ho, ?_⟩
 have := hf name
 rw [e] at this
 unfold nsFind findBy at this
 obtain ⟨en, h1, h2⟩ := Option.map_eq_some_iff.mp this
 have h1 : es.find? (fun e => e.key.isStr name) = some en := h1
 unfold lookIn
 rw [hd]
 dsimp only
 rw [Array.find?_toList, h1]
 exact congrArg (fun z => some (some z)) h2
theorem zd2 {h : Heap} {v : Value} {x : V} (r : VR S h g v x) : handedIn v = true := by
 cases r with
 | pd p => cases p <;> rfl
 | _ => rfl
theorem kIn (ok : StaOk S) (I : Inv S fr g σ s.heap) : S.K.In s.heap := fun a o e => I.stays _ _ (ok.K a o e)
theorem zgJ (ok : StaOk S) (ko : KOk S) {a : Value} {sc : V} (I : Inv S fr g σ s.heap) (r : VR S s.heap g a (.evr sc)) : wpAny S.M A (getAttr a (Str.ofString "scope") true) (Is S fr g σ s sc) Ev s := by
 cases r with
 | evr k1 k2 e1 e2 hk hh r =>
  rename_i a dx e t n
  have II : InstAt s.heap a (instObj S.cev dx) S.cev (some (dictOf [e] n)) := ⟨e1, rfl, rfl, e2⟩
  refine get_value (kIn ok I) II (plainGet_of (ko.eGet (Str.ofString "scope"))).1 (findObj_own (v := e.val) ko.eDict ko.eScope rfl ?_) (zd2 r) (zca I r)
  unfold lookIn
  have : e.key.isStr (Str.ofString "scope") = true := by rw [hk]; exact beq_self_eq_true _
  simp [this]
theorem zgK (ok : StaOk S) (ko : KOk S) {ea : Addr} {e : Exc} {b : Bool} {y : Str} {Y : Addr -> Prop} (I : Inv S fr g σ s.heap) (x : FaultAt S Y s.heap g ea e) (hy : zcW y = some b) (hb : b = true -> e.lim = false) :
  wpAny S.M A (getAttr (.ref ea) y true) (Is S fr g σ s (.pd (if b then e.spot else .str e.what))) Ev s := by
 obtain ⟨kd, nx, oe, vs, dx, mp, h1, h2, h3, h4, h6, h7, ⟨v1, h8, h9⟩, h10⟩ := x
 have key : ∀ name v d, mp name = some v -> PV S.w.params s.heap g.κ v d -> findIn S.K (.ref (S.ec e.lim)) name = some none -> wpAny S.M A (getAttr (.ref ea) name true) (Is S fr g σ s (.pd d)) Ev s := by
  intro name v d e1 e2 e3
  obtain ⟨od, h11, h12⟩ := zlv h7 e1
  have I' : InstAt s.heap ea oe (S.ec e.lim) (some od) := ⟨h1, h2, by unfold notCls; rw [h4], by rw [h3]; exact h11⟩
  exact zlK (kIn ok I) I' (ko.xGa _) (ko.xGn _) (ko.xSub _) (findObj_own (ko.xDict _) e3 rfl h12) (zd2 (S := S) (g := g) (h := s.heap) (.pd e2)) (zca I (.pd e2))
 rcases List.mem_cons.mp (zaB hy) with q | q
 ·cases q; exact key _ _ _ h8 h9 (ko.xWhat _)
 ·rcases List.mem_cons.mp q with q | q
  ·cases q
   obtain ⟨v, h11, h12⟩ := h10 (hb rfl)
   exact key _ _ _ h11 h12 (ko.xSpot _)
  ·cases q
theorem zgL (ok : StaOk S) (ko : KOk S) : SubOk S := by
 refine ⟨fun r I v hs => ?_, fun r I a b e => zkE ok I a b e, fun r I a h1 h2 h3 h4 => zkF ok I a h1 h2 h3 h4, fun r I v => zgJ ok ko I v, fun r I x h1 h2 => zgK ok ko I x h1 h2⟩
 rename_i A fr g σ s a x Ev
 cases hs with
 | l l e =>
  obtain ⟨a, vs, rfl, hl, p⟩ := v.isList I e
  exact zbT hl.typeIs slot_list_getitem.lookup ⟨rfl, rfl⟩
 | t l e =>
  obtain ⟨a, vs, rfl, hl, p⟩ := v.isTup e
  exact zbT hl.typeIs slot_tuple_getitem.lookup ⟨rfl, rfl⟩
 | r i l q e =>
  obtain ⟨da, es, n, rfl, _, _, e1, e2, e3⟩ := (q ▸ v).refDict ok I e
  exact zbT (zdr e1 e2).typeIs slot_dict_getitem.lookup ⟨rfl, rfl⟩
 | d l q =>
  obtain ⟨da, es, n, kv, rfl, _, e1, e2, e3, _⟩ := (q ▸ v).pdDict
  exact zbT (zdr e1 e2).typeIs slot_dict_getitem.lookup ⟨rfl, rfl⟩
end
inductive RKv (S : Sta) (h : Heap) (g : Gh) : List (Str × Value) -> List (Str × V) -> Prop
 | nil : RKv S h g [] []
 | cons {k : Str} {v : Value} {x : V} {vs : List (Str × Value)} {xs : List (Str × V)} : VR S h g v x -> RKv S h g vs xs -> RKv S h g ((k, v) :: vs) ((k, x) :: xs)
section
variable {S : Sta} {h h' : Heap} {g g' : Gh}
theorem RKv.mono {vs : List (Str × Value)} {xs : List (Str × V)} (u : Up g g' h h') (r : RKv S h g vs xs) : RKv S h' g' vs xs := by
 induction r with
 | nil => exact .nil
 | cons a _ ih => exact .cons (a.mono u) ih
theorem RKv.keys {vs : List (Str × Value)} {xs : List (Str × V)} (r : RKv S h g vs xs) : vs.map (·.1) = xs.map (·.1) := by
 induction r with
 | nil => rfl
 | cons a _ ih => simp [ih]
theorem zkg {vs : List (Str × Value)} {xs : List (Str × V)} (r : RKv S h g vs xs) : ∀ {es : List DictEntry}, (∀ e ∈ es, ∃ k, Value.isStrOf k e.key = true /\ e.hash = hashStr S.w k) -> Pairs (zb4 S) es vs -> (xs.map (·.1)).Nodup -> VEs S h g es xs := by
 induction r with
 | nil => intro es _ p _; cases p; exact .nil
 | @cons k v x vs xs a r ih =>
  intro es hk p hn
  cases p with
  | @cons e kv es kvs p1 p2 p3 =>
   have p1 : Value.isStrOf k e.key = true := p1
   have p2 : e.val = v := p2
   obtain ⟨t', hkey⟩ := Value.isStrOf_shape p1
   rw [List.map_cons, List.nodup_cons] at hn
   refine .cons (t := t') hkey ?_ (p2 ▸ a) (fun e' he' => ?_) (ih (fun e' he' => hk e' (.tail _ he')) p3 hn.2)
   ·obtain ⟨k', h1, h2⟩ := hk e (.head _)
    have := Value.isStrOf_inj _ _ _ h1 p1
    subst this
    exact h2
   ·cases hz : e'.key.isStr k with
    | false => rfl
    | true =>
     refine absurd ?_ hn.1
     have hm : ∀ {es : List DictEntry} {kvs : List (Str × Value)}, Pairs (zb4 S) es kvs -> e' ∈ es -> k ∈ kvs.map (·.1) := by
      intro es kvs p
      induction p with
      | nil => intro h; cases h
      | @cons e kv es kvs q1 q2 q3 ih2 =>
       intro h
       rcases List.mem_cons.mp h with rfl | h
       ·have hz' : Value.isStrOf k e'.key = true := by
         revert hz; cases e'.key <;> intro hz <;> first | exact hz | cases hz
        have : kv.1 = k := Value.isStrOf_inj _ _ _ q1 hz'
        rw [List.map_cons, this]; exact .head _
       ·exact .tail _ (ih2 h)
     have := hm p3 he'
     rwa [r.keys] at this
theorem zj0 {es : List DictEntry} {xs : List (Str × V)} (r : VEs S h g es xs) : ∃ vs, RKv S h g vs xs /\ Pairs (zb4 S) es vs /\ (xs.map (·.1)).Nodup := by
 induction r with
 | nil => exact ⟨[], .nil, .nil, List.nodup_nil⟩
 | @cons e es k t x kvs a b c d r ih =>
  obtain ⟨vs, h1, h2, h3⟩ := ih
  have hk : Value.isStrOf k e.key = true := by rw [a]; exact beq_self_eq_true k
  refine ⟨(k, e.val) :: vs, .cons c h1, .cons hk rfl h2, ?_⟩
  rw [List.map_cons, List.nodup_cons]
  refine ⟨fun hm => ?_, h3⟩
  have : ∀ {es : List DictEntry} {xs : List (Str × V)}, VEs S h g es xs -> k ∈ xs.map (·.1) -> ∃ e' ∈ es, e'.key.isStr k = true := by
   intro es xs r
   induction r with
   | nil => intro h; cases h
   | @cons e es k' t x kvs a b c d r ih2 =>
    intro hm
    rw [List.map_cons, List.mem_cons] at hm
    rcases hm with rfl | hm
    ·exact ⟨e, .head _, by rw [a]; exact beq_self_eq_true k⟩
    ·obtain ⟨e', q1, q2⟩ := ih2 hm
     exact ⟨e', .tail _ q1, q2⟩
  obtain ⟨e', q1, q2⟩ := this r hm
  rw [d e' q1] at q2; cases q2
end
end Mine.Lake
namespace Mine.Lake
open PySem PySem.W PyProof.Rows
noncomputable abbrev zaR (w : World) : Obj := { cls := .type "set", dict := none, data := .set #[] 0 (.fresh 0 0 (!za3 w)) }
structure Src (prog : Program) (w : World) (l : Addr) (ol : Obj) (T : String) (itO : Obj) (n : Nat) (P : Nat -> Value -> Prop) (St : Addr -> Nat -> Heap -> Prop) : Prop where
 cls : ol.cls = .type T
 s1 : isSubtype (.type T) (.type "set") = pure false
 s2 : isSubtype (.type T) (.type "frozenset") = pure false
 nd : (Value.type T == Value.type "dict") = false
 iter : ∀ {A E} {s : Shared} {Q : Value -> Shared -> Prop}, s.heap.get? l = some ol -> Q (.ref s.heap.objs.size) { s with heap := s.heap.push itO } -> wpAny (model prog w) A (pyIter (.ref l)) Q E s
 walks : ∀ {A : Around} (I : Addr), A.handled = none -> l ≠ I -> Walks prog w A I [I, l] [I] n P (St I)
 st0 : ∀ {h : Heap}, h.get? l = some ol -> St h.objs.size 0 (h.push itO)
section
variable {prog : Program} {w : World} {A : Around} {E : Value -> Shared -> Prop} {s : Shared}
theorem zkX (a : Value) {Q : Value -> Shared -> Prop} (h : Q (.ref s.heap.objs.size) { s with heap := s.heap.push (zaR w) }) :
  codeAny (model prog w) A (.call (.builtin "set.__new__") ⟨[.type "set", a], []⟩) (wants Q E) s := by
 refine codeAny_of_tree ?_
 show wpAny _ A.in1 (do checkBuiltinCall "set.__new__" ⟨[.type "set", a], []⟩; again (.builtin "set.__new__" ⟨[.type "set", a], []⟩)) _ _ s
 refine wpAny_bind (wpAny_of_eq (PySem.F.newCall_set_1 a) (wpAny_pure ⟨plainId_quiet PySem.F.plain_set_new _, codeAny_builtin PySem.F.entry_set_new ?_⟩))
 rw [Around.under_plainId PySem.F.plain_set_new _]
 unfold Builtin.«set.__new__» Builtin.Frozenset.newClass
 have hsub := sub_set_self
 obtain ⟨hp, g, d, tk, os⟩ := s
 dsimp only
 wp_walk
 refine wpAny_askSetting (wpAny_pure ?_)
 dsimp only
 simp only [newObj]
 refine wpAny_bind (wpAny_alloc (wpAny_pure ?_))
 exact wpAny_pure h
theorem zmS : (#[] : Array Nat) = plc 0 := by decide +kernel
theorem SI.nil {h : Heap} (a : Addr) (e : h.get? a = some (zaR w)) : SI prog w h a [] :=
 have G : SetS prog w h a [] := ⟨_, #[], 0, _, 0, e, ⟨rfl, rfl, rfl⟩, rfl, (fun e he => absurd he (by simp)), fun k => by simp, rfl, ⟨rfl, zmS, rfl, by decide, rfl⟩, by decide +kernel, rfl, by decide⟩
 ⟨G.setOf, fun _ => G⟩
theorem ziZ {l : Addr} {ol itO : Obj} {T : String} {n : Nat} {P : Nat -> Value -> Prop} {St : Addr -> Nat -> Heap -> Prop} {Q : Value -> Shared -> Prop} {val : Nat -> Int} (hh : A.handled = none) (W : Src prog w l ol T itO n P St)
  (hol : s.heap.get? l = some ol) (hval : ∀ i v, P i v -> ∃ t, v = .int (val i) t) (hb : n + 1 < scanBound)
  (h : ∀ (h' : Heap) (tk : Nat), SI prog w h' s.heap.objs.size (firstMet val n) -> (∀ b o, s.heap.get? b = some o -> h'.get? b = some o) -> Q (.ref s.heap.objs.size) { s with heap := h', toks := tk }) :
  wpAny (model prog w) A (call (.type "set") [.ref l]) Q E s := by
 obtain ⟨c, tl, hmro⟩ := PySem.F.called_set.mro
 have hmade := PySem.F.called_set.made
 have hsub := PySem.F.called_set.sub
 refine wpAny_call (codeAny_of_tree ?_)
 show wpAny _ _ (callAny (.type "set") _) _ _ _
 refine wpAny_pure ⟨Code.quiet_builtin _ (by decide +kernel), codeAny_builtin PySem.F.entry_type_call ?_⟩
 rw [Around.under_plain (weight_type_call_type "set" [.ref l] []) rfl]
 have h1 := PySem.F.called_set.notType
 have h2 := PySem.F.called_set.canCreate
 have hct := PySem.F.typeCall_set_1 (.ref l)
 repeat (any_goals (first | assumption | wp_step))
 refine codeAny_mono (zkX (.ref l) (E := E) (Q := fun obj s₁ => obj = .ref s.heap.objs.size /\ s₁ = { s with heap := s.heap.push (zaR w) }) ⟨rfl, rfl⟩) fun r s₁ hr => ?_
 cases r with
 | error e => exact hr
 | ok fl =>
  cases fl with
  | ret obj =>
   obtain ⟨rfl, rfl⟩ := hr
   have hS : (s.heap.push (zaR w)).get? s.heap.objs.size = some (zaR w) := Heap.get?_push_size _ rfl
   have hT : Shared.TypeIs { s with heap := s.heap.push (zaR w) } (.ref s.heap.objs.size) "set" := ⟨_, hS, rfl⟩
   have hli := PySem.F.called_set.init.lookup
   have hbi := PySem.F.called_set.init.bind (.ref s.heap.objs.size)
   repeat (any_goals (first | assumption | wp_step))
   refine codeAny_mono (codeAny_call_builtin (R := wants (fun r s₂ => r = .none /\ ∃ h' tk, s₂ = { s with heap := h', toks := tk } /\ SI prog w h' s.heap.objs.size (firstMet val n) /\
     (∀ b o, s.heap.get? b = some o -> h'.get? b = some o)) E) PySem.F.called_set.init.plain PySem.F.entry_set_init (check_set_init_1 hT ?_)) fun r₂ s₂ hr₂ => ?_
   ·have hol' : (s.heap.push (zaR w)).get? l = some ol := Heap.get?_push_of_some _ hol
    have hsls := W.s1
    have hslf := W.s2
    have hne := W.nd
    have hTl : Shared.TypeIs { s with heap := s.heap.push (zaR w) } (.ref l) T := ⟨_, hol', W.cls⟩
    unfold Builtin.«set.__init__» noKeywords Builtin.Frozenset.updateFrom
    generalize hPI : pyIter = PI
    wp_walk
    subst hPI
    refine W.iter hol' ?_
    refine wpAny_bind (wpAny_runValue ?_)
    have hlS : l < s.heap.objs.size := Heap.lt_size hol
    have hh3 : A.in1.in1.in1.handled = none := by simp [hh]
    have hneI : l ≠ (s.heap.push (zaR w)).objs.size := by
     rw [Heap.size_push]; exact Nat.ne_of_lt (Nat.lt_succ_of_lt hlS)
    have hSf : s.heap.objs.size ∉ [(s.heap.push (zaR w)).objs.size, l] := by
     rw [Heap.size_push]; simp only [List.mem_cons, List.not_mem_nil, or_false, not_or]
     exact ⟨Nat.ne_of_lt (Nat.lt_succ_self _), Nat.ne_of_gt hlS⟩
    refine ziU ((W.walks _ hh3 hneI).toS) s.heap.objs.size hSf val hval hb n 0 _ (Nat.sub_zero _) (Nat.zero_le _) (W.st0 hol') ?_ fun s' hm hS' => ?_
    ·exact SI.nil _ (Heap.get?_push_of_some _ hS)
    ·obtain ⟨h', g', d', tk', os'⟩ := s'
     have eg : g' = s.gens := hm.gens
     have ed : d' = s.drawn := hm.drawn
     have eo : os' = s.os := hm.os
     subst eg; subst ed; subst eo
     show wpAny _ _ _ _ _ _
     refine wpAny_pure ?_
     show wpAny _ _ (ret Value.none) _ _ _
     refine wpAny_pure ⟨rfl, h', tk', rfl, hS', fun b o e => ?_⟩
     have hb := Heap.lt_size e
     have hb1 : b ≠ s.heap.objs.size := Nat.ne_of_lt hb
     have hb2 : b ≠ (s.heap.push (zaR w)).objs.size := by
      rw [Heap.size_push]; exact Nat.ne_of_lt (Nat.lt_succ_of_lt hb)
     exact hm.heap b o (by simp only [List.mem_cons, List.not_mem_nil, or_false, not_or]; exact ⟨hb1, hb2⟩) (Heap.get?_push_of_some _ (Heap.get?_push_of_some _ e))
   ·cases r₂ with
    | error e => exact hr₂
    | ok fl₂ =>
     cases fl₂ with
     | ret r =>
      obtain ⟨rfl, h', tk, rfl, hS', hk'⟩ := hr₂
      repeat (any_goals (first | assumption | wp_step))
      exact h _ _ hS' hk'
     | _ => exact hr₂.elim
  | _ => exact hr.elim
theorem ziJ {l : Addr} {ol : Obj} {items : Array Value} {k : Nat} (hc : ol.cls = .type "list") (hd : ol.data = .seq items k) :
  Src prog w l ol "list" { cls := .type "list_iterator", data := .fields #[.ref l, .int 0 0] } items.size (fun i v => items[i]? = some v) (fun I i h => h.IsListIter I l i /\ h.IsList l items) where
 cls := hc
 s1 := PySem.F.sub_list_set
 s2 := PySem.F.sub_list_frozenset
 nd := by decide
 iter := fun e q => wpAny_pyIter_list ⟨_, e, hc, k, hd⟩ q
 walks := fun I hh ne => Walks.list hh I l ne items
 st0 := fun e => ⟨⟨_, Heap.get?_push_size _ rfl, rfl, rfl⟩, ⟨_, Heap.get?_push_of_some _ e, hc, k, hd⟩⟩
theorem zgO {l : Addr} {ol : Obj} {items : Array Value} {k : Nat} (hc : ol.cls = .type "tuple") (hd : ol.data = .seq items k) :
  Src prog w l ol "tuple" { cls := .type "tuple_iterator", data := .fields #[.ref l, .int 0 0] } items.size (fun i v => items[i]? = some v) (fun I i h => h.IsTupleIter I l i /\ h.IsTuple l items) where
 cls := hc
 s1 := PySem.F.sub_tuple_set
 s2 := PySem.F.sub_tuple_frozenset
 nd := by decide
 iter := fun e q => wpAny_pyIter_tuple ⟨_, e, hc, k, hd⟩ q
 walks := fun I hh ne => Walks.tuple hh I l ne items
 st0 := fun e => ⟨⟨_, Heap.get?_push_size _ rfl, rfl, rfl⟩, ⟨_, Heap.get?_push_of_some _ e, hc, k, hd⟩⟩
end
theorem zfB : Manifest.owners.lookup (String.ofList ['r', 'o', 't', 'a', 'r', 'e', 't', 'i', '_', 't', 'e', 's'].reverse) = some Manifest.sig_set_iterator := by kernel_rfl
theorem slot_si_next : Slot "set_iterator" "__next__" "set_iterator.__next__" :=
 .of (owner := "set_iterator") (n := "__next__") (by rw [typeLookup_type, builtinLookup_eq_fast]; kernel_rfl) (by decide +kernel) (by decide +kernel) (by decide +kernel)
  (by first | exact .inl (by decide +kernel) | exact .inr (by decide +kernel)) (by rw [isSubtype_type]; kernel_rfl)
theorem zdU : entryFor table "set_iterator.__next__" = some Builtin.«set_iterator.__next__» := entryFor_of_tree (by kernel_rfl)
theorem zeL (a : Value) : argsOk "set_iterator.__next__" ⟨[a], []⟩ := by
 unfold argsOk; rw [signature?_of (id := "set_iterator.__next__") (n := ['_', '_', 't', 'x', 'e', 'n', '_', '_']) (o := ['r', 'o', 't', 'a', 'r', 'e', 't', 'i', '_', 't', 'e', 's']) (by kernel_rfl) zfB]; kernel_rfl
theorem zci : Slot "set_iterator" "__iter__" "set_iterator.__iter__" :=
 .of (owner := "set_iterator") (n := "__iter__") (by rw [typeLookup_type, builtinLookup_eq_fast]; kernel_rfl) (by decide +kernel) (by decide +kernel) (by decide +kernel)
  (by first | exact .inl (by decide +kernel) | exact .inr (by decide +kernel)) (by rw [isSubtype_type]; kernel_rfl)
theorem zdV : entryFor table "set_iterator.__iter__" = some Builtin.«dict_keyiterator.__iter__» :=
 entryFor_alias (id' := "dict_keyiterator.__iter__") (by kernel_rfl) (by first | rfl | decide +kernel) (by decide +kernel) (by kernel_rfl)
theorem zeM (a : Value) : argsOk "set_iterator.__iter__" ⟨[a], []⟩ := by
 unfold argsOk; rw [signature?_of (id := "set_iterator.__iter__") (n := ['_', '_', 'r', 'e', 't', 'i', '_', '_']) (o := ['r', 'o', 't', 'a', 'r', 'e', 't', 'i', '_', 't', 'e', 's']) (by kernel_rfl) zfB]; kernel_rfl
theorem zdb : entryFor table "set.__iter__" = some Builtin.«frozenset.__iter__» :=
 entryFor_alias (id' := "frozenset.__iter__") (by kernel_rfl) rfl (by decide +kernel) (by kernel_rfl)
theorem zdn {α : Type} : ∀ (l : List α) (i : Nat) (h : i < l.length), (l[i] :: l.eraseIdx i).Perm l
 | a :: r, 0, _ => .refl _
 | a :: r, i + 1, h => (List.Perm.swap a _ _).trans ((zdn r i (Nat.lt_of_succ_lt_succ h)).cons a)
theorem zhj {α : Type} (next : Nat -> Nat) : ∀ (f k : Nat) (l : List α) (out : Array α), l.length <= f -> (pickOrder.go next f k l out).toList.Perm (out.toList ++ l)
 | 0, k, l, out, h => by
  have : l = [] := List.length_eq_zero_iff.mp (Nat.le_zero.mp h)
  subst this; rw [List.append_nil]; exact .refl _
 | f + 1, k, l, out, h => by
  show (match l[next k % l.length]? with
   | some x => pickOrder.go next f (k + 1) (l.eraseIdx (next k % l.length)) (out.push x)
   | none => out).toList.Perm _
  cases e : l[next k % l.length]? with
  | none =>
   have : l = [] := by
    cases l with
    | nil => rfl
    | cons a r => exact absurd (List.getElem?_eq_none_iff.mp e) (Nat.not_le.mpr (Nat.mod_lt _ (by simp)))
   subst this; rw [List.append_nil]
  | some x =>
   obtain ⟨lt, ex⟩ := List.getElem?_eq_some_iff.mp e
   refine (zhj next f (k + 1) _ _ (by rw [List.length_eraseIdx_of_lt lt]; exact Nat.sub_le_iff_le_add.mpr h)).trans ?_
   rw [Array.toList_push, List.append_assoc]
   refine List.Perm.append_left _ ?_
   rw [← ex]
   exact zdn _ _ lt
noncomputable def ordA (w : World) (a : Addr) (ep : Nat) (es : Array (Int × Value)) : Array (Int × Value) := if za3 w = true then pickOrder (w.params.setOrder a ep) es else es
theorem zdC (w : World) (a : Addr) (ep : Nat) (es : Array (Int × Value)) : (ordA w a ep es).toList.Perm es.toList := by
 unfold ordA
 split
 ·exact zhj _ _ _ _ _ (Nat.le_of_eq Array.length_toList)
 ·exact .refl _
noncomputable def zjV (h : Heap) (it a : Addr) (slot i n ep : Nat) : Prop := h.get? it = some { cls := .type "set_iterator", data := .fields #[.int slot 0, .int i 0, .ref a, .int n 0, .int ep 0] }
noncomputable abbrev zd7 (w : World) (t : SetTable) (slot i : Nat) : Prop := za3 w = false -> SetTable.below t.place slot = i
section
variable {prog : Program} {w : World} {A : Around} {E : Value -> Shared -> Prop} {s : Shared} {a it : Addr} {l : List Int} {o : Obj} {es : Array (Int × Value)} {ep : Nat} {t : SetTable} {m : Nat}
theorem ziW {Q : Value -> Shared -> Prop} (G : SetG prog w s.heap a l o es ep t m)
  (h : Q (.ref s.heap.objs.size) { s with heap := s.heap.push { cls := .type "set_iterator", data := .fields #[.int (0 : Nat) 0, .int (0 : Nat) 0, .ref a, .int es.size 0, .int ep 0] } }) : wpAny (model prog w) A (pyIter (.ref a)) Q E s := by
 have hT : s.TypeIs (.ref a) "set" := ⟨o, G.at_, G.ex.1⟩
 refine wpAny_pyIter_slot hT PySem.F.slot_set_iter (wpAny_call_entry PySem.F.slot_set_iter hT zdb ?_ (PySem.F.args_set_iter_1 _))
 unfold Builtin.«frozenset.__iter__» Builtin.Frozenset.slot0 slotArgs
 refine wpAny_bind (wpAny_bind (wpAny_pure (wpAny_pure ?_)))
 unfold Builtin.Frozenset.sizeOf
 refine wpAny_bind (wpAny_bind (wpAny_setEntries_of G.at_ G.data G.fits (wpAny_pure ?_)))
 unfold setDrawn
 refine wpAny_bind (wpAny_bind (wpAny_setState_of G.at_ G.data G.fits ?_))
 unfold setsByText
 refine wpAny_bind (wpAny_bind (wpAny_askSetting (wpAny_pure (wpAny_pure ?_))))
 have pl : (!za3 w && (!t.plain && decide (es.size > 1))) = false := by rw [G.tab.plain]; cases za3 w <;> rfl
 show wpAny _ _ (if (!za3 w && (!t.plain && decide (es.size > 1))) = true then _ else (pure (rawInt 0) >>= _)) _ _ _
 rw [if_neg (by rw [pl]; exact Bool.false_ne_true)]
 refine wpAny_bind (wpAny_pure ?_)
 unfold setEpoch
 refine wpAny_bind (wpAny_bind (wpAny_setState_of G.at_ G.data G.fits (wpAny_pure ?_)))
 exact wpAny_bind (wpAny_newObj_type (wpAny_pure ⟨_, rfl, "set_iterator", _, ⟨_, Heap.get?_push_size _ rfl, rfl⟩, slot_si_next.lookup, h⟩))
theorem ziT {slot i n : Nat} {Q : Value -> Shared -> Prop} (H : zjV s.heap it a slot i n ep) (h : Q (.ref it) s) : wpAny (model prog w) A (pyIter (.ref it)) Q E s := by
 have hT : s.TypeIs (.ref it) "set_iterator" := ⟨_, H, rfl⟩
 refine wpAny_pyIter_slot hT zci (wpAny_call_entry zci hT zdV ?_ (zeM _))
 exact wpAny_pure ⟨_, rfl, "set_iterator", _, hT, slot_si_next.lookup, h⟩
theorem zg5 (G : SetG prog w s.heap a l o es ep t m) {slot i : Nat} (hs : zd7 w t slot i) {Q : Option (Value × Nat) -> Shared -> Prop}
  (h : ∀ r, (∀ x nx, r = some (x, nx) -> ∃ e, (ordA w a ep es)[i]? = some e /\ x = e.2 /\ zd7 w t nx (i + 1)) -> (r = none -> es.size <= i) -> Q r s) : wpAny (model prog w) A (setNext a slot i ep) Q E s := by
 unfold setNext
 refine wpAny_bind (wpAny_setState_of G.at_ G.data G.fits ?_)
 unfold setsByText
 refine wpAny_bind (wpAny_bind (wpAny_askSetting (wpAny_pure ?_)))
 dsimp only
 have sz : (ordA w a ep es).size = es.size := by rw [← Array.length_toList, (zdC w a ep es).length_eq, Array.length_toList]
 by_cases q : za3 w = true
 ·show wpAny _ _ (if za3 w = true then _ else _) _ _ _
  rw [if_pos q]
  show wpAny _ _ (if (ep != ep) = true then _ else _) _ _ _
  rw [if_neg (by simp)]
  unfold setWalk
  refine wpAny_bind (wpAny_bind (wpAny_setState_of G.at_ G.data G.fits ?_))
  unfold setsByText
  refine wpAny_bind (wpAny_bind (wpAny_askSetting (wpAny_pure ?_)))
  show wpAny _ _ (if za3 w = true then _ else _) _ _ _
  rw [if_pos q]
  refine wpAny_bind (wpAny_askSetting (wpAny_pure (wpAny_pure (h _ (fun x nx e => ?_) fun e => ?_))))
  ·obtain ⟨e1, h1, h2⟩ := Option.map_eq_some_iff.mp e
   cases h2
   exact ⟨e1, by unfold ordA; rw [if_pos q]; exact h1, rfl, fun z => by rw [q] at z; cases z⟩
  ·have := Option.map_eq_none_iff.mp e
   have : (ordA w a ep es)[i]? = none := by unfold ordA; rw [if_pos q]; exact this
   rw [← sz]; exact Array.getElem?_eq_none_iff.mp this
 ·have q : za3 w = false := by cases z : za3 w with | true => exact absurd z q | false => rfl
  show wpAny _ _ (if za3 w = true then _ else _) _ _ _
  rw [if_neg (by rw [q]; exact Bool.false_ne_true)]
  show wpAny _ _ (if (!t.plain && decide (es.size > 1)) = true then _ else _) _ _ _
  rw [if_neg (by rw [G.tab.plain]; exact Bool.false_ne_true)]
  show wpAny _ _ ((if (!t.led && !es.isEmpty) = true then _ else pure ()) >>= _) _ _ _
  rw [G.led, q, if_neg (by exact Bool.false_ne_true)]
  refine wpAny_bind (wpAny_pure ?_)
  rw [hs q]
  have oe : ordA w a ep es = es := by unfold ordA; rw [if_neg (by rw [q]; exact Bool.false_ne_true)]
  have hp : t.place[i]? = (plL m)[i]? := by rw [G.tab.place]; exact List.getElem?_toArray
  cases e1 : es[i]? with
  | none => exact wpAny_pure (h _ (fun x nx e => nomatch e) fun _ => Array.getElem?_eq_none_iff.mp e1)
  | some e =>
   have lt : i < (plL m).length := by rw [G.cnt]; exact (Array.getElem?_eq_some_iff.mp e1).1
   have e2 : t.place[i]? = some ((plL m)[i]) := hp.trans (List.getElem?_eq_getElem lt)
   rw [e2]
   refine wpAny_pure (h _ (fun x nx z => ?_) fun z => nomatch z)
   cases z
   refine ⟨e, by rw [oe]; exact e1, rfl, fun _ => ?_⟩
   rw [G.tab.place]
   have := zle m (Nat.lt_trans G.tab.lt (by decide)) i lt
   rw [List.getD_eq_getElem?_getD, List.getElem?_eq_getElem lt] at this
   exact this
end
section
variable {prog : Program} {w : World} {A : Around} {E : Value -> Shared -> Prop} {s : Shared} {a it : Addr} {l : List Int} {o : Obj} {es : Array (Int × Value)} {ep : Nat} {t : SetTable} {m : Nat}
theorem SetG.at' {h h' : Heap} (G : SetG prog w h a l o es ep t m) (e : ∀ o, h.get? a = some o -> h'.get? a = some o) : SetG prog w h' a l o es ep t m := { G with at_ := e _ G.at_ }
theorem zdf (hh : A.handled = none) (G : SetG prog w s.heap a l o es ep t m) {slot i : Nat} (H : zjV s.heap it a slot i es.size ep) (hs : zd7 w t slot i) {Q : Option Value -> Shared -> Prop}
  (hi : ∀ e h' nx, (ordA w a ep es)[i]? = some e -> zd7 w t nx (i + 1) -> zjV h' it a nx (i + 1) es.size ep -> Heap.ExtBut it s.heap h' -> Q (some e.2) { s with heap := h' })
  (hd : es.size <= i -> ∀ h', Heap.ExtBut it s.heap h' -> Q none { s with heap := h' }) : wpAny (model prog w) A (pyNext (.ref it)) Q E s := by
 have hT : s.TypeIs (.ref it) "set_iterator" := ⟨_, H, rfl⟩
 unfold pyNext
 refine wpAny_bind (wpAny_attempt (wpAny_callSpecial?_slot (name := Str.ofString "__next__") hT slot_si_next (wpAny_call_entry slot_si_next hT zdU ?_ (zeL _))))
 unfold Builtin.«set_iterator.__next__» slotArgs
 refine wpAny_bind (wpAny_pure ?_)
 refine wpAny_bind (wpAny_fieldsOf H rfl ?_)
 refine wpAny_bind (wpAny_setEntries_of G.at_ G.data G.fits ?_)
 rw [if_neg (by simp)]
 simp only [Int.toNat_natCast]
 refine wpAny_bind (zg5 G hs fun r hr hn => ?_)
 cases r with
 | some p =>
  obtain ⟨x, nx⟩ := p
  obtain ⟨e, h1, h2, h3⟩ := hr x nx rfl
  subst h2
  dsimp only
  refine wpAny_bind (wpAny_setField H rfl (by simp) ?_)
  have H1 := Heap.get?_update_self (Obj.mapFields (·.setIfInBounds 0 (rawInt (nx : Int)))) H rfl
  refine wpAny_bind (wpAny_setField H1 rfl (by simp) ?_)
  have H2 := Heap.get?_update_self (Obj.mapFields (·.setIfInBounds 1 (rawInt ((i : Int) + 1)))) H1 rfl
  refine wpAny_pure ⟨_, rfl, ?_⟩
  exact wpAny_pure (hi e _ nx h1 h3 H2 (((Heap.SameBut.update s.heap it _).trans (Heap.SameBut.update _ it _)).extBut))
 | none =>
  dsimp only
  refine wpAny_bind (wpAny_setField H rfl (by simp) ?_)
  show wpAny _ _ (newExc (.type "StopIteration") [] >>= _) _ _ _
  refine wpAny_bind ?_
  simp only [newExc, newTuple]
  refine wpAny_bind (wpAny_newObj_type ?_ (by size_fits))
  refine wpAny_bind (m := firstArgMember _ _) (wpAny_of_eq (a := Value.none) (by first | rfl | (simp only [firstArgMember]; rfl)) ?_)
  refine wpAny_newObj_type ?_ (by size_fits)
  simp only [raiseNew]
  refine wpAny_bind (wpAny_handled ?_)
  rw [show A.in1.handled = none from hh]
  refine wpAny_bind (wpAny_pure (wpAny_throw ?_))
  refine wpAny_bind (wpAny_isInstance (T := "StopIteration") (b := true) ⟨_, Heap.get?_push_size _ rfl, rfl⟩ isSubtype_stop ?_)
  exact wpAny_pure (hd (hn rfl) _ (((Heap.SameBut.update ..).extBut.push _).push _))
theorem zfC (w : World) (a : Addr) (ep : Nat) (es : Array (Int × Value)) : (ordA w a ep es).size = es.size := by
 rw [← Array.length_toList, (zdC w a ep es).length_eq, Array.length_toList]
theorem zgz (hh : A.handled = none) (I : Addr) (hne : a ≠ I) : Walks prog w A I [I, a] [I] es.size (fun i v => ∃ e, (ordA w a ep es)[i]? = some e /\ v = e.2)
  (fun i h => (∃ slot, zjV h I a slot i es.size ep /\ zd7 w t slot i) /\ SetG prog w h a l o es ep t m) where
 sub := fun b hb => by simp at hb; simp [hb]
 frame := fun _ _ _ st hk => by
  obtain ⟨⟨slot, h1, h2⟩, G⟩ := st
  exact ⟨⟨slot, hk I (by simp) _ h1, h2⟩, G.at' fun o e => hk a (by simp) o e⟩
 item := fun i s Q E hi st hQ => by
  obtain ⟨⟨slot, h1, h2⟩, G⟩ := st
  refine zdf hh G h1 h2 (fun e h' nx q1 q2 q3 q4 => ?_) fun q => absurd hi (Nat.not_lt.mpr q)
  exact hQ _ h' s.toks ⟨e, q1, rfl⟩ ⟨⟨nx, q3, q2⟩, G.at' fun o e => q4 a o hne e⟩ fun b o hb e => q4 b o (fun h => hb (by simp [h])) e
 done := fun s Q E st hQ => by
  obtain ⟨⟨slot, h1, h2⟩, G⟩ := st
  refine zdf hh G h1 h2 (fun e h' nx q1 q2 q3 q4 => ?_) fun q h' q4 => ?_
  ·have := (Array.getElem?_eq_some_iff.mp q1).1
   rw [zfC] at this
   exact absurd this (Nat.lt_irrefl _)
  ·exact hQ h' s.toks fun b o hb e => q4 b o (fun h => hb (by simp [h])) e
 self := fun _ _ _ _ st hQ => by
  obtain ⟨⟨slot, h1, h2⟩, G⟩ := st
  exact ziT h1 hQ
end
noncomputable abbrev Kept (s : Shared) (h' : Heap) : Prop := ∀ b o, s.heap.get? b = some o -> h'.get? b = some o
section
variable {prog : Program} {w : World} {A : Around} {E : Value -> Shared -> Prop} {s : Shared} {a it : Addr} {l : List Int} {o : Obj} {es : Array (Int × Value)} {ep : Nat} {t : SetTable} {m : Nat}
theorem ziY (G : SetG prog w s.heap a l o es ep t m) {Q : Bool -> Shared -> Prop} (h : Q false s) : wpAny (model prog w) A (Builtin.List.listLengthHint (.ref a)) Q E s := by
 have hT : s.TypeIs (.ref a) "set" := ⟨o, G.at_, G.ex.1⟩
 unfold Builtin.List.listLengthHint
 refine wpAny_bind (wpAny_specialOf hT PySem.F.slot_set_len.lookup ?_)
 have sp : splitId "set.__len__" = some ("set", "__len__") := by decide +kernel
 dsimp only
 rw [sp]
 dsimp only
 refine wpAny_bind (wpAny_isInstance hT sub_set_self ?_)
 simp only [Bool.not_true, Bool.false_eq_true, if_false]
 refine wpAny_bind (m := typeOf (.ref a)) (wpAny_typeOf hT ?_)
 exact wpAny_pure h
theorem zfi (hh : A.handled = none) (G : SetG prog w s.heap a l o es ep t m) {Q : List Value -> Shared -> Prop}
  (h : ∀ h' tk, Kept s h' -> Q ((ordA w a ep es).toList.map (·.2)) { s with heap := h', toks := tk }) : wpAny (model prog w) A (collect (.ref a)) Q E s := by
 have hlt : a < s.heap.objs.size := Heap.lt_size G.at_
 unfold collect
 refine wpAny_bind (wpAny_runValue (codeAny_builtin PySem.F.entry_proto_collect ?_))
 rw [Around.under_plainId PySem.F.plain_proto_collect _]
 show wpAny _ A.in1 (newList [] >>= fun l => again (.builtin "list.__iadd__" ⟨[l, .ref a], []⟩)) _ _ s
 refine wpAny_bind (wpAny_newObj_type ?_)
 refine wpAny_pure ⟨plainId_quiet PySem.F.plain_list_iadd _, codeAny_builtin PySem.F.entry_list_iadd ?_⟩
 rw [Around.under_plainId PySem.F.plain_list_iadd _]
 have G1 : SetG prog w (s.heap.push { cls := .type "list", data := .seq ([] : List Value).toArray }) a l o es ep t m := G.at' fun o e => Heap.get?_push_of_some _ e
 show wpAny _ A.in1 (Builtin.List.listExtendWith (.ref s.heap.objs.size) (.ref a) (.ref s.heap.objs.size)) _ _ _
 unfold Builtin.List.listExtendWith
 refine wpAny_bind (wpAny_typeOf (T := "set") ⟨o, G1.at_, G.ex.1⟩ ?_)
 have h1 : Builtin.List.listSameRef (.ref s.heap.objs.size) (.ref a) = false := by
  show (s.heap.objs.size == a) = false
  rw [beq_eq_false_iff_ne]; exact Nat.ne_of_gt hlt
 have h2 : (Value.type "set" == Value.type "list") = false := by decide
 have h3 : (Value.type "set" == Value.type "tuple") = false := by decide
 simp only [h1, h2, h3, Bool.or_false, Bool.false_eq_true, if_false]
 refine wpAny_bind (ziW (s := { s with heap := s.heap.push { cls := .type "list", data := .seq ([] : List Value).toArray } }) G1 ?_)
 refine wpAny_bind (wpAny_holding (ziY (s := { s with heap := (s.heap.push { cls := .type "list", data := .seq ([] : List Value).toArray }).push _ }) (G1.at' fun o e => Heap.get?_push_of_some _ e) ?_))
 show wpAny _ A.in1 (rule "list.extend.makes-room" >>= fun _ => Builtin.List.listTouch (.ref s.heap.objs.size) >>= fun _ =>
  again (.builtin "list.extend.loop" ⟨[.ref s.heap.objs.size, .ref (s.heap.push { cls := .type "list", data := .seq ([] : List Value).toArray }).objs.size, .ref s.heap.objs.size], []⟩)) _ _ _
 refine wpAny_bind (wpAny_rule ?_)
 generalize hI : (s.heap.push { cls := .type "list", data := .seq ([] : List Value).toArray }).objs.size = I
 have eI : I = s.heap.objs.size + 1 := by rw [← hI, Heap.size_push]
 have hS0 : (s.heap.push { cls := .type "list", data := .seq ([] : List Value).toArray }).get? s.heap.objs.size = some { cls := .type "list", data := .seq ([] : List Value).toArray } := Heap.get?_push_size _ rfl
 generalize hH : (s.heap.push { cls := .type "list", data := .seq ([] : List Value).toArray }) = H at hS0 G1 hI
 have kH : ∀ b o, s.heap.get? b = some o -> H.get? b = some o := fun b o e => by rw [← hH]; exact Heap.get?_push_of_some _ e
 have hS1 : (H.push { cls := .type "set_iterator", data := .fields #[.int (0 : Nat) 0, .int (0 : Nat) 0, .ref a, .int es.size 0, .int ep 0] }).get? s.heap.objs.size = some { cls := .type "list", data := .seq ([] : List Value).toArray } := Heap.get?_push_of_some _ hS0
 have hI1 : (H.push { cls := .type "set_iterator", data := .fields #[.int (0 : Nat) 0, .int (0 : Nat) 0, .ref a, .int es.size 0, .int ep 0] }).get? I = some { cls := .type "set_iterator", data := .fields #[.int (0 : Nat) 0, .int (0 : Nat) 0, .ref a, .int es.size 0, .int ep 0] } := by rw [← hI]; exact Heap.get?_push_size _ rfl
 have kH1 : ∀ b o, s.heap.get? b = some o -> (H.push { cls := .type "set_iterator", data := .fields #[.int (0 : Nat) 0, .int (0 : Nat) 0, .ref a, .int es.size 0, .int ep 0] }).get? b = some o := fun b o e => Heap.get?_push_of_some _ (kH b o e)
 generalize (H.push { cls := .type "set_iterator", data := .fields #[.int (0 : Nat) 0, .int (0 : Nat) 0, .ref a, .int es.size 0, .int ep 0] }) = H1 at hS1 hI1 kH1
 refine wpAny_bind ?_
 show wpAny _ A.in1 (updateSeq s.heap.objs.size (·.push .none) >>= fun _ => updateSeq s.heap.objs.size (·.pop)) _ _ _
 refine wpAny_bind (wpAny_updateSeq hS1 rfl ?_)
 have hS2 := Heap.get?_update_self (Obj.mapSeq (·.push Value.none)) hS1 rfl
 refine wpAny_updateSeq hS2 rfl ?_
 have hS3 := Heap.get?_update_self (Obj.mapSeq (·.pop)) hS2 rfl
 have oth : ∀ b o, b ≠ s.heap.objs.size -> H1.get? b = some o -> ((H1.update s.heap.objs.size (Obj.mapSeq (·.push Value.none))).update s.heap.objs.size (Obj.mapSeq (·.pop))).get? b = some o :=
  fun b o hb e => (Heap.get?_update_other _ _ (Ne.symm hb)).trans ((Heap.get?_update_other _ _ (Ne.symm hb)).trans e)
 have nSI : s.heap.objs.size ≠ I := by rw [eI]; exact Nat.ne_of_lt (Nat.lt_succ_self _)
 have nIa : a ≠ I := by rw [eI]; exact Nat.ne_of_lt (Nat.lt_succ_of_lt hlt)
 have nSa : s.heap.objs.size ≠ a := Nat.ne_of_gt hlt
 have W := (zgz (prog := prog) (w := w) (A := A.in1) (l := l) (o := o) (es := es) (ep := ep) (t := t) (m := m) (a := a) hh I nIa).toS
 refine wpAny_pure ⟨plainId_quiet PySem.F.plain_extend_loop _, codeAny_extend_loopS W (by have := G.small; rw [sizeLine_eq]; omega) s.heap.objs.size (by simp only [List.mem_cons, List.not_mem_nil, or_false, not_or]; exact ⟨nSI, nSa⟩) (.ref s.heap.objs.size) es.size 0 _ _ _ (Nat.sub_zero _) (Nat.zero_le _) ?_ hS3 (ItemsOf.nil _) fun s' acc' c' hm hS' hacc => ?_⟩
 ·exact ⟨⟨0, oth I _ nSI.symm hI1, fun _ => by rw [G.tab.place]; exact zld m (Nat.lt_trans G.tab.lt (by decide))⟩, G.at' fun o e => oth a o nSa.symm (kH1 a o e)⟩
 ·show wpAny _ A (load s.heap.objs.size >>= _) _ _ s'
  refine wpAny_bind (wpAny_load hS' ?_)
  obtain ⟨h', g', d', tk', os'⟩ := s'
  have eg : g' = s.gens := hm.gens
  have ed : d' = s.drawn := hm.drawn
  have eo : os' = s.os := hm.os
  subst eg; subst ed; subst eo
  have ea : acc'.toList = (ordA w a ep es).toList.map (·.2) := by
   refine List.ext_getElem? fun j => ?_
   obtain ⟨z1, z2⟩ := hacc
   rw [List.getElem?_map]
   cases q : acc'.toList[j]? with
   | some v =>
    obtain ⟨e, q1, q2⟩ := z2 j v (by rw [← Array.getElem?_toList]; exact q)
    rw [Array.getElem?_toList, q1, q2]; rfl
   | none =>
    have := List.getElem?_eq_none_iff.mp q
    rw [Array.length_toList, z1] at this
    rw [List.getElem?_eq_none (by rw [Array.length_toList, zfC]; exact this)]; rfl
  show wpAny _ _ (pure acc'.toList) _ _ _
  rw [ea]
  refine wpAny_pure (h h' tk' fun b o e => ?_)
  have lt := Heap.lt_size e
  exact hm.heap b o (by simp only [List.mem_cons, List.not_mem_nil, or_false, not_or]; exact ⟨Nat.ne_of_lt lt, by rw [eI]; exact Nat.ne_of_lt (Nat.lt_succ_of_lt lt)⟩) (oth b o (Nat.ne_of_lt lt) (kH1 b o e))
end
section
variable {prog : Program} {w : World} {A : Around} {E : Value -> Shared -> Prop} {s : Shared}
theorem zc2 {T : String} {b : Addr} {ob : Obj} {vs : List Value} {n : Nat} (hT : T = "list" \/ T = "tuple") (ho : s.heap.get? b = some ob) (hc : ob.cls = .type T) (hd : ob.data = .seq vs.toArray n) (hz : vs.length <= sizeLine) {Q : List Value -> Shared -> Prop}
  (h : ∀ h' tk, Kept s h' -> Q vs { s with heap := h', toks := tk }) : wpAny (model prog w) A (collect (.ref b)) Q E s := by
 have lt := Heap.lt_size ho
 unfold collect
 refine wpAny_bind (wpAny_runValue (codeAny_builtin PySem.F.entry_proto_collect ?_))
 show wpAny _ _ (do again (.builtin "list.__iadd__" ⟨[← newList [], .ref b], []⟩)) _ _ s
 refine wpAny_bind (wpAny_newList (wpAny_pure ⟨Code.quiet_builtin _ (by decide +kernel), codeAny_builtin PySem.F.entry_list_iadd ?_⟩))
 show wpAny _ _ (Builtin.List.listExtendWith (.ref s.heap.objs.size) (.ref b) (.ref s.heap.objs.size)) _ _ { s with heap := s.heap.push (seqObj "list" #[] 0) }
 unfold Builtin.List.listExtendWith
 have ho' : (s.heap.push (seqObj "list" #[] 0)).get? b = some ob := Heap.get?_push_of_some _ ho
 refine wpAny_bind (wpAny_typeOf (T := T) ⟨ob, ho', hc⟩ ?_)
 have ht : ((Builtin.List.listSameRef (.ref s.heap.objs.size) (.ref b) || Value.type T == .type "list") || Value.type T == .type "tuple") = true := by
  rcases hT with rfl | rfl
  ·rw [show (Value.type "list" == .type "list") = true from rfl, Bool.or_true]; rfl
  ·rw [show (Value.type "tuple" == .type "tuple") = true from rfl, Bool.or_true]
 rw [if_pos ht]
 refine wpAny_bind (listItems_at ho' hd ?_)
 refine wpAny_bind (listItems_at (xs := #[]) (n := 0) (Heap.get?_push_size _ rfl) rfl ?_)
 rw [if_neg (by simp)]
 refine wpAny_bind (listUpdate_at (xs := #[]) (n := 0) (Heap.get?_push_size _ rfl) rfl ?_ (Nat.zero_le _) (by show (#[] ++ vs.toArray).size <= sizeLine + 1; simp only [Array.size_append, List.size_toArray, List.length_nil]; omega))
 refine wpAny_pure ?_
 show wpAny (model prog w) A (load s.heap.objs.size >>= _) Q E { s with heap := (s.heap.push (seqObj "list" #[] 0)).update s.heap.objs.size (Obj.mapSeq (· ++ vs.toArray)) }
 refine wpAny_bind (wpAny_load (get?_update_seq (Heap.get?_push_size _ rfl) _) ?_)
 show wpAny _ _ (pure ((#[] : Array Value) ++ vs.toArray).toList) Q E _
 rw [show ((#[] : Array Value) ++ vs.toArray).toList = vs by simp]
 refine wpAny_pure (h _ s.toks fun c o e => ?_)
 have lc := Heap.lt_size e
 rw [Heap.get?_update_ne _ _ _ _ (Nat.ne_of_lt lc)]
 exact Heap.get?_push_of_some _ e
theorem zgR {src : Value} {vs : List Value} {ns : List Int} {Q : Value -> Shared -> Prop} (hh : A.handled = none)
  (col : ∀ {A' : Around} {Q' : List Value -> Shared -> Prop} {E' : Value -> Shared -> Prop}, A'.handled = none -> (∀ h' tk, Kept s h' -> Q' vs { s with heap := h', toks := tk }) -> wpAny (model prog w) A' (collect src) Q' E' s)
  (hI : IntsAre vs ns) (h64 : vs.length < 64)
  (h : ∀ (h' : Heap) (tk : Nat) (b : Addr) (out : Array Value) (e : Nat) (ns' : List Int), h'.get? b = some (seqObj "list" out e) -> s.heap.get? b = none -> Kept s h' -> IntsAre out.toList ns' -> ns'.Perm ns -> ns'.Pairwise (· <= ·) -> Q (.ref b) { s with heap := h', toks := tk }) :
  wpAny (model prog w) A (call (.builtin "sorted") [src]) Q E s := by
 refine Calls.call_function_entry kind_sorted plain_sorted entry_sorted (args_sorted1 _) ?_
 unfold Builtin.«sorted»
 refine wpAny_bind (m := checkCount "sorted" 1 1 _) (wpAny_pure ?_)
 refine wpAny_bind (col hh fun h1 tk kp => ?_)
 refine wpAny_bind (wpAny_newList ?_)
 have hoL : (h1.push (seqObj "list" vs.toArray 0)).get? h1.objs.size = some (seqObj "list" vs.toArray 0) := Heap.get?_push_size _ rfl
 show wpAny _ _ _ _ _ { s with heap := h1.push (seqObj "list" vs.toArray 0), toks := tk }
 refine wpAny_bind (wpAny_holding (wpAny_call_entry slot_list_sort ⟨_, hoL, rfl⟩ entry_list_sort (list_sort_tree hoL hI h64 fun out ns' a1 a2 a3 => ⟨_, rfl, ?_⟩) (args_list_sort _)))
 have old : ∀ b o, h1.get? b = some o -> (sortedHeap (h1.push (seqObj "list" vs.toArray 0)) h1.objs.size vs out).get? b = some o := fun b o e => by
  have lb := Heap.lt_size e
  rw [sortedHeap_old (Nat.ne_of_lt lb) (by rw [size_push']; exact Nat.lt_succ_of_lt lb)]
  exact Heap.get?_push_of_some _ e
 obtain ⟨e, he⟩ := sortedHeap_at (out := out) hoL
 refine wpAny_pure ⟨_, rfl, h _ tk h1.objs.size out e ns' he ?_ (fun b o q => old b o (kp b o q)) a1 a2 a3⟩
 cases q : s.heap.get? h1.objs.size with
 | none => rfl
 | some o => exact absurd (Heap.lt_size (kp _ _ q)) (Nat.lt_irrefl _)
end
section
variable {prog : Program} {w : World} {A : Around} {E : Value -> Shared -> Prop} {s : Shared}
theorem zdX {r : Addr} {a b : Int} {t u v : Tok} {n : Nat} (hh : A.handled = none) (hr : IsRange s.heap r a b 1 t u v) (hsmall : Builtin.Range.small a b 1 = true) (hn : Builtin.Range.rangeSize a b 1 = n) (hlen : n <= 2 ^ 24) {Q : List Value -> Shared -> Prop}
  (h : ∀ h' tk acc, Kept s h' -> ItemsOf (fun i v => ∃ t, v = Value.int (a + i * 1) t) acc n -> Q acc.toList { s with heap := h', toks := tk }) : wpAny (model prog w) A (collect (.ref r)) Q E s := by
 unfold collect
 refine wpAny_bind (wpAny_runValue (codeAny_builtin PySem.F.entry_proto_collect ?_))
 rw [Around.under_plainId PySem.F.plain_proto_collect _]
 show wpAny _ A.in1 (newList [] >>= fun l => again (.builtin "list.__iadd__" ⟨[l, .ref r], []⟩)) _ _ s
 refine wpAny_bind (wpAny_newObj_type ?_)
 refine wpAny_pure ⟨plainId_quiet PySem.F.plain_list_iadd _, codeAny_builtin PySem.F.entry_list_iadd ?_⟩
 rw [Around.under_plainId PySem.F.plain_list_iadd _]
 have hS : (s.heap.push { cls := .type "list", data := .seq #[] }).get? s.heap.objs.size = some { cls := .type "list", data := .seq #[] } := Heap.get?_push_size _ rfl
 generalize hR : (fun (r : Result) (s' : Shared) => (match r with
  | .ok (.ret v) => wpAny (model prog w) A (match v with
   | .ref a => do match (← load a).data with
    | .seq xs _ => pure xs.toList
    | _ => unsupported "internal:collect"
   | _ => unsupported "internal:collect") Q E s'
  | .ok _ => False
  | .error e => E e s' : Prop)) = R
 have go : ∀ h' tk (acc : Array Value) c', h'.get? s.heap.objs.size = some { cls := .type "list", dict := none, data := .seq acc c', slots := #[] } -> Kept s h' -> ItemsOf (fun i v => ∃ t, v = Value.int (a + i * 1) t) acc n -> R (.ok (.ret (.ref s.heap.objs.size))) { s with heap := h', toks := tk } := fun h' tk acc c' hS' kp hacc => by
  rw [← hR]
  show wpAny _ A (load s.heap.objs.size >>= _) _ _ _
  refine wpAny_bind (wpAny_load hS' ?_)
  exact wpAny_pure (h h' tk acc kp hacc)
 refine wpAny_mono (PySem.wpAny_extend_range (R := R) (s := { s with heap := s.heap.push { cls := .type "list", data := .seq #[] } }) hh (Heap.get?_push_of_some _ hr) hsmall hn hlen s.heap.objs.size (.ref s.heap.objs.size) _ hS fun h' tk acc c' hk hS' hacc => go h' tk acc c' hS' (fun b o e => hk b o (Nat.ne_of_lt (Heap.lt_size e)) (Heap.get?_push_of_some _ e)) hacc) (fun fin s' q => ?_) fun e s' q => by rw [← hR] at q; exact q
 cases fin with
 | done f => rw [← hR] at q; exact q
 | again c' => exact q
theorem zb8 (r : Addr) {a b : Int} {n : Nat} (hsmall : Builtin.Range.small a b 1 = true) (hn : Builtin.Range.rangeSize a b 1 = n) (hlen : n <= 2 ^ 24) :
  Meets (Builtin.«tuple.__new__» ⟨[.type "tuple", .ref r], []⟩)
   (fun A R s => A.handled = none /\ (∃ t u v, IsRange s.heap r a b 1 t u v) /\ ∀ (h' : Heap) tk (acc : Array Value), Kept s h' -> ItemsOf (fun i v => ∃ t, v = Value.int (a + i * 1) t) acc n ->
    R (.ok (.ret (.ref h'.objs.size))) { s with heap := h'.push { cls := .type "tuple", data := .seq acc }, toks := tk }) :=
 .of_wp fun prog w A R s h => by
  obtain ⟨hh, ⟨t, u, v, hr⟩, h⟩ := h
  have hsub := sub_tuple_self
  have hinit := init_tuple_lookup
  have hmh := madeHere_tuple
  have hT : s.TypeIs (.ref r) "range" := ⟨_, hr, rfl⟩
  have hh1 : A.in1.handled = none := hh
  wp_walk using wpAny_typeOf hT, zdX hh1 hr hsmall hn hlen
  intro h' tk acc hk hacc
  show wpAny _ _ (Builtin.Tuple.tupleExact acc.toList.toArray >>= fun v => ret v) _ _ _
  unfold Builtin.Tuple.tupleExact
  refine wpAny_bind (wpAny_newObj_type ?_ (show acc.toList.toArray.size <= sizeLine by simp only [Array.toArray_toList]; rw [hacc.1, sizeLine_eq]; omega))
  refine wpAny_pure ⟨_, rfl, ?_⟩
  have e : acc.toList.toArray = acc := by simp
  rw [e]
  exact h h' tk acc hk hacc
theorem zeT {r : Addr} {a b : Int} {t u v : Tok} {n : Nat} {Q : Value -> Shared -> Prop} (hh : A.handled = none) (hr : IsRange s.heap r a b 1 t u v) (hsmall : Builtin.Range.small a b 1 = true) (hn : Builtin.Range.rangeSize a b 1 = n) (hlen : n <= 2 ^ 24)
  (h : ∀ h' tk acc, Kept s h' -> ItemsOf (fun i v => ∃ t, v = Value.int (a + i * 1) t) acc n -> Q (.ref h'.objs.size) { s with heap := h'.push { cls := .type "tuple", data := .seq acc }, toks := tk }) :
  wpAny (model prog w) A (call (.type "tuple") [.ref r]) Q E s := by
 refine callType_new PySem.F.called_tuple (by decide) (PySem.F.typeCall_tuple_1 _) (PySem.F.newCall_tuple_1 _) (fun obj => PySem.F.args_object_init_2 obj _) PySem.F.entry_tuple_new
  (zb8 r hsmall hn hlen) ⟨hh, ⟨t, u, v, hr⟩, fun h' tk acc hk hacc => ⟨⟨_, Heap.get?_push_size _ rfl, rfl⟩, h h' tk acc hk hacc⟩⟩
end
theorem zcS (i : Int) : ∀ l : List Int, (insI i l).Perm (i :: l)
 | [] => .refl _
 | j :: r => by
  unfold insI
  split
  ·exact .refl _
  ·exact ((zcS i r).cons j).trans (.swap _ _ _)
theorem zby : ∀ l : List Int, (za1 l).Perm l
 | [] => .refl _
 | i :: r => (zcS i _).trans ((zby r).cons i)
theorem zcR (i : Int) : ∀ l : List Int, l.Pairwise (· <= ·) -> (insI i l).Pairwise (· <= ·)
 | [], _ => List.pairwise_cons.mpr ⟨fun _ h => (nomatch h), .nil⟩
 | j :: r, h => by
  obtain ⟨h1, h2⟩ := List.pairwise_cons.mp h
  unfold insI
  by_cases q : i <= j
  ·rw [if_pos q]
   exact List.pairwise_cons.mpr ⟨fun k hk => by rcases List.mem_cons.mp hk with rfl | hk; exact q; exact Int.le_trans q (h1 k hk), h⟩
  ·rw [if_neg q]
   refine List.pairwise_cons.mpr ⟨fun k hk => ?_, zcR i r h2⟩
   rcases List.mem_cons.mp ((zcS i r).mem_iff.mp hk) with rfl | hk
   ·exact Int.le_of_lt (Int.not_le.mp q)
   ·exact h1 k hk
theorem zbl : ∀ l : List Int, (za1 l).Pairwise (· <= ·)
 | [] => .nil
 | i :: r => zcR i _ (zbl r)
end Mine.Lake
namespace Mine.Lake
open PySem PySem.W PyProof.Rows PySem.Calls PySem.SeqAt
theorem za0 {pos : Pos} {ev : Env} : ∀ {es : List PySem.Expr}, es.all (fun e => !zak e) = true -> (backTo pos (starEach es ev)).any (·.1) = false
 | [], _ => rfl
 | e :: r, h => by
  rw [List.all_cons, Bool.and_eq_true] at h
  have ih := za0 (pos := pos) (ev := ev) h.2
  have he : starEach (e :: r) ev = (false, eval e ev) :: starEach r ev := by
   cases e <;> first | rfl | exact absurd h.1 Bool.noConfusion
  rw [he]
  show (false || (backTo pos (starEach r ev)).any (·.1)) = false
  rw [ih]; rfl
theorem zcF {e : PySem.Expr} {r : List PySem.Expr} {ev : Env} (h : zak e = false) : starEach (e :: r) ev = (false, eval e ev) :: starEach r ev := by
 cases e <;> first | rfl | exact absurd h Bool.noConfusion
section
variable {S : Sta} {G : zab} {nd : Nat} {hd : Bool} {cx : Cx}
theorem zaT {A : Around} {env ev : Env} {outer : List Env} {L : Addr} {Y : Addr -> Prop} {m mc : Fm} {σ : Hp} {g : Gh} {s : Shared} {K : List V -> Hp -> Prop} {E : KE} {Q : Value -> Shared -> Prop} {pos : Pos} {es : List PySem.Expr} {xs : List X} {f : Value} {first : List Value} {P : Heap -> Prop}
  (hs : es.all (fun e => !zak e) = true) (hx : zb0 S G nd hd cx es xs) (a : Act S cx A env ev outer L nd hd) (I : Inv S (env :: outer) g σ s.heap) (rd : Rd S cx ev Y s.heap g m mc)
  (hk : ∀ h, P h -> ∃ k, (k = Keeper.frame \/ k = Keeper.machine \/ k = Keeper.boundFrame) /\ Looks S.M h (keeperOf f) k) (h : evXs G S.gc m mc xs σ K E) (hn : es = [] -> xs = [])
  (c : ∀ vs ds σ1 g1 s1, K ds σ1 -> Ext No g g1 s.heap s1.heap -> Inv S (env :: outer) g1 σ1 s1.heap -> VRs S s1.heap g1 vs ds -> Rest s s1 -> P s1.heap /\ wpAny S.M A (call f (first ++ vs) []) Q (Er S (env :: outer) No false g s E) s1) :
  wpAny S.M A (callWith pos f first (backTo pos (starEach es ev)) []) Q (Er S (env :: outer) No false g s E) s := by
 have hp := za0 (pos := pos) (ev := ev) hs
 refine callWith_of (P := P) (by rw [hp]; rfl) hk ?_
 cases es with
 | nil =>
  obtain rfl := hn rfl
  exact evalArgs_nil3 (c [] [] σ g s h (.refl _ _ _) I .nil (.refl _))
 | cons e r =>
  rw [List.all_cons, Bool.and_eq_true] at hs
  have hq := hx A env ev outer L Y m mc σ g s K E pos a I rd h
  rw [zcF (by simpa using hs.1)] at hq ⊢
  exact evalArgs_plain (step hq fun vs ds σ1 g1 s1 h1 e1 i1 r1 z1 => c vs ds σ1 g1 s1 h1 e1 i1 r1 z1)
theorem za8 {f : Value} (hf : ∀ a, f ≠ .ref a) {M : Model} (h : Heap) (_ : True) : ∃ k, (k = Keeper.frame \/ k = Keeper.machine \/ k = Keeper.boundFrame) /\ Looks M h (keeperOf f) k := by
 refine ⟨.machine, .inr (.inl rfl), ?_⟩
 cases f <;> first | exact Looks.now | exact absurd rfl (hf _)
end
noncomputable def zec : Prim -> Value
 | .len => .builtin "len" | .isi => .builtin "isinstance" | .int => .type "int" | .str => .type "str" | .repr => .builtin "repr" | .tuple => .type "tuple" | .list => .type "list" | .mlist => .type "list" | .mdict => .type "dict"
 | .range => .type "range" | .sorted => .builtin "sorted" | .set => .type "set" | .abs => .builtin "abs" | .max => .builtin "max"
section
variable {S : Sta} {fr : List Env} {A : Around} {g : Gh} {σ : Hp} {s : Shared} {d : V} {K : KV} {Ev : Value -> Shared -> Prop}
theorem vrs1 {h : Heap} {vs : List Value} {x : V} (r : VRs S h g vs [x]) : ∃ v, vs = [v] /\ VR S h g v x := by
 cases r with
 | cons a r => cases r; exact ⟨_, rfl, a⟩
theorem vrs2 {h : Heap} {vs : List Value} {x y : V} (r : VRs S h g vs [x, y]) : ∃ v w, vs = [v, w] /\ VR S h g v x /\ VR S h g w y := by
 cases r with
 | cons a r =>
  obtain ⟨w, rfl, b⟩ := vrs1 r
  exact ⟨_, _, rfl, a, b⟩
theorem zn2 {h : Heap} {v : Value} {n : String} (r : VR S h g v (.ty n)) : v = .type n := by cases r; rfl
theorem szl {n : Nat} (h : n <= sizeLine) : (n : Int) < 2 ^ 63 := by rw [sizeLine_eq] at h; omega
theorem VR.seqK {P : Prop} (I : Inv S fr g σ s.heap) {v : Value} {x : V} {l : List PyData} (r : VR S s.heap g v x) (h : seqT σ x = some l) (kl : ∀ a vs, v = .ref a -> s.heap.IsList a vs -> PVs S.w.params s.heap g.κ vs.toList l -> vs.size = l.length -> P)
  (kt : ∀ a vs, v = .ref a -> IsTup s.heap a vs -> VR S s.heap g v (.pd (.tuple l)) -> PVs S.w.params s.heap g.κ vs.toList l -> vs.size = l.length -> P) : P :=
 bd_e h fun d e h => zaG h (fun q => r.listK (P := fun v => (∀ a vs, v = .ref a -> s.heap.IsList a vs -> PVs S.w.params s.heap g.κ vs.toList l -> vs.size = l.length -> P) -> P) I e q (fun a vs h1 h2 h3 k => k a vs rfl h1 h2 h3) kl)
  fun q => r.tupK (P := fun v => (∀ a vs, v = .ref a -> IsTup s.heap a vs -> VR S s.heap g v (.pd (.tuple l)) -> PVs S.w.params s.heap g.κ vs.toList l -> vs.size = l.length -> P) -> P) e q (fun a vs h1 h2 h3 h4 k => k a vs rfl h1 h2 h3 h4) kt
theorem zjb {v : Value} {x : V} {l : List PyData} (I : Inv S fr g σ s.heap) (r : VR S s.heap g v x) (hl : seqT σ x = some l) (h : l.length <= sizeLine /\ K (.pd (.int l.length)) σ) : wpAny S.M A (call (.builtin "len") [v]) (Ok S fr No (RV S) g s K) Ev s := by
 refine r.seqK I hl (fun a vs e hl p hlen => ?_) fun a vs e hl _ p hlen => ?_
 ·rw [e]
  refine call_len_list hl (by rw [hlen]; exact szl h.1) ?_
  rw [hlen]; exact Is.ok h.2 (zbQ I)
 ·rw [e]
  refine call_function_entry kind_len plain_len entry_len (args_len1 _) (len_body_tuple hl (by rw [hlen]; exact szl h.1) ?_)
  rw [hlen]; exact Is.ok h.2 (zbQ I)
theorem zjc {v : Value} {d : PyData} {n : String} {b : Bool} (I : Inv S fr g σ s.heap) (r : VR S s.heap g v (.pd d)) (hb : isiP d n = some b) (h : K (.pd (.bool b)) σ) : wpAny S.M A (call (.builtin "isinstance") [v, .type n]) (Ok S fr No (RV S) g s K) Ev s := by
 have q1 : ∀ {b : Bool}, K (.pd (.bool b)) σ -> ∀ k, Ok S fr No (RV S) g s K (.bool b) { s with toks := k } := fun h k => Is.ok h (zdL I)
 have q0 : ∀ {b : Bool}, K (.pd (.bool b)) σ -> Ok S fr No (RV S) g s K (.bool b) s := fun h => Is.ok h (zap I)
 have all : ∀ p ∈ isiL d, K (.pd (.bool p.2)) σ -> wpAny S.M A (call (.builtin "isinstance") [v, .type p.1]) (Ok S fr No (RV S) g s K) Ev s := by
  have nil : ∀ p ∈ ([] : List (String × Bool)), K (.pd (.bool p.2)) σ -> wpAny S.M A (call (.builtin "isinstance") [v, .type p.1]) (Ok S fr No (RV S) g s K) Ev s := fun _ q => (List.not_mem_nil q).elim
  have r := zbN r
  cases d with
  | bool b => cases r; exact List.forall_mem_cons.mpr ⟨fun h => IsiPair.bool_bool (q0 h), List.forall_mem_cons.mpr ⟨fun h => IsiPair.bool_int (q0 h), List.forall_mem_cons.mpr ⟨fun h => IsiPair.bool_str (q1 h _), List.forall_mem_cons.mpr ⟨fun h => IsiPair.bool_tuple (q1 h _), List.forall_mem_cons.mpr ⟨fun h => IsiPair.bool_list (q1 h _), nil⟩⟩⟩⟩⟩
  | int i => cases r; exact List.forall_mem_cons.mpr ⟨fun h => IsiPair.int_bool (q1 h _), List.forall_mem_cons.mpr ⟨fun h => IsiPair.int_int (q0 h), List.forall_mem_cons.mpr ⟨fun h => IsiPair.int_str (q1 h _), List.forall_mem_cons.mpr ⟨fun h => IsiPair.int_tuple (q1 h _), List.forall_mem_cons.mpr ⟨fun h => IsiPair.int_list (q1 h _), nil⟩⟩⟩⟩⟩
  | str x => cases r; exact List.forall_mem_cons.mpr ⟨fun h => IsiPair.str_bool (q1 h _), List.forall_mem_cons.mpr ⟨fun h => IsiPair.str_int (q1 h _), List.forall_mem_cons.mpr ⟨fun h => IsiPair.str_str (q0 h), List.forall_mem_cons.mpr ⟨fun h => IsiPair.str_tuple (q1 h _), List.forall_mem_cons.mpr ⟨fun h => IsiPair.str_list (q1 h _), nil⟩⟩⟩⟩⟩
  | tuple l =>
   cases r with
   | tuple _ e c => exact List.forall_mem_cons.mpr ⟨fun h => IsiPair.tuple_bool e c (q1 h _), List.forall_mem_cons.mpr ⟨fun h => IsiPair.tuple_int e c (q1 h _), List.forall_mem_cons.mpr ⟨fun h => IsiPair.tuple_str e c (q1 h _), List.forall_mem_cons.mpr ⟨fun h => IsiPair.tuple_tuple e c (q0 h), List.forall_mem_cons.mpr ⟨fun h => IsiPair.tuple_list e c (q1 h _), nil⟩⟩⟩⟩⟩
  | list l =>
   cases r with
   | list _ e c => exact List.forall_mem_cons.mpr ⟨fun h => IsiPair.list_list e c (q0 h), nil⟩
  | _ => exact nil
 exact all _ (zaB hb) h
theorem zjd {v : Value} {d : PyData} {i : Int} (I : Inv S fr g σ s.heap) (r : VR S s.heap g v (.pd d)) (hi : zfm d = some i) (h : K (.pd (.int i)) σ) : wpAny S.M A (call (.type "int") [v]) (Ok S fr No (RV S) g s K) Ev s := by
 refine r.numK (σ := σ) (P := fun v i => K (.pd (.int i)) σ -> wpAny S.M A (call (.type "int") [v]) (Ok S fr No (RV S) g s K) Ev s) rfl hi (fun i t h => ?_) (fun b h => ?_) h
 ·exact call_int_int (Is.ok h (zbJ I (.pd (.int _ _))))
 ·exact call_int_bool (Is.ok h (zbQ I))
theorem zje {v : Value} {i : Int} (I : Inv S fr g σ s.heap) (r : VR S s.heap g v (.pd (.int i))) (h : K (.pd (.int i.natAbs)) σ) : wpAny S.M A (call (.builtin "abs") [v]) (Ok S fr No (RV S) g s K) Ev s := by
 obtain ⟨t, rfl⟩ := zbD r
 refine call_abs_int fun u tk => ?_
 have : (if i < 0 then -i else i) = (i.natAbs : Int) := by
  split
  ·exact (Int.ofNat_natAbs_of_nonpos (Int.le_of_lt ‹_›)).symm
  ·exact (Int.natAbs_of_nonneg (Int.not_lt.mp ‹_›)).symm
 rw [this]; exact Is.ok h (zbQ I)
theorem zhe (ok : StaOk S) {v : Value} {x : V} {d : PyData} (room : Room A) (I : Inv S fr g σ s.heap) (r : VR S s.heap g v x) (hd : rd σ x = some d) (h : (d.showable = true /\ d.depth <= 64 /\ d.shown.length <= sizeLine) /\ K (.pd (.str d.shown)) σ) :
  wpAny S.M A (call (.builtin "repr") [v]) (Ok S fr No (RV S) g s K) Ev s := by
 obtain ⟨as, q, n⟩ := r.readsN ok.sm I hd
 have big : ∀ {a : Addr}, v = .ref a -> wpAny S.M A (call (.builtin "repr") [v]) (Ok S fr No (RV S) g s K) Ev s := by
  rintro a rfl
  refine repr_of_reads' q h.1.1 (fun _ => n) room.guards (Nat.lt_of_le_of_lt (Nat.add_le_add_left (Nat.le_trans (Nat.succ_le_succ h.1.2.1) (by decide)) _) room.units) (fun _ _ e => e) (fun h' u tk kp => ?_) h.1.2.2
  obtain ⟨I2, E2⟩ := I.keeps kp
  exact ⟨_, σ, g, h.2, E2, I2, .pd (.str _ _), ⟨rfl, rfl, rfl⟩⟩
 cases q with
 | none => exact P.repr_of_none (Is.ok h.2 (zcQ I))
 | bool b => exact P.repr_of_bool (Is.ok h.2 (zcQ I))
 | int i t => exact P.repr_of_int (by simpa [PyData.showable] using h.1.1) (Is.ok h.2 (zcQ I))
 | str y t => exact P.repr_of_str (Is.ok h.2 (zcQ I)) h.1.2.2
 | list => exact big rfl
 | tuple => exact big rfl
 | dict => exact big rfl
theorem zea {P : Params} {h : Heap} {κ : Addr -> Kd} {a b : Int} {acc : Array Value} (q : ItemsOf (fun i v => ∃ t, v = Value.int (a + i * 1) t) acc (b - a).toNat) : PVs P h κ acc.toList (zaV a b) := by
 obtain ⟨q1, q2⟩ := q
 have : ∀ (n k : Nat) (vs : List Value), vs.length = n -> (∀ j v, vs[j]? = some v -> ∃ t, v = Value.int (a + (k + j : Nat)) t) -> PVs P h κ vs ((List.range' k n).map fun (j : Nat) => PyData.int (a + j)) := by
  intro n
  induction n with
  | zero => intro k vs hv _; rw [List.length_eq_zero_iff] at hv; subst hv; exact .nil
  | succ n ih =>
   intro k vs hv hj
   cases vs with
   | nil => simp at hv
   | cons v vs =>
    rw [List.range'_succ, List.map_cons]
    obtain ⟨t, rfl⟩ := hj 0 v rfl
    refine .cons (.int _ _) (ih (k + 1) vs (by simpa using hv) fun j w hw => ?_)
    obtain ⟨t, rfl⟩ := hj (j + 1) w (by simpa using hw)
    exact ⟨t, by rw [Nat.add_right_comm]; rfl⟩
 unfold zaV
 rw [List.range_eq_range']
 refine this _ 0 _ (by simpa using q1) fun j v hv => ?_
 obtain ⟨t, rfl⟩ := q2 j v (by simpa using hv)
 exact ⟨t, by congr 1 <;> first | omega | simp⟩
theorem in63 {a : Int} (h1 : -(2 ^ 62) <= a) (h2 : a < 2 ^ 62) : -2 ^ 63 <= a /\ a < 2 ^ 63 := ⟨Int.le_trans (by decide) h1, Int.lt_trans h2 (by decide)⟩
theorem zcH {a b : Int} (h1 : -(2 ^ 62) <= a) (h2 : a < 2 ^ 62) (h3 : -(2 ^ 62) <= b) (h4 : b < 2 ^ 62) : Builtin.Range.small a b 1 = true := by
 unfold Builtin.Range.small Builtin.Range.rangeFitsLong
 rw [rangeSize_one]
 simp only [Bool.and_eq_true, Bool.or_eq_true, decide_eq_true_eq, beq_iff_eq]
 refine ⟨⟨⟨⟨in63 h1 h2, in63 h3 h4⟩, by decide, by decide⟩, ?_⟩, .inr ?_⟩
 ·by_cases q : a < b
  ·rw [if_pos q]; exact ⟨Int.le_trans (by decide) (Int.sub_nonneg.mpr (Int.le_of_lt q)), Int.lt_of_lt_of_le (Int.sub_lt_sub_of_lt_of_le h4 h1) (by decide)⟩
  ·rw [if_neg q]; exact ⟨by decide, by decide⟩
 rw [if_pos (by decide)]
 simp only [Bool.and_eq_true, decide_eq_true_eq]
 rw [show b + (1 - 1) = b from Int.add_zero b]
 exact in63 h3 h4
theorem zc8 (ok : StaOk S) {v : Value} {x : V} {l : List PyData} (I : Inv S fr g σ s.heap) (r : VR S s.heap g v x) (hl : seqT σ x = some l) (h : l.length <= sizeLine /\ K (.pd (.tuple l)) σ) :
  wpAny S.M A (call (.type "tuple") [v]) (Ok S fr No (RV S) g s K) Ev s := by
 refine r.seqK I hl (fun a vs e hl p hlen => ?_) fun a vs e hl rt p hlen => ?_
 ·rw [e]
  refine call_tuple_list hl (fun h' kp => ?_) (by rw [hlen]; exact h.1)
  obtain ⟨I2, E2⟩ := I.keeps kp
  have := zhL (s := { s with heap := h' }) (σ := σ) (k := s.toks) I2 (p.mono E2.up.fz)
  exact Ok.trans (s1 := { s with heap := h' }) E2 ⟨rfl, rfl, rfl⟩ (Is.ok (d := .pd (.tuple l)) h.2 this)
 ·have := zbJ I rt
  rw [e] at this ⊢
  exact call_tuple_tup hl (Is.ok (d := .pd (.tuple l)) h.2 this)
theorem zgj (ok : StaOk S) {v : Value} {x : V} (hn : A.handled = none) (I : Inv S fr g σ s.heap) (r : VR S s.heap g v x) (h : zfd x σ K) :
  wpAny S.M A (call (.type "tuple") [v]) (Ok S fr No (RV S) g s K) Ev s := by
 unfold zfd at h
 cases hr : rngV x with
 | some p =>
  rw [hr] at h
  obtain ⟨⟨h1, h2, h3, h4, h5⟩, h⟩ := zar h
  have r := zg9 hr ▸ r
  cases r with
  | rng k e =>
   refine zeT (n := (_ - _ : Int).toNat) hn e (zcH h1 h2 h3 h4) (rangeSize_nat _ _) (Int.toNat_le.mpr h5) fun h' tk acc kp q => ?_
   obtain ⟨I2, E2⟩ := I.keeps kp
   exact Ok.trans (s1 := { s with heap := h' }) E2 ⟨rfl, rfl, rfl⟩ (Is.ok h (zhL (s := { s with heap := h' }) (σ := σ) (k := tk) I2 (zea q)))
 | none =>
  rw [hr] at h
  exact zal h fun l hl h => zc8 ok I r hl (zar h)
theorem ze0 {P : Params} {h : Heap} {κ : Addr -> Kd} : ∀ {vs : List Value} {l : List Int}, IntsAre vs l -> PVs P h κ vs (l.map .int)
 | _, _, .nil => .nil
 | _, _, .cons n t r => .cons (.int n t) (ze0 r)
theorem zfs {a b : List Int} (p : a.Perm b) (s : a.Pairwise (· <= ·)) : a = za1 b := ksm_same (p.trans (zby b).symm) s (zbl b)
theorem zfo {vs : List Value} {ns : List Int} (h : IntsAre vs ns) : vs.length = ns.length := IntsAre.length h
theorem zhk : ∀ (l ns : List Int), l.Nodup -> (∀ k ∈ l, k ∈ ns) -> ns.length = l.length -> ns.Perm l
 | [], ns, _, _, e => by rw [List.length_eq_zero_iff.mp e]
 | k :: r, ns, nd, h, e => by
  obtain ⟨n1, n2⟩ := List.nodup_cons.mp nd
  have hk := h k List.mem_cons_self
  have p := List.perm_cons_erase hk
  refine p.trans (.cons k (zhk r (ns.erase k) n2 (fun j hj => ?_) (by rw [List.length_erase_of_mem hk, e]; rfl)))
  rcases List.mem_cons.mp (p.mem_iff.mp (h j (List.mem_cons_of_mem _ hj))) with rfl | q
  ·exact absurd hj n1
  ·exact q
theorem zkW {l : List Int} {o : Obj} {es : Array (Int × Value)} {ep : Nat} {t : SetTable} {m : Nat} {a : Addr} {h : Heap} (G : SetG S.prog S.w h a l o es ep t m) (nd : l.Nodup) : ∃ ns, IntsAre ((ordA S.w a ep es).toList.map (·.2)) ns /\ ns.Perm l := by
 have p := zdC S.w a ep es
 have key : ∀ (q : List (Int × Value)), (∀ e ∈ q, ∃ k, (intKind S.prog S.w).is k e.2 = true) -> ∃ ns, IntsAre (q.map (·.2)) ns /\ ∀ k, k ∈ ns ↔ ∃ e ∈ q, (intKind S.prog S.w).is k e.2 = true := by
  intro q
  induction q with
  | nil => intro _; exact ⟨[], .nil, fun k => ⟨fun h => (nomatch h), fun ⟨_, h, _⟩ => (nomatch h)⟩⟩
  | cons e r ih =>
   intro hq
   obtain ⟨ns, i1, i2⟩ := ih fun e he => hq e (List.mem_cons_of_mem _ he)
   obtain ⟨k, hk⟩ := hq e List.mem_cons_self
   obtain ⟨u, eu⟩ := Value.isInt_shape hk
   refine ⟨k :: ns, by rw [List.map_cons, eu]; exact .cons k u i1, fun j => ?_⟩
   rw [List.mem_cons, i2 j]
   refine ⟨fun z => ?_, fun ⟨e', he, hj⟩ => ?_⟩
   ·rcases z with rfl | ⟨e', he, hj⟩
    ·exact ⟨e, List.mem_cons_self, hk⟩
    ·exact ⟨e', List.mem_cons_of_mem _ he, hj⟩
   ·rcases List.mem_cons.mp he with rfl | he
    ·exact .inl ((intKind S.prog S.w).inj _ _ _ hj hk)
    ·exact .inr ⟨e', he, hj⟩
 obtain ⟨ns, i1, i2⟩ := key _ fun e he => G.el.keys e (p.mem_iff.mp he)
 refine ⟨ns, i1, ?_⟩
 have mem : ∀ k, k ∈ ns ↔ k ∈ l := fun k => (i2 k).trans (Iff.trans ⟨fun ⟨e, he, q⟩ => ⟨e, p.mem_iff.mp he, q⟩, fun ⟨e, he, q⟩ => ⟨e, p.mem_iff.mpr he, q⟩⟩ (G.mem k).symm)
 have len : ns.length = l.length := by rw [← zfo i1, List.length_map, p.length_eq, Array.length_toList, G.size]
 exact zhk l ns nd (fun k hk => (mem k).mpr hk) len
theorem zaY : ∀ (l acc : List Int), acc.Nodup -> (l.foldl step_dedup acc).Nodup
 | [], _, h => h
 | k :: r, acc, h => zaY r _ (by
  unfold step_dedup
  by_cases q : acc.any (· == k) = true
  ·rw [if_pos q]; exact h
  ·rw [if_neg q]; exact List.nodup_append.mpr ⟨h, List.nodup_cons.mpr ⟨List.not_mem_nil, .nil⟩, fun a ha b hb => by
    rw [List.mem_singleton] at hb; subst hb; rintro rfl; exact q (any_mem.mpr ha)⟩)
theorem zdQ (ns : List Int) : firstMet (fun i => ns.getD i 0) ns.length = dedup ns := by
 unfold firstMet dedup
 congr 1
 refine List.ext_getElem (by simp) fun i h1 h2 => ?_
 simp [List.getD_eq_getElem?_getD, h2]
theorem zge (ok : StaOk S) {h' : Heap} {b : Addr} {out : Array Value} {e tk : Nat} {ns' : List Int} (I : Inv S fr g σ s.heap) (h1 : h'.get? b = some (seqObj "list" out e)) (h2 : s.heap.get? b = none) (kp : Kept s h') (ia : IntsAre out.toList ns') :
  Is S fr g σ s (.pd (.list (ns'.map .int))) (.ref b) { s with heap := h', toks := tk } := by
 obtain ⟨I2, E2⟩ := I.new (k := .fz) kp h2 h1
 have nb : b ≠ sysModules := fun q => by
  obtain ⟨o, e⟩ := ok.sm
  rw [q, I.stays _ _ e] at h2; cases h2
 exact ⟨_, σ, _, ⟨rfl, rfl⟩, E2, I2, .pd (.list (if_pos rfl) h1 rfl rfl nb (ze0 ia)), ⟨rfl, rfl, rfl⟩⟩
theorem zmv {v : V} {l : List Int} (h : setV v = some l) : v = .set l := by cases v <;> cases h; rfl
theorem ze1 (ok : StaOk S) {v : Value} {x : V} {l : List Int} (hn : A.handled = none) (I : Inv S fr g σ s.heap) (r : VR S s.heap g v x) (hl : ziK σ x = some l) (h : K (.pd (.list ((za1 l).map .int))) σ) :
  wpAny S.M A (call (.builtin "sorted") [v]) (Ok S fr No (RV S) g s K) Ev s := by
 have fin : ∀ {src : Value} {vs : List Value} {ns : List Int}, (∀ {A' : Around} {Q' : List Value -> Shared -> Prop} {E' : Value -> Shared -> Prop}, A'.handled = none -> (∀ h' tk, Kept s h' -> Q' vs { s with heap := h', toks := tk }) -> wpAny S.M A' (collect src) Q' E' s) ->
   IntsAre vs ns -> ns.Perm l -> vs.length < 64 -> wpAny S.M A (call (.builtin "sorted") [src]) (Ok S fr No (RV S) g s K) Ev s := fun col ia pm h64 =>
  zgR hn col ia h64 fun h' tk b out e ns' q1 q2 kp ia' p' s' => by
   rw [← zfs (p'.trans pm) s'] at h
   exact Is.ok h (zge ok I q1 q2 kp ia')
 refine zaG hl (fun q => bd_e q fun l' h1 q => gd_e q fun h4 e => ?_) fun q => bd_e q fun l' h1 q => bd_e q fun l'' h2 q => gd_e h2 fun h64 e => ?_
 ·subst e
  cases zmv h1 ▸ r with
  | set k e si b nd =>
   obtain ⟨o, es, ep, t, m, G⟩ := si.2 h4
   obtain ⟨ns, i1, i2⟩ := zkW G nd
   exact fin (fun hh h => zfi hh G h) i1 i2 (by rw [zfo i1, i2.length_eq]; omega)
 ·subst e
  refine r.seqK I h1 (fun a vs e hl p hlen => ?_) fun a vs e hl _ p hlen => ?_
  ·obtain ⟨ob, ho, hc, n, hd⟩ := hl
   exact e ▸ fin (fun hh h => zc2 (.inl rfl) ho hc (vs := vs.toList) hd (by rw [Array.length_toList, hlen, sizeLine_eq]; omega) h) (zaQ p q) (.refl _) (by rw [Array.length_toList, hlen]; exact h64)
  ·obtain ⟨ob, ho, hc, n, hd⟩ := hl
   exact e ▸ fin (fun hh h => zc2 (.inr rfl) ho hc (vs := vs.toList) hd (by rw [Array.length_toList, hlen, sizeLine_eq]; omega) h) (zaQ p q) (.refl _) (by rw [Array.length_toList, hlen]; exact h64)
theorem zi9 (ok : StaOk S) {v : Value} {x : V} {l : List Int} (hn : A.handled = none) (I : Inv S fr g σ s.heap) (r : VR S s.heap g v x) (hl : (seqT σ x).bind zbb = some l) (h : l.length < 1000 /\ K (.set (dedup l)) σ) :
  wpAny S.M A (call (.type "set") [v]) (Ok S fr No (RV S) g s K) Ev s := by
 have sb : scanBound = 4096 := rfl
 refine bd_e hl fun l' h1 q => ?_
 have fin : ∀ {a : Addr} {ob itO : Obj} {T : String} {vs : Array Value} {St : Addr -> Nat -> Heap -> Prop}, v = .ref a -> s.heap.get? a = some ob -> Src S.prog S.w a ob T itO vs.size (fun i v => vs[i]? = some v) St -> PVs S.w.params s.heap g.κ vs.toList l' -> wpAny S.M A (call (.type "set") [v]) (Ok S fr No (RV S) g s K) Ev s := fun {a ob itO T vs St} e ho W p => by
  have ia := zaQ p q
  have hz : vs.size = l.length := by rw [← Array.length_toList]; exact zfo ia
  have hn0 : s.heap.get? s.heap.objs.size = none := Heap.get?_none_of_le (Nat.le_refl _)
  rw [e]
  refine ziZ (val := fun i => l.getD i 0) hn W ho (fun i v hv => ia.int_at i v (by rw [Array.getElem?_toList]; exact hv)) (by rw [hz, sb]; omega) fun h' tk G kp => ?_
  rw [hz, zdQ] at G
  obtain ⟨o, es, ep, t, m, r⟩ := id G.1
  obtain ⟨I2, E2⟩ := I.new (k := .fz) kp hn0 m
  have dl : (dedup l).length <= l.length := by rw [← zdQ]; exact firstMet_length_le _ _
  exact ⟨_, σ, _, h.2, E2, I2, .set (if_pos rfl) m G (by rw [sb]; omega) (zaY l [] .nil), ⟨rfl, rfl, rfl⟩⟩
 refine r.seqK I h1 (fun a vs e hl p hlen => ?_) fun a vs e hl _ p hlen => ?_
 ·obtain ⟨ob, ho, hc, n, hd⟩ := hl
  exact fin e ho (ziJ hc hd) p
 ·obtain ⟨ob, ho, hc, n, hd⟩ := hl
  exact fin e ho (zgO hc hd) p
theorem zja {v u : Value} {i j : Int} (hn : A.handled = none) (I : Inv S fr g σ s.heap) (r : VR S s.heap g v (.pd (.int i))) (q : VR S s.heap g u (.pd (.int j))) (h : K (.pd (.int (if i < j then j else i))) σ) : wpAny S.M A (call (.builtin "max") [v, u]) (Ok S fr No (RV S) g s K) Ev s := by
 obtain ⟨t, rfl⟩ := zbD r
 obtain ⟨t', rfl⟩ := zbD q
 refine max_two_ints hn fun h' tk kp => ?_
 obtain ⟨I2, E2⟩ := I.keeps kp
 by_cases c : i < j
 ·rw [if_pos c] at h; rw [if_pos (show j > i from c)]; exact ⟨_, σ, g, h, E2, I2, .pd (.int _ _), ⟨rfl, rfl, rfl⟩⟩
 ·rw [if_neg c] at h; rw [if_neg (show ¬ j > i from c)]; exact ⟨_, σ, g, h, E2, I2, .pd (.int _ _), ⟨rfl, rfl, rfl⟩⟩
theorem zi8 {v : Value} {i : Int} (I : Inv S fr g σ s.heap) (r : VR S s.heap g v (.pd (.int i))) (h : i.natAbs.log2 < 1920 /\ K (.pd (.str (Str.ofString (toString i)))) σ) : wpAny S.M A (call (.type "str") [v]) (Ok S fr No (RV S) g s K) Ev s := by
 obtain ⟨t, rfl⟩ := zbD r
 exact P.str_of_int h.1 (Is.ok h.2 (zcQ I))
theorem zg6 (ok : StaOk S) {h' : Heap} {c' : Nat} {k : Nat} {vs : Array Value} {l : List PyData} (I : Inv S fr g σ s.heap) (p : PVs S.w.params s.heap g.κ vs.toList l) (kp : ∀ b o, s.heap.get? b = some o -> h'.get? b = some o) (e : h'.get? s.heap.objs.size = some { cls := .type "list", dict := none, data := .seq vs c', slots := #[] }) :
  Is S fr g σ s (.pd (.list l)) (.ref s.heap.objs.size) { s with heap := h', toks := k } := by
 have hn : s.heap.get? s.heap.objs.size = none := Heap.get?_none_of_le (Nat.le_refl _)
 obtain ⟨I2, E2⟩ := I.new (k := .fz) kp hn e
 exact ⟨_, σ, _, ⟨rfl, rfl⟩, E2, I2, .pd (.list (if_pos rfl) e rfl rfl (ze6 ok I) (p.mono E2.up.fz)), ⟨rfl, rfl, rfl⟩⟩
theorem zcO {v : Value} {x : V} {l : List PyData} {Q : Value -> Shared -> Prop} (I : Inv S fr g σ s.heap) (r : VR S s.heap g v x) (hl : seqT σ x = some l) (hz : l.length <= sizeLine)
  (h : ∀ h' c' (vs : Array Value), PVs S.w.params s.heap g.κ vs.toList l -> (∀ b o, s.heap.get? b = some o -> h'.get? b = some o) -> h'.get? s.heap.objs.size = some { cls := .type "list", dict := none, data := .seq vs c', slots := #[] } -> Q (.ref s.heap.objs.size) { s with heap := h' }) :
  wpAny S.M A (call (.type "list") [v]) Q Ev s := by
 refine r.seqK I hl (fun a vs e hl p hlen => ?_) fun a vs e hl _ p hlen => ?_
 ·rw [e]
  obtain ⟨o, ho, hc, n, hd⟩ := hl
  exact call_list_seq a (.inl rfl) ho hc hd (fun h' c' kp e => h h' c' vs p kp e) (by rw [hlen]; exact hz)
 ·rw [e]
  obtain ⟨o, ho, hc, n, hd⟩ := hl
  exact call_list_seq a (.inr rfl) ho hc hd (fun h' c' kp e => h h' c' vs p kp e) (by rw [hlen]; exact hz)
theorem zhg (ok : StaOk S) {v : Value} {x : V} (hn : A.handled = none) (I : Inv S fr g σ s.heap) (r : VR S s.heap g v x) (h : zh1 x σ K) :
  wpAny S.M A (call (.type "list") [v]) (Ok S fr No (RV S) g s K) Ev s := by
 unfold zh1 at h
 cases hr : rngV x with
 | some p =>
  rw [hr] at h
  obtain ⟨⟨h1, h2, h3, h4, h5⟩, h⟩ := zar h
  have r := zg9 hr ▸ r
  cases r with
  | rng k e =>
   refine call_list_range (n := (_ - _ : Int).toNat) hn e ?_ (rangeSize_nat _ _) (Int.toNat_le.mpr h5) fun h' tk acc c' kp e q => Is.ok h (zg6 ok I (zea q) kp e)
   exact zcH h1 h2 h3 h4
 | none =>
  rw [hr] at h
  exact zal h fun l hl h => zcO I r hl (zar h).1 fun h' c' vs p kp e => Is.ok (zar h).2 (zg6 (k := s.toks) ok I p kp e)
theorem zjZ (I : Inv S fr g σ s.heap) {o : O} {h' : Heap} (kp : ∀ b o, s.heap.get? b = some o -> h'.get? b = some o) (ha : Up g (g.mu s.heap.objs.size) s.heap h' -> MO S h' (g.mu s.heap.objs.size) s.heap.objs.size o) (hK : K (.ref σ.length) (σ ++ [o])) :
  Ok S fr No (RV S) g s K (.ref s.heap.objs.size) { s with heap := h' } := by
 obtain ⟨I2, E2⟩ := I.newMu kp (Heap.get?_none_of_le (Nat.le_refl _)) ha
 have e : (g.mu s.heap.objs.size).μ σ.length = s.heap.objs.size := by rw [I.num]; exact if_pos rfl
 refine ⟨_, _, _, hK, E2, I2, ?_, ⟨rfl, rfl, rfl⟩⟩
 conv => lhs; rw [← e]
 exact .ref (by show σ.length < g.n + 1; rw [I.num]; exact Nat.lt_succ_self _)
theorem zgl {v : Value} {x : V} {l : List PyData} (I : Inv S fr g σ s.heap) (r : VR S s.heap g v x) (hl : seqT σ x = some l) (h : l.length <= sizeLine /\ K (.ref σ.length) (σ ++ [.list l])) : wpAny S.M A (call (.type "list") [v]) (Ok S fr No (RV S) g s K) Ev s :=
 zcO I r hl h.1 fun h' c' vs p kp e => zjZ I kp (fun u => .list (vs := vs.toList) e (p.mono u.fz)) h.2
theorem zhl : ∀ {kv : List (Str × V)} {ds : List (PyData × PyData)} {l : List (Str × V)}, kvPd kv = some ds -> pdKv ds = some l -> kv = l
 | [], ds, l, h1, h2 => by cases h1; cases h2; rfl
 | p :: r, ds, l, h1, h2 => bd_e h1 fun d e h1 => zbe h1 fun q e2 h1 => by
  subst h1
  refine bd_e h2 fun y hy h2 => zbe h2 fun q' e3 h2 => ?_
  subst h2
  rw [← Option.some.inj hy, ← zhl e2 e3, ← zbm e]
theorem zgm (ok : StaOk S) {v : Value} {x : V} {l : List (Str × V)} (I : Inv S fr g σ s.heap) (r : VR S s.heap g v x) (hl : kvV σ x = some l) (h : l.length <= sizeLine /\ K (.ref σ.length) (σ ++ [.dict l])) : wpAny S.M A (call (.type "dict") [v]) (Ok S fr No (RV S) g s K) Ev s := by
 have go : ∀ {a : Addr} {es : List DictEntry} {n : Nat}, v = .ref a -> (a == sysModules) = false -> s.heap.get? a = some ⟨.type "dict", none, .dict es.toArray n, #[]⟩ -> VEs S s.heap g es l -> wpAny S.M A (call (.type "dict") [v]) (Ok S fr No (RV S) g s K) Ev s := fun {a es n} e e3 e1 e2 => by
  obtain ⟨vs, k1, k2, k3⟩ := zj0 e2
  have hd : s.heap.DictOf (zb4 S) a vs := ⟨_, _, _, e1, ⟨rfl, rfl, rfl⟩, rfl, fun e he => zds e2 e (by simpa using he), k2, by rw [k1.keys]; exact k3⟩
  have hlen : vs.length = l.length := by have := congrArg List.length k1.keys; simpa using this
  rw [e]
  refine kt_call_dict e3 hd (by rw [hlen]; exact h.1) fun h' hd' sb => ?_
  obtain ⟨⟨oc, od, odt, osl⟩, es', ep, q1, ⟨q2, q3, q4⟩, q5, q6, q7, q8⟩ := hd'
  simp only at q2 q3 q4 q5
  subst q2 q3 q4 q5
  refine zjZ I (fun b o q => (sb.2 b fun z => Nat.lt_irrefl _ (z ▸ Heap.lt_size q)).trans (Heap.get?_push_of_some _ q)) (fun u => .dict (es := es'.toList) q1 (zkg (k1.mono u) (fun e he => q6 e (Array.mem_toList_iff.mp he)) q7 k3)) h.2
 refine zaG hl (fun q => zbe q fun p hp q => ?_) fun q => bd_e q fun d hd q => ?_
 ·obtain ⟨z, e⟩ := zdo hp
  obtain ⟨a, es, n, e0, _, _, e1, e2, e3⟩ := (z ▸ r).refDict ok I e
  exact go e0 e3 e1 (q ▸ e2)
 ·refine bd_e hd fun d' h1 h2 => ?_
  obtain rfl := zc0 h2
  obtain ⟨a, es, n, kv, e0, _, e1, e2, e3, _, _, e4⟩ := (zbm h1 ▸ r : VR S s.heap g v (.pd (.dict d))).pdDict
  exact go e0 e3 e1 (zhl e4 q ▸ e2)
theorem ze3 {v : Value} {n : Int} (I : Inv S fr g σ s.heap) (r : VR S s.heap g v (.pd (.int n))) (h : K (.rng 0 n) σ) : wpAny S.M A (call (.type "range") [v]) (Ok S fr No (RV S) g s K) Ev s := by
 obtain ⟨t, rfl⟩ := zbD r
 refine call_range_1 ?_
 have hn : s.heap.get? s.heap.objs.size = none := Heap.get?_none_of_le (Nat.le_refl _)
 obtain ⟨I2, E2⟩ := I.new (k := .fz) (fun b o q => Heap.get?_push_of_some _ q) hn (IsRange.new s.heap 0 n 1 s.toks t (s.toks + 1))
 exact ⟨_, σ, _, h, E2, I2, .rng (if_pos rfl) (IsRange.new s.heap 0 n 1 s.toks t (s.toks + 1)), ⟨rfl, rfl, rfl⟩⟩
theorem ze2 {v u : Value} {n m : Int} (I : Inv S fr g σ s.heap) (r : VR S s.heap g v (.pd (.int n))) (r2 : VR S s.heap g u (.pd (.int m))) (h : K (.rng n m) σ) : wpAny S.M A (call (.type "range") [v, u]) (Ok S fr No (RV S) g s K) Ev s := by
 obtain ⟨t, rfl⟩ := zbD r
 obtain ⟨t', rfl⟩ := zbD r2
 refine call_range_2 ?_
 have hn : s.heap.get? s.heap.objs.size = none := Heap.get?_none_of_le (Nat.le_refl _)
 obtain ⟨I2, E2⟩ := I.new (k := .fz) (fun b o q => Heap.get?_push_of_some _ q) hn (IsRange.new s.heap n m 1 t t' s.toks)
 exact ⟨_, σ, _, h, E2, I2, .rng (if_pos rfl) (IsRange.new s.heap n m 1 t t' s.toks), ⟨rfl, rfl, rfl⟩⟩
theorem zbO {P : Prop} {vs : List Value} {xs : List V} {k : V -> Prop} (r : VRs S s.heap g vs xs) (h : one xs k) (c : ∀ v x, vs = [v] -> VR S s.heap g v x -> k x -> P) : P :=
 zop h fun x e h => by
  obtain ⟨v, q, r1⟩ := vrs1 (e ▸ r)
  exact c v x q r1 h
theorem zkv {P : Prop} {vs : List Value} {xs : List V} {k : V -> V -> Prop} (r : VRs S s.heap g vs xs) (h : two xs k) (c : ∀ v u x y, vs = [v, u] -> VR S s.heap g v x -> VR S s.heap g u y -> k x y -> P) : P :=
 zn4 h fun x y e h => by
  obtain ⟨v, u, q, r1, r2⟩ := vrs2 (e ▸ r)
  exact c v u x y q r1 r2 h
theorem zgk {vs : List Value} {xs : List V} (I : Inv S fr g σ s.heap) (r : VRs S s.heap g vs xs) (h : zfe xs σ K) : wpAny S.M A (call (.type "range") vs []) (Ok S fr No (RV S) g s K) Ev s := by
 have two : two xs (fun v u => need (intV v) fun a => need (intV u) fun b => K (.rng a b) σ) -> wpAny S.M A (call (.type "range") vs []) (Ok S fr No (RV S) g s K) Ev s := fun h =>
  zkv r h fun v u x y e r1 r2 h => zal h fun a ha h => zal h fun b hb h => e ▸ ze2 I (zbF ha ▸ r1) (zbF hb ▸ r2) h
 cases xs with
 | nil => exact two h
 | cons x q =>
  cases q with
  | nil =>
   obtain ⟨v, e, r1⟩ := vrs1 r
   exact zal h fun n hn h => e ▸ ze3 I (zbF hn ▸ r1) h
  | cons y q => exact two h
theorem zhf (ok : StaOk S) {p : Prim} {vs : List Value} {xs : List V} (room : Room A) (hn : A.handled = none) (I : Inv S fr g σ s.heap) (r : VRs S s.heap g vs xs) (h : zao p xs σ K) : wpAny S.M A (call (zec p) vs []) (Ok S fr No (RV S) g s K) Ev s := by
 cases p with
 | len => exact zbO r h fun v x e r h => zal h fun l hl h => e ▸ zjb I r hl (zar h)
 | isi =>
  refine zkv r h fun v u x y e r1 r2 h => zal h fun d hd h => zal h fun n hn h => zal h fun b hb h => ?_
  have r2 : VR S s.heap g u (.ty n) := zn3 hn ▸ r2
  rw [e, zn2 r2]
  exact zjc I (zbm hd ▸ r1) hb h
 | int => exact zbO r h fun v x e r h => zal h fun d hd h => zal h fun i hi h => e ▸ zjd I (zbm hd ▸ r) hi h
 | str => exact zbO r h fun v x e r h => zal h fun i hi h => e ▸ zi8 I (zbF hi ▸ r) (zar h)
 | list => exact zbO r h fun v x e r h => e ▸ zhg ok hn I r h
 | mlist => exact zbO r h fun v x e r h => zal h fun l hl h => e ▸ zgl I r hl (zar h)
 | mdict => exact zbO r h fun v x e r h => zal h fun l hl h => e ▸ zgm ok I r hl (zar h)
 | repr => exact zbO r h fun v x e r h => zal h fun d hd h => e ▸ zhe ok room I r hd (zbi h)
 | tuple => exact zbO r h fun v x e r h => e ▸ zgj ok hn I r h
 | range => exact zgk I r h
 | abs => exact zbO r h fun v x e r h => zal h fun i hi h => e ▸ zje I (zbF hi ▸ r) h
 | sorted => exact zbO r h fun v x e r h => zal h fun l hl h => e ▸ ze1 ok hn I r hl h
 | set => exact zbO r h fun v x e r h => zal h fun l hl h => e ▸ zi9 ok hn I r hl (zar h)
 | max => exact zkv r h fun v u x y e r1 r2 h => zal h fun i hi h => zal h fun j hj h => e ▸ zja hn I (zbF hi ▸ r1) (zbF hj ▸ r2) h
end
noncomputable def ownNames : List Str := ["len", "isinstance", "int", "str", "repr", "tuple", "list", "range", "sorted", "set", "dict", "zip", "min", "max", "abs", "bool"].map Str.ofString
structure StaOk3 (S : Sta) : Prop extends StaOk2 S where
 free : ∀ x ∈ ownNames, S.mg x = none
 ko : KOk S
section
variable {S : Sta} {G : zab} {nd : Nat} {hd : Bool} {cx : Cx}
theorem zgu : ∀ p ∈ [(Str.ofString "isinstance", Value.builtin "isinstance")] ++ primTab.map (fun p => (p.1, zec p.2)) ++ tyTab.map (fun p => (p.1, Value.type p.2)), p.1 ≠ "__name__" /\ p.1 ∈ ownNames /\ bootBuiltins p.1 = some p.2 := by decide +kernel
theorem ze4 (ok : StaOk3 S) {x : Str} {v : Value} (h : (x, v) ∈ [(Str.ofString "isinstance", Value.builtin "isinstance")] ++ primTab.map (fun p => (p.1, zec p.2)) ++ tyTab.map (fun p => (p.1, Value.type p.2))) : S.mg x = none /\ S.mb x = some v := by
 obtain ⟨h1, h2, h3⟩ := zgu _ h
 exact ⟨ok.free _ h2, (ok.builtins _ h1).trans h3⟩
theorem zi7 (ok : StaOk3 S) {x : Str} {p : Prim} (h : zhi x = some p) : S.mg x = none /\ S.mb x = some (zec p) :=
 ze4 ok (List.mem_append_left _ (List.mem_append_right _ (List.mem_map_of_mem (f := fun p => (p.1, zec p.2)) (zaB h))))
theorem zmg (ok : StaOk3 S) {x : Str} {n : String} (h : tyOf x = some n) : S.mg x = none /\ S.mb x = some (.type n) :=
 ze4 ok (List.mem_append_right _ (List.mem_map_of_mem (f := fun p => (p.1, Value.type p.2)) (zaB h)))
theorem zjj {b : Bool} {p : Prim} : zec (mutP b p) = zec p := by cases b <;> cases p <;> rfl
theorem zhh {p : Prim} : ∀ a, zec p ≠ .ref a := by cases p <;> nofun
theorem ziN (ok : StaOk3 S) {x : Str} {q pos : Pos} {b : Bool} {p : Prim} {es : List PySem.Expr} {xs : List X} (hp : zhi x = some p) (hg : nmOf cx x = some .g) (hs : es.all (fun e => !zak e) = true) (hx : zb0 S G nd false cx es xs) (hn : es = [] -> xs = []) :
  SndX S G nd false cx (.Call (.Name x q) es [] pos) (.prim (mutP b p) xs) := by
 intro A env ev outer L Y m mc σ g s K E a I rd h
 replace h := zeu h
 obtain ⟨h1, h2⟩ := zi7 ok hp
 rw [arm_eval_Call_Name']
 refine wpAny_bind (zbq a ok.toStaOk I.stays hg h1 h2 ?_)
 refine zaT hs hx a I rd (P := fun _ => True) (za8 zhh) h hn fun vs ds σ1 g1 s1 h1 e1 i1 r1 z1 => ⟨trivial, ?_⟩
 exact zbp e1 z1 (wpAny_mono (zjj (b := b) (p := p) ▸ zhf ok.toStaOk a.room (a.hn rfl) i1 r1 h1) (fun _ _ x => x.trans e1 z1) fun _ _ x => x)
end
theorem zgv {o : PySem.Expr} (h : zdp o = true) {name : Str} {env : Env} {whole : Sem Value} : attributeBase o name env whole = whole := by
 cases o <;> try exact rfl
 rename_i f a k p
 cases f <;> try exact rfl
 cases a <;> try exact rfl
 cases k <;> first | exact rfl | cases h
theorem zcZ {o : PySem.Expr} {name : Str} {ap pos : Pos} {args : List PySem.Expr} {env : Env} (hb : zdp o = true) (hs : args.all (fun e => !zak e) = true) (hl : args.length < 20) (hp : (ap.endLine == pos.line) = true) :
  eval (.Call (.Attribute o name ap) args [] pos) env = (do
   let ov ← eval o env
   standAt ap.atName
   let fx ← holding [ov] (getMethod ov name (do return (← importBound o env).getD true))
   callWith pos fx.1 fx.2 (backTo pos (starEach args env)) []) := by
 have hf : methodCallForm (args.length + ([] : List Keyword).length) (backTo pos (starEach args env)) (backToKw pos (keywordEach [] env)) = true := by
  unfold methodCallForm
  have h1 := za0 (pos := pos) (ev := env) hs
  have h2 : (backTo pos (starEach args env)).all (fun p => !p.1) = true := by
   rw [List.all_eq_true]
   intro p hp
   have := List.any_eq_false.mp h1 p hp
   simpa using this
  have h3 : (backToKw pos (keywordEach [] env)) = [] := rfl
  rw [h2, h3]
  simp
  omega
 rw [arm_eval_Call, zgv hb]
 unfold methodCall calleeOf methodCallPos
 rw [hf, hp]
 rfl
noncomputable def lmId : LM -> String
 | .append => "list.append" | .pop => "list.pop"
section
variable {S : Sta} {fr : List Env} {A : Around} {g : Gh} {σ : Hp} {s : Shared} {d : V} {K : KV} {Ev : Value -> Shared -> Prop}
inductive MuList (S : Sta) (g : Gh) (h : Heap) (a : Value) (i : Nat) (l : List PyData) : Prop
 | mk (ws : Array Value) (n : Nat) (hi : i < g.n) (e : a = .ref (g.μ i)) (o : h.get? (g.μ i) = some ⟨.type "list", none, .seq ws n, #[]⟩) (p : PVs S.w.params h g.κ ws.toList l) (z : ws.size = l.length)
theorem VR.muList (I : Inv S fr g σ s.heap) {a : Value} {x : V} {p : Nat × List PyData} (ra : VR S s.heap g a x) (e : lstR σ x = some p) : MuList S g s.heap a p.1 p.2 := by
 obtain ⟨q, e⟩ := zm2 e
 obtain ⟨rfl, hi⟩ := zd1 (q ▸ ra)
 obtain ⟨vs, n, e1, r1⟩ := (I.mu _ _ e).asList
 exact ⟨_, _, hi, rfl, e1, r1, r1.length⟩
theorem zkd (I : Inv S fr g σ s.heap) {i : Nat} {o : O} {x : V} {v : Value} {h' : Heap} {k : Nat} (hi : i < g.n) (kp : Heap.SameBut (g.μ i) s.heap h') (hM : Up g g s.heap h' -> MO S h' g (g.μ i) o) (rv : VR S s.heap g v x) (hK : K x (σ.set i o)) :
  Ok S fr No (RV S) g s K v { s with heap := h', toks := k } := by
 have hs : ∃ ob, h'.get? (g.μ i) = some ob := by
  have kp2 : ∀ b o, b ≠ g.μ i -> s.heap.get? b = some o -> h'.get? b = some o := fun b o q e => (kp.2 b q).trans e
  have U : Up g g s.heap h' := ⟨Nat.le_refl _, fun _ _ => rfl, fun b o q e => ⟨q, kp2 b o (fun z => by rw [z, I.km i hi] at q; cases q) e⟩⟩
  exact (hM U).at
 obtain ⟨I2, E2⟩ := I.upMu hi (fun b o q e => (kp.2 b q).trans e) hs hM
 exact ⟨x, _, g, hK, E2, I2, rv.mono E2.up, ⟨rfl, rfl, rfl⟩⟩
theorem PVs.snoc {P : Params} {h : Heap} {κ : Addr -> Kd} {vs : Array Value} {l : List PyData} {v : Value} {d : PyData} (p : PVs P h κ vs.toList l) (q : PV P h κ v d) : PVs P h κ (vs.push v).toList (l ++ [d]) := by
 rw [Array.toList_push]; exact p.append (.cons q .nil)
theorem zhB (I : Inv S fr g σ s.heap) {a v : Value} {d : PyData} {i : Nat} {l : List PyData} (m : MuList S g s.heap a i l) (rv : VR S s.heap g v (.pd d)) (h : l.length < sizeLine /\ K (.pd .none) (σ.set i (.list (l ++ [d])))) :
  wpAny S.M A (call (.builtin "list.append") [a, v] []) (Ok S fr No (RV S) g s K) Ev s := by
 obtain ⟨ws, n, hi, e, e1, p, hl⟩ := m
 rw [e]
 exact append_at e1 (fun h' sb e2 => zkd (k := s.toks) I hi sb (fun u => .list (vs := (ws.push v).toList) e2 ((p.snoc (zbN rv)).mono u.fz)) (.pd .none) h.2) (hl ▸ Nat.le_of_lt h.1)
theorem zkf {h : Heap} {a : Addr} {f : Array Value -> Array Value} {ws : Array Value} {n : Nat} (e : h.get? a = some ⟨.type "list", none, .seq ws n, #[]⟩) : ∃ n', (h.update a (Obj.mapSeq f)).get? a = some ⟨.type "list", none, .seq (f ws) n', #[]⟩ :=
 ⟨_, by rw [Heap.get?_update_self _ e rfl]; rfl⟩
theorem zm3 (I : Inv S fr g σ s.heap) {a : Value} {d : PyData} {i : Nat} {l : List PyData} (m : MuList S g s.heap a i l) (hd : l.getLast? = some d) (h : l.length <= sizeLine /\ K (.pd d) (σ.set i (.list l.dropLast))) :
  wpAny S.M A (call (.builtin "list.pop") [a] []) (Ok S fr No (RV S) g s K) Ev s := by
 obtain ⟨ws, n, hi, e, e1, p, hl⟩ := m
 rw [e]
 rw [List.getLast?_eq_getElem?] at hd
 obtain ⟨y, hy, py⟩ := p.getA hd
 rw [← hl] at hy
 refine call_meets PySem.F.slot_list_pop ⟨_, e1, rfl⟩ PySem.F.entry_list_pop (PySem.F.args_list_pop_1 _) (MeetsSeq.list_pop_last (g.μ i) ws n y hy (hl ▸ h.1)) ⟨e1, ?_⟩
 obtain ⟨n', he⟩ := zkf (f := fun xs => xs.eraseIdxIfInBounds (ws.size - 1)) e1
 refine zkd (k := s.toks) I hi (Heap.SameBut.update ..) (fun u => .list (vs := (ws.eraseIdxIfInBounds (ws.size - 1)).toList) he ?_) (.pd py) h.2
 have : (ws.eraseIdxIfInBounds (ws.size - 1)).toList = ws.toList.take (l.length - 1) := by
  unfold Array.eraseIdxIfInBounds
  split
  ·rw [Array.toList_eraseIdx, List.eraseIdx_eq_dropLast, List.dropLast_eq_take, Array.length_toList, hl]
   rw [Array.length_toList]; exact Nat.sub_add_cancel (Nat.lt_of_le_of_lt (Nat.zero_le _) ‹_›)
  ·rename_i q
   have : ws.toList = [] := List.eq_nil_of_length_eq_zero (by rw [Array.length_toList]; exact Nat.le_zero.mp (Nat.not_lt.mp fun z => q (Nat.sub_lt z Nat.one_pos)))
   rw [this, List.take_nil]
 rw [this, List.dropLast_eq_take]
 exact (p.take _).mono u.fz
theorem zoy {q : LM} {o : V} {a : Value} {vs : List Value} {xs : List V} (I : Inv S fr g σ s.heap) (ra : VR S s.heap g a o) (r : VRs S s.heap g vs xs) (h : evLM q o xs σ K) :
  wpAny S.M A (call (.builtin (lmId q)) ([a] ++ vs) []) (Ok S fr No (RV S) g s K) Ev s := by
 cases q with
 | append => exact zbO r h fun v x e r h => zal h fun d hd h => zal h fun p hp h => e ▸ zhB I (ra.muList I hp) (zbm hd ▸ r) (zar h)
 | pop =>
  cases xs with
  | nil =>
   cases r
   exact zal h fun p hp h => zal h fun d hd h => zm3 I (ra.muList I hp) hd (zar h)
  | cons => exact h.elim
end
section
variable {S : Sta} {G : zab} {nd : Nat} {hd : Bool} {cx : Cx}
theorem zlx {q : LM} {y : Str} (hy : lmOf y = some q) : Slot "list" y (lmId q) /\ typeOf (.builtin (lmId q)) = pure (.type "method_descriptor") := by
 have : ∀ p ∈ [(Str.ofString "append", LM.append), (Str.ofString "pop", .pop)], Slot "list" p.1 (lmId p.2) /\ typeOf (.builtin (lmId p.2)) = pure (.type "method_descriptor") :=
  List.forall_mem_cons.mpr ⟨⟨PySem.F.slot_list_append, PySem.F.type_list_append⟩, List.forall_mem_cons.mpr ⟨⟨PySem.F.slot_list_pop, PySem.F.type_list_pop⟩, fun _ h => (List.not_mem_nil h).elim⟩⟩
 exact this _ (zaB hy)
theorem zmr (ok : StaOk S) {q : LM} {y : Str} {ap pos : Pos} {oe : PySem.Expr} {es : List PySem.Expr} {o : X} {xs : List X} (hy : lmOf y = some q) (hb : zdp oe = true) (hp : (ap.endLine == pos.line) = true) (hl : es.length < 20) (hs : es.all (fun e => !zak e) = true) (ho : SndX S G nd hd cx oe o) (hx : zb0 S G nd hd cx es xs) (hn : es = [] -> xs = []) :
  SndX S G nd hd cx (.Call (.Attribute oe y ap) es [] pos) (.lm q o xs) := by
 intro A env ev outer L Y m mc σ g s K E a I rd h
 replace h := zh6 h
 rw [zcZ hb hs hl hp]
 refine wpAny_bind (step (ho A env ev outer L Y m mc σ g s _ E a I rd h) fun v d σ1 g1 s1 h1 e1 i1 r1 z1 => ?_)
 obtain ⟨hk, h1⟩ := zar h1
 obtain ⟨p, hp⟩ := Option.isSome_iff_exists.mp hk
 obtain ⟨ws, n, hi', e, e2, pp, hl'⟩ := r1.muList i1 hp
 obtain ⟨sl, ty⟩ := zlx hy
 rw [e]
 refine wpAny_bind (wpAny_standAt (wpAny_bind (wpAny_holding (getMethod_list_of sl ty ⟨_, e2, rfl, _, rfl⟩ ⟨_, e2, rfl⟩ ?_))))
 rw [← e]
 refine zbp e1 z1 ?_
 refine zaT hs hx a i1 (rd.mono e1) (P := fun _ => True) (za8 (by nofun)) h1 hn fun vs ds σ2 g2 s2 h2 e2 i2 r2 z2 => ⟨trivial, ?_⟩
 exact wpAny_mono (zoy i2 (r1.mono e2.up) r2 h2) (fun _ _ x => x.trans (e1.trans e2) (z1.trans z2)) fun _ _ x => x
end
inductive LRs (S : Sta) (h : Heap) (g : Gh) : List Value -> List Loc -> Prop
 | nil : LRs S h g [] []
 | cons {v : Value} {vs : List Value} {l : Loc} {ls : List Loc} : LR S No h g v l -> LRs S h g vs ls -> LRs S h g (v :: vs) (l :: ls)
theorem LRs.of_vrs {S : Sta} {h : Heap} {g : Gh} {vs : List Value} {ds : List V} (r : VRs S h g vs ds) : LRs S h g vs (ds.map .v) := by
 induction r with
 | nil => exact .nil
 | cons a _ ih => exact .cons (.v a) ih
noncomputable abbrev RLs (S : Sta) : Heap -> Gh -> List Value -> List Loc -> Prop := fun h g v d => LRs S h g v d
noncomputable def zeS (S : Sta) (G : zab) (nd : Nat) (hd : Bool) (cx : Cx) (es : List PySem.Expr) (xs : List X) : Prop :=
 ∀ A env ev outer L Y m mc σ g s K E pos, Act S cx A env ev outer L nd hd -> Inv S (env :: outer) g σ s.heap -> Rd S cx ev Y s.heap g m mc -> evAs G S.gc m mc xs σ K E ->
  wpAny S.M A (spliced (backTo pos (starEach es ev))) (Ok S (env :: outer) No (RLs S) g s K) (Er S (env :: outer) No false g s E) s
theorem Inv.table {S : Sta} {fr : List Env} {g : Gh} {σ : Hp} {h h' : Heap} (I : Inv S fr g σ h) {c : Addr} {oc : Obj} {vs : Array Value} {t : Tok} {ps ps' : Array Value} {pos : Pos} (hx : Heap.ExtBut S.tp h h') (hn : h.get? c = none) (hc : h'.get? c = some oc) (hd : oc.data = .fields vs) (hv : vs[1]? = some (.str S.lq t))
  (h0 : h.get? S.tp = some (tabObj ps)) (hP : h'.get? S.tp = some (tabObj ps')) (ht : TriplesOk ps'.toList) (hh : ∀ p cv, codeAmong p ps'.toList = some cv -> codeAmong p ps.toList = some cv \/ cv = .ref c) :
  Inv S fr (g.put c .fz) σ h' /\ Ext No g (g.put c .fz) h h' := by
 have ne : ∀ b o, h.get? b = some o -> b ≠ c := fun b o e q => by rw [q, hn] at e; cases e
 have hk : ∀ b o, h.get? b = some o -> (g.put c .fz).κ b = g.κ b := fun b o e => if_neg (ne b o e)
 have kp : ∀ b o, g.κ b ≠ .tb -> h.get? b = some o -> h'.get? b = some o := fun b o q e => hx b o (fun z => q (z ▸ I.tb.k)) e
 have st : ∀ b o, h.get? b = some o -> ∃ o', h'.get? b = some o' := fun b o e => by
  by_cases z : b = S.tp
  ·rw [z]; exact ⟨_, hP⟩
  ·exact ⟨o, hx b o z e⟩
 have E : Ext No g (g.put c .fz) h h' := ⟨hk, Nat.le_refl _, fun _ _ => rfl, fun b o q e => ⟨(hk b o e).trans q, kp b o (by rw [q]; decide) e⟩, fun b o e _ _ _ _ q => kp b o q e, fun b o e _ q => ⟨o.slots, kp b o (by rw [q]; decide) e⟩, fun b o vs e _ q z => ⟨vs, z ▸ kp b o (by rw [q]; decide) e⟩, st⟩
 refine ⟨⟨fun b o e => kp b o (by rw [I.bfz b o e]; decide) (I.stays b o e), fun b o e => (hk b o (I.stays b o e)).trans (I.bfz b o e), fun b e => ?_, I.num, fun i o e => (I.mu i o e).mono_at E.up fun ob q => kp _ _ (by rw [I.km i (I.lt e)]; decide) q, fun i hi => ?_, I.inj, I.fr.mono E, ⟨(hk _ _ h0).trans I.tb.k, ps', hP, ht, fun p cv q => ?_⟩⟩, E⟩
 ·show (if b = c then Kd.fz else g.κ b) = .ot
  rw [if_neg (fun q => by rw [q, hc] at e; cases e)]
  refine I.ot b ?_
  cases z : h.get? b with
  | none => rfl
  | some o => obtain ⟨o', y⟩ := st b o z; rw [y] at e; cases e
 ·obtain ⟨ob, e⟩ := I.muAt hi
  exact (hk _ ob e).trans (I.km i hi)
 ·rcases hh p cv q with q | rfl
  ·obtain ⟨ps0, e0, _, h3⟩ := I.tb.at_
   rw [h0] at e0; cases e0
   obtain ⟨c1, oc1, vs1, t1, q1, q2, q3, q4⟩ := h3 p cv q
   exact ⟨c1, oc1, vs1, t1, q1, (E.fz _ _ q2 q3).1, (E.fz _ _ q2 q3).2, q4⟩
  ·exact ⟨c, oc, vs, t, rfl, if_pos rfl, hc, hd, hv⟩
noncomputable def zaA (cells : List (Str × Addr)) : Names -> List (Str × Addr) -> List (Str × Addr)
 | [], acc => acc
 | (x, k) :: r, acc => if k == .free then zaA cells r ((x, (cells.lookup x).getD 0) :: acc) else zaA cells r acc
theorem zbW {scope : Scope} {env : Env} (h : ∀ p ∈ scope.names, p.2 = .free -> ∃ c, env.cells.lookup p.1 = some c) : closureFor scope env = pure (zaA env.cells scope.names []) := by
 have : ∀ (l : Names) (acc : List (Str × Addr)), (∀ p ∈ l, p.2 = .free -> ∃ c, env.cells.lookup p.1 = some c) ->
   (forIn l acc fun (p : Str × NameKind) (cs : List (Str × Addr)) => do
    if p.2 == .free then do let a ← cellOf env p.1; pure (ForInStep.yield ((p.1, a) :: cs)) else pure (ForInStep.yield cs)) = (pure (zaA env.cells l acc) : Sem _) := by
  intro l
  induction l with
  | nil => intro acc _; rfl
  | cons p r ih =>
   intro acc hl
   obtain ⟨x, k⟩ := p
   rw [List.forIn_cons]
   unfold zaA
   cases hk : (k == NameKind.free) with
   | true =>
    obtain ⟨c, hc⟩ := hl (x, k) (.head _) (by simpa using hk)
    simp only [if_true, hc, Option.getD_some]
    have : cellOf env x = pure c := by unfold cellOf; dsimp only at hc; rw [hc]
    rw [this]
    simp only [pure_bind]
    exact ih _ fun q hq => hl q (.tail _ hq)
   | false =>
    simp only [Bool.false_eq_true, if_false, pure_bind]
    exact ih _ fun q hq => hl q (.tail _ hq)
 unfold closureFor
 have := this scope.names [] h
 simpa using this
theorem zav {α β : Type} [BEq α] [LawfulBEq α] {x : α} {k : β} : ∀ {l : List (α × β)}, l.lookup x = some k -> (x, k) ∈ l
 | [], h => by cases h
 | (a, b) :: r, h => by
  by_cases q : x = a
  ·subst q; simp [List.lookup] at h; subst h; exact .head _
  ·have : (x == a) = false := by simpa using q
   simp only [List.lookup, this] at h
   exact .tail _ (zav h)
theorem zb7 {α β : Type} [BEq α] [LawfulBEq α] {x : α} {k : β} : ∀ {l : List (α × β)}, (x, k) ∈ l -> ∃ k', l.lookup x = some k'
 | (a, b) :: r, h => by
  by_cases q : x = a
  ·subst q; exact ⟨b, by simp [List.lookup]⟩
  ·have : (x == a) = false := by simpa using q
   simp only [List.lookup, this]
   rcases List.mem_cons.mp h with h | h
   ·cases h; exact absurd rfl q
   ·exact zb7 h
theorem zc3 {cells : List (Str × Addr)} : ∀ {l : Names} {acc : List (Str × Addr)}, (∀ p ∈ acc, p.2 = (cells.lookup p.1).getD 0) -> ∀ p ∈ zaA cells l acc, p.2 = (cells.lookup p.1).getD 0
 | [], acc, h => h
 | (x, k) :: r, acc, h => by
  unfold zaA
  split
  ·exact zc3 fun p hp => (List.mem_cons.mp hp).elim (fun q => by rw [q]) (h p)
  ·exact zc3 h
theorem zbt {cells : List (Str × Addr)} {x : Str} : ∀ {l : Names} {acc : List (Str × Addr)}, ((x, NameKind.free) ∈ l \/ ∃ c, (x, c) ∈ acc) -> ∃ c, (x, c) ∈ zaA cells l acc
 | [], acc, h => h.elim (fun q => by cases q) id
 | (y, k) :: r, acc, h => by
  unfold zaA
  rcases h with h | ⟨c, h⟩
  ·rcases List.mem_cons.mp h with h | h
   ·cases h
    simp only [beq_self_eq_true, if_true]
    exact zbt (.inr ⟨_, .head _⟩)
   ·split <;> exact zbt (.inl h)
  ·split
   ·exact zbt (.inr ⟨c, .tail _ h⟩)
   ·exact zbt (.inr ⟨c, h⟩)
theorem zcn {cells : List (Str × Addr)} {x : Str} {c : Addr} {l : Names} (hc : cells.lookup x = some c) (h : l.lookup x = some .free) : (zaA cells l []).lookup x = some c := by
 obtain ⟨d, hd⟩ := zbt (cells := cells) (acc := []) (.inl (zav h))
 obtain ⟨d', hd'⟩ := zb7 hd
 have := zc3 (cells := cells) (l := l) (acc := []) (by simp) _ (zav hd')
 simp only [hc, Option.getD_some] at this
 rw [hd', this]
theorem zfv {vis : List Nat} : ∀ {m : Fm} {k i : Nat} {y : V}, (snap vis k m)[i]? = some (some y) -> m[i]? = some (some (.v y))
 | [], _, _, _, h => nomatch h
 | o :: r, k, 0, y, h => by
  have h : (match vis.contains k with | true => o.bind valL | false => none) = some y := Option.some.inj h
  cases hv : vis.contains k with
  | false => rw [hv] at h; cases h
  | true =>
   rw [hv] at h
   exact bd_e h fun l h1 h2 => by rw [h1, zj1 h2]; rfl
 | o :: r, k, i + 1, y, h => zfv (m := r) (k := k + 1) (i := i) h
theorem zgw {p : Pos} {a b : Int} {c cv : Value} (l : List Value) (h : TriplesOk l) (q : codeAmong p (l ++ [rawInt a, rawInt b, c]) = some cv) : codeAmong p l = some cv \/ cv = c := by
 fun_induction TriplesOk l with
 | case1 =>
  simp only [List.nil_append, rawInt, codeAmong] at q
  split at q
  ·cases q; exact .inr rfl
  ·cases q
 | case2 a' t b' u x rest ih =>
  simp only [List.cons_append, codeAmong] at q ⊢
  split at q
  ·rename_i e; rw [if_pos e]; exact .inl q
  ·rename_i e; rw [if_neg e]; exact ih h q
 | case3 l h1 h2 => exact h.elim
theorem zht {a : Arguments} (h : zfF a = true) : a = ⟨[], [], none, [], [], none, []⟩ := by
 obtain ⟨a, b, c, d, e, f, g⟩ := a
 obtain ⟨h1, h⟩ := Bool.and_eq_true_iff.mp h
 obtain ⟨h2, h⟩ := Bool.and_eq_true_iff.mp h
 obtain ⟨h3, h⟩ := Bool.and_eq_true_iff.mp h
 obtain ⟨h4, h⟩ := Bool.and_eq_true_iff.mp h
 obtain ⟨h5, h⟩ := Bool.and_eq_true_iff.mp h
 obtain ⟨h6, h⟩ := Bool.and_eq_true_iff.mp h
 rw [List.isEmpty_iff.mp h1, List.isEmpty_iff.mp h2, Option.isNone_iff_eq_none.mp h3, List.isEmpty_iff.mp h4, List.isEmpty_iff.mp h5, Option.isNone_iff_eq_none.mp h6, List.isEmpty_iff.mp h]
section
variable {S : Sta} {G : zab} {nd : Nat} {hd : Bool} {cx : Cx}
theorem zkN (ok : StaOk S) {fn : Names} {a : Arguments} {e : PySem.Expr} {sc : Scope} {pos : Pos} {b : X} {vis : List Nat} (hno : zfF a = true) (hl : zlA fn sc = true) (hc : lamX (S.at (zaW fn sc.names) none) e = some b)
  {A : Around} {env ev : Env} {outer : List Env} {L : Addr} {Y : Addr -> Prop} {m mc : Fm} {σ : Hp} {g : Gh} {s : Shared} {E : KE} (ac : Act S (S.at fn none true) A env ev outer L nd hd) (I : Inv S (env :: outer) g σ s.heap) (rd : Rd S (S.at fn none true) ev Y s.heap g m mc) :
  wpAny S.M A (eval (.Lambda a e sc pos) ev) (fun v s1 => ∃ g1, Ext No g g1 s.heap s1.heap /\ Inv S (env :: outer) g1 σ s1.heap /\ LR S No s1.heap g1 v (.lam b (snap vis 0 m)) /\ Rest s s1) (Er S (env :: outer) No false g s E) s := by
 obtain rfl := zht hno
 have l1 := Bool.and_eq_true_iff.mp hl
 have l2 := Bool.and_eq_true_iff.mp l1.1
 have l3 := Bool.and_eq_true_iff.mp l2.1
 have l4 := Bool.and_eq_true_iff.mp l3.1
 have hk := l4.1
 have hge := l4.2
 have hco := l3.2
 have hcell := l2.2
 have hfree := l1.2
 have hfr : ∀ p ∈ sc.names, p.2 = .free -> badN p.1 = false /\ ∃ i, zah fn p.1 0 = some (i, .cell) := fun p hp hq => by
  have := List.all_eq_true.mp hfree p hp
  simp only [Bool.or_eq_true, Bool.and_eq_true, bne_iff_ne, ne_eq, hq, not_true, false_or] at this
  refine ⟨by simpa using this.1, ?_⟩
  have := this.2
  split at this
  ·exact ⟨_, by assumption⟩
  ·cases this
 obtain ⟨hcode, hq⟩ := ac.lam rfl
 have hcells : ∀ x, (x, NameKind.free) ∈ sc.names -> ∃ i c o, zah fn x 0 = some (i, .cell) /\ ev.kindOf x = some .cell /\ ev.cells.lookup x = some c /\ g.κ c = .cl /\ s.heap.get? c = some o := fun x hx => by
  obtain ⟨_, i, hi⟩ := hfr _ hx rfl
  obtain ⟨h1, c, o, h2, h3, h4⟩ := rd.c rfl x i hi
  exact ⟨i, c, o, hi, h1, h2, h3, h4⟩
 have hcl : closureFor sc ev = pure (zaA ev.cells sc.names []) := zbW fun p hp hq => by
  obtain ⟨x, k⟩ := p
  dsimp only at hq; subst hq
  obtain ⟨i, c, o, _, _, h2, _⟩ := hcells x hp
  exact ⟨c, h2⟩
 have hg := zbd (fun o e => I.stays _ _ e) ok.g
 have hgP : mainGlobals ≠ S.tp := fun q => by
  obtain ⟨o, _, _, e, _⟩ := ok.g
  rw [q, ok.tn] at e; cases e
 have C := ok.lc.keeps fun b o e => I.stays b o e
 have hb := ok.ba _ I.stays
 have fin : ∀ (g1 : Gh) (h1 : Heap) (cv ctv pm : Value) (tk : Tok), Inv S (env :: outer) g1 σ h1 -> Ext No g g1 s.heap h1 -> (∃ c oc vs t, cv = .ref c /\ g1.κ c = .fz /\ h1.get? c = some oc /\ oc.data = .fields vs /\ vs[1]? = some (.str S.lq t)) ->
   ∃ g2, Ext No g g2 s.heap (h1.push { cls := .type "function", data := .func (kla_fn "<lambda>" S.lq ⟨[], [], none, [], [], none, []⟩ e sc (zaA ev.cells sc.names []) pm cv ctv) }) /\ Inv S (env :: outer) g2 σ (h1.push { cls := .type "function", data := .func (kla_fn "<lambda>" S.lq ⟨[], [], none, [], [], none, []⟩ e sc (zaA ev.cells sc.names []) pm cv ctv) }) /\
    LR S No (h1.push { cls := .type "function", data := .func (kla_fn "<lambda>" S.lq ⟨[], [], none, [], [], none, []⟩ e sc (zaA ev.cells sc.names []) pm cv ctv) }) g2 (.ref h1.objs.size) (.lam b (snap vis 0 m)) := by
  intro g1 h1 cv ctv pm tk I1 E1 hcv
  have hn : h1.get? h1.objs.size = none := Heap.get?_none_of_le (Nat.le_refl _)
  obtain ⟨I2, E2⟩ := I1.new (k := .fz) (fun b o q => Heap.get?_push_of_some _ q) hn (Heap.get?_push_size h1 (o := { cls := .type "function", data := .func (kla_fn "<lambda>" S.lq ⟨[], [], none, [], [], none, []⟩ e sc (zaA ev.cells sc.names []) pm cv ctv) }) rfl)
  refine ⟨_, E1.trans E2, I2, .lam ⟨_, _, fn, e, if_pos rfl, Heap.get?_push_size _ rfl, rfl, ⟨rfl, rfl, rfl, rfl, rfl, by simpa using hk, by simpa using hge, by simpa using hco, hc, fun x hx => by simpa using List.all_eq_true.mp hcell x hx⟩, ?_, fun x i hi hlk => ?_⟩⟩
  ·obtain ⟨c, oc, vs, t, q1, q2, q3, q4⟩ := hcv
   exact ⟨c, oc, vs, t, q1, (E2.fz _ _ q2 q3).1, (E2.fz _ _ q2 q3).2, q4.1, q4.2⟩
  ·obtain ⟨j, c, o, hj, k1, k2, k3, k4⟩ := hcells x (zav hlk)
   rw [hj] at hi; cases hi
   have EE := E1.trans E2
   have kc := EE.keep c o k4 id (by rw [k3]; decide) (by rw [k3]; decide) (by rw [k3]; decide) (by rw [k3]; decide)
   refine ⟨c, o, zcn k2 hlk, (EE.kind _ _ k4).trans k3, id, kc, fun y hy => ?_⟩
   have hm := zfv hy
   have hbad := (hfr _ (zav hlk) rfl).1
   have hnm : nmOf (S.at fn none true) x = some (.v j) := by
    exact zkc (cx := S.at fn none true) (by simpa using hbad) rfl hj
   obtain ⟨v, na, r⟩ := rd.v x j hnm _ hm
   rcases na with ⟨k, _⟩ | ⟨c', _, l', _, o', ho', hd'⟩
   ·rw [k1] at k; cases k
   ·rw [k2] at l'; cases l'
    rw [k4] at ho'; cases ho'
    cases r with
    | v r => exact ⟨v, ⟨o, kc, hd'⟩, r.mono EE.up⟩
 refine kla_eval rfl ?_
 rw [hq]
 obtain ⟨ps, h0, ht, hh⟩ := I.tb.at_
 cases hf : codeAmong pos ps.toList with
 | some cv =>
  refine kla_makeFunctionHit (mg := S.mg) hcl ac.gl hg hcode C h0 ht hf hb fun ctv h' tk kp hsz => ?_
  obtain ⟨I1, E1⟩ := I.keeps kp
  obtain ⟨c, oc, vs, t, q1, q2, q3, q4⟩ := hh pos cv hf
  obtain ⟨g2, E2, I2, r⟩ := fin g h' cv ctv _ tk I1 E1 ⟨c, oc, vs, t, q1, (E1.fz _ _ q2 q3).1, (E1.fz _ _ q2 q3).2, q4⟩
  exact ⟨g2, E2, I2, r, ⟨rfl, rfl, rfl⟩⟩
 | none =>
  refine kla_makeFunction (mg := S.mg) hcl ac.gl hg hcode C h0 ht hf hgP hb fun c' ctv h' tk hx hge hlt hrec hP => ?_
  obtain ⟨c, oc, vs, t, q1, q2, q3, q4⟩ := hrec
  cases q1
  have hn : s.heap.get? c' = none := Heap.get?_none_of_le hge
  obtain ⟨I1, E1⟩ := I.table (pos := pos) hx hn q2 q3 q4 h0 hP (by simpa using TriplesOk_snoc _ _ _ _ ht) fun p cv q => by
   rw [Array.toList_append] at q
   exact zgw _ ht q
  obtain ⟨g2, E2, I2, r⟩ := fin _ h' (.ref c') ctv _ tk I1 E1 ⟨c', oc, vs, t, rfl, if_pos rfl, q2, q3, q4⟩
  exact ⟨g2, E2, I2, r, ⟨rfl, rfl, rfl⟩⟩
theorem zk0 : zeS S G nd hd cx [] [] := by
 intro A env ev outer L Y m mc σ g s K E pos a I rd h
 exact spliced_none (.here (K := K) h ⟨I, .refl _ _ _⟩ .nil (.refl _))
theorem zi4 {e : PySem.Expr} {es : List PySem.Expr} {x : X} {xs : List X} (hx : SndX S G nd hd cx e x) (hr : zeS S G nd hd cx es xs) (hs : zak e = false) (hl : ∀ b v, x ≠ .lam b v) : zeS S G nd hd cx (e :: es) (x :: xs) := by
 intro A env ev outer L Y m mc σ g s K E pos a I rd h
 replace h := zij hl h
 refine spliced_more (step (hx A env ev outer L Y m mc σ g s _ E a I rd h) fun v d σ1 g1 s1 h1 e1 i1 r1 z1 => ?_) (by cases e <;> first | rfl | cases hs)
 refine zbp e1 z1 (step (hr A env ev outer L Y m mc σ1 g1 s1 _ E pos a i1 (rd.mono e1) h1) fun vs ds σ2 g2 s2 h2 e2 i2 r2 z2 => ?_)
 exact ⟨.v d :: ds, σ2, g2, h2, e1.trans e2, i2, .cons (.v (r1.mono e2.up)) r2, z1.trans z2⟩
theorem zk1 (ok : StaOk S) {fn : Names} {a : Arguments} {e : PySem.Expr} {sc : Scope} {pos : Pos} {b : X} {vis : List Nat} {es : List PySem.Expr} {xs : List X} (hno : zfF a = true) (hl : zlA fn sc = true) (hc : lamX (S.at (zaW fn sc.names) none) e = some b)
  (hr : zeS S G nd hd (S.at fn none true) es xs) : zeS S G nd hd (S.at fn none true) (.Lambda a e sc pos :: es) (.lam b vis :: xs) := by
 intro A env ev outer L Y m mc σ g s K E pos ac I rd h
 replace h := zik h
 refine spliced_more (wpAny_mono (zkN (vis := vis) ok hno hl hc ac I rd) (fun v s1 hv => ?_) fun _ _ x => x) rfl
 obtain ⟨g1, e1, i1, r1, z1⟩ := hv
 refine zbp e1 z1 (step (hr A env ev outer L Y m mc σ g1 s1 _ E pos ac i1 (rd.mono e1) h) fun vs ds σ2 g2 s2 h2 e2 i2 r2 z2 => ?_)
 exact ⟨_ :: ds, σ2, g2, h2, e1.trans e2, i2, .cons (r1.mono e2) r2, z1.trans z2⟩
structure CallAt (A : Around) (env : Env) (outer : List Env) (L : Addr) (nd : Nat) : Prop where
 hn : A.handled = none
 frames : A.frames = some (env :: outer)
 guards : A.guards = some []
 depth : A.depth + nd + 10 < recursionLimit
 units : A.units + 16 * nd + 300 < cLine
theorem Act.call {A : Around} {env ev : Env} {outer : List Env} {L : Addr} (a : Act S cx A env ev outer L nd false) : CallAt A env outer L nd := ⟨a.hn rfl, a.frames, a.guards, a.depth, a.units⟩
structure CallOk (S : Sta) (G : zab) (nd : Nat) : Prop where
 fn : ∀ {f A env outer L g σ s K E as vs}, CallAt A env outer L nd -> Inv S (env :: outer) g σ s.heap -> LRs S s.heap g vs as -> f ≠ 0 -> G f as σ K E ->
  wpAny S.M A (call (.ref (S.fa f)) vs []) (Ok S (env :: outer) No (RV S) g s K) (Er S (env :: outer) No false g s E) s
 lam : ∀ {f A env outer L g σ s K E b m}, CallAt A env outer L nd -> Inv S (env :: outer) g σ s.heap -> LamAt S No s.heap g f b m -> G 0 [.lam b m] σ K E ->
  wpAny S.M A (call (.ref f) [] []) (Ok S (env :: outer) No (RV S) g s K) (Er S (env :: outer) No false g s E) s
end
structure KOk2 (S : Sta) : Prop where
 fk : ∀ x f, za6 S.cx.funs x = some f -> f ≠ 0 /\ keepIn S.K (.ref (S.fa f)) = true
 mt : ∀ x f, za6 S.cx.meths x = some f -> f ≠ 0 /\ keepIn S.K (.ref (S.fa f)) = true /\ x ≠ Str.ofString "scope" /\ findIn S.K (.ref S.cev) x = some (some (.ref (S.fa f))) /\ typeIn S.K (.ref (S.fa f)) = some (.type "function")
 ek : keepIn S.K (.ref S.cev) = true
 eg : S.mg (Str.ofString "Evaluator") = some (.ref S.cev)
 xCl : ∀ b, isClsIn S.K (S.ec b) = true
 xTy : ∀ b, typeIn S.K (.ref (S.ec b)) = some (.type "type")
 xTu : ∀ b, instIn S.K (.ref (S.ec b)) (.type "tuple") = some false
 xEq : ∀ a b, mroIn S.K (S.ec a) (.ref (S.ec b)) = some (a == b)
 xKp : ∀ b, keepIn S.K (.ref (S.ec b)) = true
 xF : S.mg (Str.ofString "EvalFault") = some (.ref (S.ec false))
 xL : S.mg (Str.ofString "LimitFault") = some (.ref (S.ec true))
structure NewOk (S : Sta) (nd : Nat) : Prop where
 new : ∀ {A env outer L g σ s sc v Ev}, CallAt A env outer L nd -> Inv S (env :: outer) g σ s.heap -> VR S s.heap g v sc -> ((∃ d, sc = .pd (.dict d)) \/ ∃ i, sc = .ref i) -> wpAny S.M A (call (.ref S.cev) [v] []) (Is S (env :: outer) g σ s (.evr sc)) Ev s
section
variable {S : Sta} {G : zab} {nd : Nat} {hd : Bool} {cx : Cx}
theorem LR.but {X Y : Addr -> Prop} {h : Heap} {g : Gh} {v : Value} {l : Loc} (f : ∀ a o, h.get? a = some o -> ¬ Y a -> ¬ X a) (r : LR S Y h g v l) : LR S X h g v l := by
 cases r with
 | v r => exact .v r
 | fault r =>
  obtain ⟨k, n, oe, vs, dx, mp, h1, r⟩ := r
  exact .fault ⟨k, f _ _ h1 n, oe, vs, dx, mp, h1, r⟩
 | lam r =>
  obtain ⟨o, fd, fn, e, h1, h2, h3, st, co, fr⟩ := r
  refine .lam ⟨o, fd, fn, e, h1, h2, h3, st, co, fun x i e1 e2 => ?_⟩
  obtain ⟨c, o, q1, q2, q3, q4, q5⟩ := fr x i e1 e2
  exact ⟨c, o, q1, q2, f _ _ q4 q3, q4, q5⟩
theorem LR.no {Y : Addr -> Prop} {h : Heap} {g : Gh} {v : Value} {l : Loc} (r : LR S Y h g v l) : LR S No h g v l := r.but fun _ _ _ _ => id
theorem ziz {A : Around} {env ev : Env} {outer : List Env} {L : Addr} {Y : Addr -> Prop} {m mc : Fm} {σ : Hp} {g : Gh} {s : Shared} {K : List Loc -> Hp -> Prop} {E : KE} {Q : Value -> Shared -> Prop} {pos : Pos} {es : List PySem.Expr} {xs : List X} {f : Value} {first : List Value} {P : Heap -> Prop}
  (hs : es.all (fun e => !zak e) = true) (hx : zeS S G nd hd cx es xs) (a : Act S cx A env ev outer L nd hd) (I : Inv S (env :: outer) g σ s.heap) (rd : Rd S cx ev Y s.heap g m mc)
  (hk : ∀ h, P h -> ∃ k, (k = Keeper.frame \/ k = Keeper.machine \/ k = Keeper.boundFrame) /\ Looks S.M h (keeperOf f) k) (h : evAs G S.gc m mc xs σ K E) (hn : es = [] -> xs = [])
  (c : ∀ vs ds σ1 g1 s1, K ds σ1 -> Ext No g g1 s.heap s1.heap -> Inv S (env :: outer) g1 σ1 s1.heap -> LRs S s1.heap g1 vs ds -> Rest s s1 -> P s1.heap /\ wpAny S.M A (call f (first ++ vs) []) Q (Er S (env :: outer) No false g s E) s1) :
  wpAny S.M A (callWith pos f first (backTo pos (starEach es ev)) []) Q (Er S (env :: outer) No false g s E) s := by
 have hp := za0 (pos := pos) (ev := ev) hs
 refine callWith_of (P := P) (by rw [hp]; rfl) hk ?_
 cases es with
 | nil =>
  obtain rfl := hn rfl
  exact evalArgs_nil3 (c [] [] σ g s h (.refl _ _ _) I .nil (.refl _))
 | cons e r =>
  rw [List.all_cons, Bool.and_eq_true] at hs
  have hq := hx A env ev outer L Y m mc σ g s K E pos a I rd h
  rw [zcF (by simpa using hs.1)] at hq ⊢
  exact evalArgs_plain (step hq fun vs ds σ1 g1 s1 h1 e1 i1 r1 z1 => c vs ds σ1 g1 s1 h1 e1 i1 r1 z1)
theorem ziQ (ok : StaOk3 S) (k2 : KOk2 S) (co : CallOk S G nd) {x : Str} {f : Nat} {q pos : Pos} {es : List PySem.Expr} {xs : List X} (hf : za6 S.cx.funs x = some f) (hg : nmOf cx x = some .g) (hs : es.all (fun e => !zak e) = true) (hx : zeS S G nd false cx es xs) (hn : es = [] -> xs = []) :
  SndX S G nd false cx (.Call (.Name x q) es [] pos) (.call f xs) := by
 intro A env ev outer L Y m mc σ g s K E a I rd h
 replace h := zia h
 rw [arm_eval_Call_Name']
 refine wpAny_bind (zaF a ok.toStaOk I.stays hg (ok.funs x f hf) ?_)
 obtain ⟨f0, fk⟩ := k2.fk x f hf
 refine ziz hs hx a I rd (P := S.K.In) (keeps_K fk) h hn fun vs ds σ1 g1 s1 h1 e1 i1 r1 z1 => ⟨kIn ok.toStaOk i1, ?_⟩
 exact zbp e1 z1 (wpAny_mono (co.fn a.call i1 r1 f0 h1) (fun _ _ x => x.trans e1 z1) fun _ _ x => x)
theorem zgX (co : CallOk S G nd) {y : Str} {i : Nat} {q pos : Pos} (hi : nmOf cx y = some (.v i)) : SndX S G nd false cx (.Call (.Name y q) [] [] pos) (.lcall i) := by
 intro A env ev outer L Y m mc σ g s K E a I rd h
 replace h := zh9 h
 obtain ⟨p, hp, h⟩ := zag h
 refine zhA hp fun l hm hl => ?_
 obtain rfl := zm7 hl
 obtain ⟨v, n, r⟩ := rd.v y i hi _ hm
 cases r with
 | lam r =>
  rename_i f
  rw [arm_eval_Call_Name']
  refine wpAny_bind (n.eval_ a.kf (za2 hi) ?_)
  obtain ⟨o, fd, _, _, _, h2, h3, _, _, _⟩ := id r
  refine callWith_of (P := fun h => h = s.heap) rfl (fun h hh => ⟨.frame, .inl rfl, ?_⟩) (evalArgs_nil3 ⟨rfl, ?_⟩)
  ·subst hh
   refine (Looks.ld (part := none) h2).andThen ?_
   rw [h3]; exact .now
  ·have : LamAt S No s.heap g f p.1 p.2 := by
    cases (LR.lam r).no (S := S) with
    | lam r => exact r
   exact co.lam a.call I this h
theorem zmc {h : Heap} {g : Gh} {v : Value} {sc : V} (r : VR S h g v (.evr sc)) : ∃ a dx e t n, v = .ref a /\ g.κ a = .fz /\ h.get? a = some (instObj S.cev dx) /\ h.get? dx = some (dictOf [e] n) /\ e.key = .str (Str.ofString "scope") t := by
 cases r with
 | evr k1 k2 e1 e2 a b r => exact ⟨_, _, _, _, _, rfl, k1, e1, e2, a⟩
theorem zft (ok : StaOk3 S) (k2 : KOk2 S) (co : CallOk S G nd) {x : Str} {f : Nat} {ap pos : Pos} {oe : PySem.Expr} {es : List PySem.Expr} {o : X} {xs : List X} (hf : za6 S.cx.meths x = some f) (hb : zdp oe = true) (hp : (ap.endLine == pos.line) = true) (hl : es.length < 20)
  (hs : es.all (fun e => !zak e) = true) (ho : SndX S G nd false cx oe o) (hx : zb0 S G nd false cx es xs) (hn : es = [] -> xs = []) : SndX S G nd false cx (.Call (.Attribute oe x ap) es [] pos) (.meth f o xs) := by
 intro A env ev outer L Y m mc σ g s K E a I rd h
 replace h := zh8 h
 rw [zcZ hb hs hl hp]
 refine wpAny_bind (step (ho A env ev outer L Y m mc σ g s _ E a I rd h) fun v d σ1 g1 s1 h1 e1 i1 r1 z1 => ?_)
 obtain ⟨sc, hsc, h1⟩ := zag h1
 obtain rfl := zkr hsc
 obtain ⟨oa, dx, e, t, n, rfl, q1, q2, q3, q4⟩ := zmc r1
 obtain ⟨f0, fk, ne, fi, ft⟩ := k2.mt x f hf
 have II : InstAt s1.heap oa (instObj S.cev dx) S.cev (some (dictOf [e] n)) := ⟨q2, rfl, rfl, q3⟩
 have hsh : shadowIn (some (dictOf [e] n)) x = some false := by
  unfold shadowIn lookIn
  have hz : (Value.str (Str.ofString "scope") t).isStr x = false := by
   show (Str.ofString "scope" == x) = false
   exact beq_eq_false_iff_ne.mpr fun q => ne q.symm
  simp [DictEntry.refKey, q4, hz]
 refine wpAny_bind (wpAny_standAt (wpAny_bind (wpAny_holding (method_fn (kIn ok.toStaOk i1) II (plainGet_of (ok.ko.eGet x)).1 (plainGet_of (ok.ko.eGet x)).2 fi ft hsh ?_))))
 refine zbp e1 z1 ?_
 refine zaT hs hx a i1 (rd.mono e1) (P := S.K.In) (keeps_K fk) h1 hn fun vs ds σ2 g2 s2 h2 e2 i2 r2 z2 => ⟨kIn ok.toStaOk i2, ?_⟩
 refine zbp e2 z2 (wpAny_mono (co.fn (as := .v (.evr sc) :: ds.map .v) a.call i2 (.cons (.v (r1.mono e2.up)) (.of_vrs r2)) f0 h2) (fun _ _ x => x.trans (e1.trans e2) (z1.trans z2)) fun _ _ x => x)
theorem zmY {v d : V} (h : newV v = some d) : d = v /\ ((∃ l, v = .pd (.dict l)) \/ ∃ i, v = .ref i) :=
 zaG h (fun h => zbe h fun l h1 e => bd_e h1 fun d h2 h3 => by rw [zbm h2, zc0 h3]; exact ⟨e.symm, .inl ⟨_, rfl⟩⟩) fun h => zbe h fun i h1 e => by rw [zhb h1]; exact ⟨e.symm, .inr ⟨_, rfl⟩⟩
theorem zgW (ok : StaOk3 S) (k2 : KOk2 S) (no : NewOk S nd) {q pos : Pos} {e : PySem.Expr} {x : X} (hg : nmOf cx (Str.ofString "Evaluator") = some .g) (hs : zak e = false) (hx : SndX S G nd false cx e x) : SndX S G nd false cx (.Call (.Name (Str.ofString "Evaluator") q) [e] [] pos) (.new x) := by
 intro A env ev outer L Y m mc σ g s K E a I rd h
 replace h := zh7 h
 rw [arm_eval_Call_Name']
 refine wpAny_bind (zaF a ok.toStaOk I.stays hg k2.eg ?_)
 have h' : evXs G S.gc m mc [x] σ (fun vs σ1 => one vs fun v => need (newV v) fun d => K (.evr d) σ1) E := h
 refine zaT (by simp [hs]) (za4 hx zb2 hs) a I rd (P := S.K.In) (keeps_K k2.ek) h' (by nofun) fun vs ds σ1 g1 s1 h1 e1 i1 r1 z1 => ⟨kIn ok.toStaOk i1, ?_⟩
 refine zbO r1 h1 fun w v e rw' h1 => zal h1 fun d hd hk => ?_
 obtain ⟨rfl, hv⟩ := zmY hd
 exact e ▸ wpAny_mono (no.new a.call i1 rw' hv) (fun _ _ x => (Is.ok hk x).trans e1 z1) fun _ _ x => x
theorem zd5 (so : SubOk S) {x y : Str} {i : Nat} {b : Bool} {q pos : Pos} (hi : nmOf cx x = some (.v i)) (hy : zcW y = some b) : SndX S G nd hd cx (.Attribute (.Name x q) y pos) (.fault i b) := by
 intro A env ev outer L Y m mc σ g s K E a I rd h
 replace h := zib h
 obtain ⟨e, he, h⟩ := zag h
 obtain ⟨hb, h⟩ := zar h
 refine zhA he fun l hm hl => ?_
 obtain rfl := znp hl
 obtain ⟨v, n, r⟩ := rd.v x i hi _ hm
 cases r with
 | fault r =>
  rename_i ea
  rw [arm_eval_Attribute]
  refine wpAny_bind (m := eval (.Name x q) ev) (n.eval_ a.kf (za2 hi) ?_)
  refine wpAny_bind (wpAny_standAt (wpAny_bind (wpAny_holding (step (so.fault (σ := σ) a.room I r hy (fun q => by subst q; simpa using hb)) fun c f' σ3 g3 s3 h3 e3 i3 r3 z3 => ?_))))
  obtain ⟨rfl, rfl⟩ := h3
  exact wpAny_bind (wpAny_letTemporaryGo (wpAny_pure ⟨_, _, g3, h, e3, i3, r3, z3⟩))
end
section
variable {S : Sta} {G : zab} {nd : Nat} {hd : Bool} {cx : Cx}
noncomputable def ziC (S : Sta) (G : zab) (nd : Nat) (hd : Bool) (cx : Cx) (e : PySem.Expr) (x : X) : Prop :=
 ∀ A env ev outer L Y m mc σ g s K E, Act S cx A env ev outer L nd hd -> Inv S (env :: outer) g σ s.heap -> Rd S cx ev Y s.heap g m mc -> evX G S.gc m mc x σ (fun v σ1 => need (txt v) fun y => K y σ1) E -> (∀ y σ, K y σ -> y.length <= sizeLine) ->
  wpAny S.M A (eval e ev) (Ok S (env :: outer) No (fun _ _ v y => ∃ t, v = .str y t) g s K) (Er S (env :: outer) No false g s E) s
theorem zgo {x : Str} {k : Nat} {pos : Pos} : ziC S G nd hd cx (.Constant (.str x) k pos) (.c (.str x)) := by
 intro A env ev outer L Y m mc σ g s K E a I rd h hz
 replace h := zfV h
 exact Constant_str (Ok.here (K := K) h ⟨I, .refl _ _ _⟩ ⟨_, rfl⟩ ⟨rfl, rfl, rfl⟩)
theorem zjg {e : PySem.Expr} {x : X} {pos : Pos} (hx : SndX S G nd hd cx e x) : ziC S G nd hd cx (.FormattedValue e (-1) none pos) x := by
 intro A env ev outer L Y m mc σ g s K E a I rd h hz
 refine FormattedValue_plain (step (hx A env ev outer L Y m mc σ g s _ E a I rd h) fun v d σ1 g1 s1 h1 e1 i1 r1 z1 => ?_)
 refine zal h1 fun y hy h1 => bd_e hy fun d hd hy => ?_
 have hsz := hz y σ1 h1
 have r : PV S.w.params s1.heap g1.κ v d := zbN (zbm hd ▸ r1)
 cases r with
 | str y' t =>
  cases hy
  exact formatField_str (fun t' tk => ⟨_, σ1, g1, h1, e1, i1, ⟨_, rfl⟩, z1⟩) hsz
 | int i t =>
  refine gd_e (c := i.natAbs.log2 < 1920) hy fun hl hy => ?_
  cases hy
  exact formatField_int_small hl ⟨_, σ1, g1, h1, e1, i1, ⟨_, rfl⟩, z1⟩
 | _ => cases hy
inductive Parts (S : Sta) (G : zab) (nd : Nat) (hd : Bool) (cx : Cx) : List PySem.Expr -> List X -> Prop
 | nil : Parts S G nd hd cx [] []
 | cons {e : PySem.Expr} {x : X} {es : List PySem.Expr} {xs : List X} : ziC S G nd hd cx e x -> Parts S G nd hd cx es xs -> Parts S G nd hd cx (e :: es) (x :: xs)
theorem zgn {es : List PySem.Expr} {xs : List X} (hp : Parts S G nd hd cx es xs) : ∀ {A env ev outer L Y m mc σ g s acc} {K : Str -> Hp -> Prop} {E : KE}, Act S cx A env ev outer L nd hd -> Inv S (env :: outer) g σ s.heap -> Rd S cx ev Y s.heap g m mc -> evFs G S.gc m mc xs acc σ K E ->
  wpAny S.M A (joinParts acc (evalEach es ev)) (Ok S (env :: outer) No (fun _ _ v y => ∃ t, v = .str y t) g s K) (Er S (env :: outer) No false g s E) s := by
 induction hp with
 | nil =>
  intro A env ev outer L Y m mc σ g s acc K E a I rd h
  exact joinParts_nil (Ok.here (K := K) (zbi h).2 ⟨I, .refl _ _ _⟩ ⟨_, rfl⟩ ⟨rfl, rfl, rfl⟩) (zbi h).1
 | cons hx _ ih =>
  intro A env ev outer L Y m mc σ g s acc K E a I rd h
  replace h := zeA h
  rw [arm_evalEach_cons]
  refine joinParts_cons (step (hx A env ev outer L Y m mc σ g s _ E a I rd h fun y σ q => (zbi q).1.1) fun v y σ1 g1 s1 h1 e1 i1 r1 z1 => ?_)
  obtain ⟨t, rfl⟩ := r1
  replace h1 := zbi h1
  exact ⟨h1.1.2, zdO e1 z1 (ih a i1 (rd.mono e1) h1.2)⟩
theorem zcq (y : Str) : Str.empty ++ y = y := by
 obtain ⟨a⟩ := y
 show Str.mk (#[] ++ a) = Str.mk a
 simp
theorem ziP {es : List PySem.Expr} {xs : List X} {pos : Pos} (hp : Parts S G nd hd cx es xs) : SndX S G nd hd cx (.JoinedStr es pos) (.fstr xs) := by
 intro A env ev outer L Y m mc σ g s K E a I rd h
 replace h := zh5 h
 rw [arm_eval_JoinedStr]
 have gen : wpAny S.M A (joinParts Str.empty (evalEach es ev)) (Ok S (env :: outer) No (RV S) g s K) (Er S (env :: outer) No false g s E) s :=
  wpAny_mono (zgn hp a I rd h) (fun v s' ⟨y, σ', g', k, e, i, ⟨t, q⟩, z⟩ => ⟨_, σ', g', k, e, i, q ▸ .pd (.str _ _), z⟩) fun _ _ x => x
 cases hp with
 | nil => exact gen
 | cons hx hr =>
  cases hr with
  | nil =>
   replace h := zeA h
   refine wpAny_mono (hx A env ev outer L Y m mc σ g s (fun y σ1 => whenL (y.length <= sizeLine /\ (Str.empty ++ y).length <= sizeLine) (evFs G S.gc m mc [] (Str.empty ++ y) σ1 (fun x σ' => K (.pd (.str x)) σ') E)) E a I rd h fun y σ q => (zbi q).1.1) (fun v s' ⟨y, σ', g', k, e, i, ⟨t, q⟩, z⟩ => ⟨.pd (.str y), σ', g', ?_, e, i, (show VR S s'.heap g' v (.pd (.str y)) from q ▸ .pd (.str _ _)), z⟩) fun _ _ x => x
   have := (zbi (zbi k).2).2
   rw [zcq] at this
   exact this
  | cons => exact gen
inductive RKs (S : Sta) (h : Heap) (g : Gh) : List (Value × Value) -> List (Str × V) -> Prop
 | nil : RKs S h g [] []
 | cons {k : Str} {t : Tok} {v : Value} {x : V} {vs : List (Value × Value)} {xs : List (Str × V)} : VR S h g v x -> RKs S h g vs xs -> RKs S h g ((.str k t, v) :: vs) ((k, x) :: xs)
noncomputable def ziB (S : Sta) (G : zab) (nd : Nat) (hd : Bool) (cx : Cx) (ks : List (Option PySem.Expr)) (es : List PySem.Expr) (xs : List (Str × X)) : Prop :=
 ∀ A env ev outer L Y m mc σ g s K E pos, Act S cx A env ev outer L nd hd -> Inv S (env :: outer) g σ s.heap -> Rd S cx ev Y s.heap g m mc -> evKs G S.gc m mc xs σ K E ->
  wpAny S.M A (evalPairs (pairTrees ks es ev pos)) (Ok S (env :: outer) No (fun h g v d => RKs S h g v d) g s K) (Er S (env :: outer) No false g s E) s
theorem zm8 : ziB S G nd hd cx [] [] [] := by
 intro A env ev outer L Y m mc σ g s K E pos a I rd h
 exact pairTrees_nil_walk (Ok.here (K := K) h ⟨I, .refl _ _ _⟩ .nil (.refl _))
theorem zlC {k : Str} {n : Nat} {p : Pos} {e : PySem.Expr} {x : X} {ks : List (Option PySem.Expr)} {es : List PySem.Expr} {xs : List (Str × X)} (hx : SndX S G nd hd cx e x) (hr : ziB S G nd hd cx ks es xs) :
  ziB S G nd hd cx (some (.Constant (.str k) n p) :: ks) (e :: es) ((k, x) :: xs) := by
 intro A env ev outer L Y m mc σ g s K E pos a I rd h
 replace h := zii h
 refine pairTrees_cons_walk (Constant_str ?_)
 refine zbp (s := s) (s1 := { s with toks := s.toks + 1 }) (.refl _ _ _) ⟨rfl, rfl, rfl⟩ (step (hx A env ev outer L Y m mc σ g { s with toks := s.toks + 1 } _ E a I rd h) fun v d σ1 g1 s1 h1 e1 i1 r1 z1 => ?_)
 refine zbp e1 z1 (step (hr A env ev outer L Y m mc σ1 g1 s1 _ E pos a i1 (rd.mono e1) h1) fun vs ds σ2 g2 s2 h2 e2 i2 r2 z2 => ?_)
 exact ⟨(k, d) :: ds, σ2, g2, h2, e1.trans e2, i2, .cons (r1.mono e2.up) r2, z1.trans z2⟩
theorem zfx {h : Heap} {g : Gh} {vs : List (Value × Value)} {xs : List (Str × V)} (r : RKs S h g vs xs) : allStrKeys vs = true /\ (strPairs vs).map (·.1) = xs.map (·.1) := by
 induction r with
 | nil => exact ⟨rfl, rfl⟩
 | cons a _ ih => exact ⟨ih.1, by simp [strPairs, ih.2]⟩
theorem zcl : ∀ {l : List Str}, zee l = true -> l.Nodup
 | [], _ => List.nodup_nil
 | k :: r, h => by
  simp only [zee, Bool.and_eq_true] at h
  refine List.nodup_cons.mpr ⟨?_, zcl h.2⟩
  have : ∀ {l : List Str}, zfP k l = true -> k ∉ l := by
   intro l
   induction l with
   | nil => intro _ h; cases h
   | cons a r ih =>
    intro h hm
    simp only [zfP, Bool.and_eq_true] at h
    rcases List.mem_cons.mp hm with rfl | hm
    ·simp [sb] at h
    ·exact ih h.2 hm
  exact this h.1
theorem zhm {h : Heap} {g : Gh} {vs : List (Value × Value)} {xs : List (Str × V)} (r : RKs S h g vs xs) : ∀ {es : List DictEntry}, (∀ e ∈ es, ∃ k, Value.isStrOf k e.key = true /\ e.hash = hashStr S.w k) -> Pairs (zb4 S) es (strPairs vs) -> (xs.map (·.1)).Nodup -> VEs S h g es xs := by
 induction r with
 | nil => intro es _ p _; cases p; exact .nil
 | @cons k t v x vs xs a r ih =>
  intro es hk p hn
  cases p with
  | @cons e kv es kvs p1 p2 p3 =>
   have p1 : Value.isStrOf k e.key = true := p1
   have p2 : e.val = v := p2
   obtain ⟨t', hkey⟩ := Value.isStrOf_shape p1
   rw [List.map_cons, List.nodup_cons] at hn
   refine .cons (t := t') hkey ?_ (p2 ▸ a) (fun e' he' => ?_) (ih (fun e' he' => hk e' (.tail _ he')) p3 hn.2)
   ·obtain ⟨k', h1, h2⟩ := hk e (.head _)
    have := Value.isStrOf_inj _ _ _ h1 p1
    subst this
    exact h2
   ·cases hz : e'.key.isStr k with
    | false => rfl
    | true =>
     refine absurd ?_ hn.1
     have hm : ∀ {es : List DictEntry} {kvs : List (Str × Value)}, Pairs (zb4 S) es kvs -> e' ∈ es -> k ∈ kvs.map (·.1) := by
      intro es kvs p
      induction p with
      | nil => intro h; cases h
      | @cons e kv es kvs q1 q2 q3 ih2 =>
       intro h
       rcases List.mem_cons.mp h with rfl | h
       ·have hz' : Value.isStrOf k e'.key = true := by
         revert hz; cases e'.key <;> intro hz <;> first | exact hz | cases hz
        have : kv.1 = k := Value.isStrOf_inj _ _ _ q1 hz'
        rw [List.map_cons, this]; exact .head _
       ·exact .tail _ (ih2 h)
     have := hm p3 he'
     rwa [(zfx r).2] at this
theorem RKs.mono {h h' : Heap} {g g' : Gh} {vs : List (Value × Value)} {xs : List (Str × V)} (u : Up g g' h h') (r : RKs S h g vs xs) : RKs S h' g' vs xs := by
 induction r with
 | nil => exact .nil
 | cons a _ ih => exact .cons (a.mono u) ih
theorem zkP (ok : StaOk S) {ks : List (Option PySem.Expr)} {es : List PySem.Expr} {xs : List (Str × X)} {b : Bool} {pos : Pos} (hall : ks.all (·.isSome) = true) (hl : ks.length = es.length) (h0 : ks ≠ []) (hlen : ks.length <= 15) (hx : ziB S G nd hd cx ks es xs) :
  SndX S G nd hd cx (.Dict ks es pos) (.dct b xs) := by
 intro A env ev outer L Y m mc σ g s K E a I rd h
 replace h := zjz h
 have kp : ∀ b o, s.heap.get? b = some o -> (s.heap.push { cls := .type "dict", data := .dict #[] }).get? b = some o := fun b o q => Heap.get?_push_of_some _ q
 have hn : s.heap.get? s.heap.objs.size = none := Heap.get?_none_of_le (Nat.le_refl _)
 have hat : (s.heap.push { cls := .type "dict", data := .dict #[] }).get? s.heap.objs.size = some { cls := .type "dict", data := .dict #[] } := Heap.get?_push_size _ rfl
 have kd0 : g.κ s.heap.objs.size = .ot := I.ot _ hn
 obtain ⟨I0, E0⟩ := I.keeps kp
 refine wpAny_Dict_walk (knd := zb4 S) hall hl h0 hlen ?_
 refine zbp (s1 := { s with heap := s.heap.push { cls := .type "dict", data := .dict #[] } }) E0 ⟨rfl, rfl, rfl⟩ (step (hx A env ev outer L Y m mc σ g { s with heap := s.heap.push { cls := .type "dict", data := .dict #[] } } _ E pos a I0 (rd.mono E0) h) fun vs kvs σ1 g1 s1 h1 e1 i1 r1 z1 => ?_)
 obtain ⟨hnd, h1⟩ := zar h1
 have hat1 := e1.keep _ _ hat id (by rw [kd0]; decide) (by rw [kd0]; decide) (by rw [kd0]; decide) (by rw [kd0]; decide)
 have kd1 : g1.κ s.heap.objs.size = .ot := (e1.kind _ _ hat).trans kd0
 obtain ⟨hstr, hkeys⟩ := zfx r1
 have hnod := zcl hnd
 refine display_done_str hstr (by rw [hkeys]; exact hnod) ⟨_, _, _, hat1, ⟨rfl, rfl, rfl⟩, rfl, by intro e he; simp at he, .nil, List.nodup_nil⟩ fun h' hd' sb => ?_
 obtain ⟨⟨oc, od, odt, osl⟩, es', ep, q1, ⟨q2, q3, q4⟩, q5, q6, q7, q8⟩ := hd'
 simp only at q2 q3 q4 q5
 subst q2 q3 q4 q5
 have E2 : Ext No g g1 s.heap s1.heap := E0.trans e1
 have kp1 : ∀ b o, b ≠ s.heap.objs.size -> s1.heap.get? b = some o -> h'.get? b = some o := fun b o q e => (sb.2 b q).trans e
 have mk : ∀ {g2 : Gh}, Up g1 g2 s1.heap h' -> VEs S h' g2 es'.toList kvs := fun u => zhm (r1.mono u) (fun e he => q6 e (by simpa using he)) q7 hnod
 cases b with
 | true =>
  obtain ⟨I3, E3⟩ := Inv.sealMu (o := .dict kvs) E2 i1 hn kd1 ⟨_, hat1⟩ kp1 fun u => .dict (by simpa using q1) (mk u)
  refine ⟨_, _, _, h1, E3, I3, ?_, z1.trans ⟨rfl, rfl, rfl⟩⟩
  have : (g1.mu s.heap.objs.size).μ σ1.length = s.heap.objs.size := by rw [i1.num]; exact if_pos rfl
  conv => lhs; rw [← this]
  exact .ref (by show σ1.length < g1.n + 1; rw [i1.num]; exact Nat.lt_succ_self _)
 | false =>
  obtain ⟨ds, hds, h1⟩ := zag h1
  obtain ⟨I3, E3, U3⟩ := Inv.seal (k := .fz) E2 i1 hn kd1 kp1 q1
  exact ⟨_, _, _, h1, E3, I3, .pd (.dict (if_pos rfl) q1 (ze6 ok I) (VEs.pes (mk U3) hds)), z1.trans ⟨rfl, rfl, rfl⟩⟩
end
section
variable {S : Sta} {fr : List Env} {g g0 : Gh} {σ : Hp} {h0 h h' : Heap} {z : Addr} {X : Addr -> Prop}
theorem zaM (E : Ext X g0 g h0 h) (I : Inv S fr g σ h) (n : h0.get? z = none) (k : g.κ z = .ot) (x : Heap.ExtBut z h h') : Ext X g0 g h0 h' /\ Inv S fr g σ h' := by
 have kp : ∀ b o, g.κ b ≠ .ot -> h.get? b = some o -> h'.get? b = some o := fun b o q e => x b o (fun w => q (w ▸ k)) e
 have k0 : ∀ b o, h0.get? b = some o -> b ≠ z := fun b o e w => by rw [w, n] at e; cases e
 refine ⟨⟨E.kind, E.num, E.addr, fun b o q e => ⟨(E.fz b o q e).1, x b o (k0 b o e) (E.fz b o q e).2⟩, fun b o e a1 a2 a3 a4 a5 => x b o (k0 b o e) (E.keep b o e a1 a2 a3 a4 a5), fun b o e a1 a2 => ?_, fun b o vs e a1 a2 a3 => ?_, fun b o e => ?_⟩,
  ⟨fun b o e => kp b o (by rw [I.bfz b o e]; decide) (I.stays b o e), I.bfz, fun b e => ?_, I.num, fun i o e => ?_, I.km, I.inj, ?_, I.tb.mono (fun b o q e => ⟨q, kp b o (by rw [q]; decide) e⟩) I.tb.k fun o q => kp _ o (by rw [I.tb.k]; decide) q⟩⟩
 ·obtain ⟨sl, y⟩ := E.frs b o e a1 a2; exact ⟨sl, x b _ (k0 b o e) y⟩
 ·obtain ⟨ws, y⟩ := E.exs b o vs e a1 a2 a3; exact ⟨ws, x b _ (k0 b o e) y⟩
 ·obtain ⟨o', y⟩ := E.still b o e; exact ⟨o', x b _ (k0 b o e) y⟩
 ·by_cases w : b = z
  ·rw [w]; exact k
  ·refine I.ot b ?_
   cases y : h.get? b with
   | none => rfl
   | some o => rw [x b o w y] at e; cases e
 ·have U : Up g g h h' := ⟨Nat.le_refl _, fun _ _ => rfl, fun b o q e => ⟨q, kp b o (by rw [q]; decide) e⟩⟩
  exact (I.mu i o e).mono_at U fun ob q => kp _ _ (by rw [I.km i (I.lt e)]; decide) q
 ·exact ⟨zax (fun L m o ho => ⟨o.slots, kp L o (by rw [I.fr.2 L m]; decide) ho⟩) I.fr.1, I.fr.2⟩
theorem zcj (I : Inv S fr g σ h) (k : g.κ z = .ot) (x : Heap.ExtBut z h h') : Up g g h h' :=
 ⟨Nat.le_refl _, fun _ _ => rfl, fun b o q e => ⟨q, x b o (fun w => by rw [w, k] at q; cases q) e⟩⟩
end
noncomputable def isL : V -> Bool
 | .pd d => (zbC d).isSome
 | .ref _ => true
 | _ => false
inductive ItAt (h : Heap) (it : Addr) (v : Value) (x : V) (k : Nat) : Prop
 | l (a : Addr) (q : isL x = true) (e : v = .ref a) (i : h.IsListIter it a k)
 | t (a : Addr) (l : List PyData) (q : x = .pd (.tuple l)) (e : v = .ref a) (i : IsTupIter h it a k)
 | r (lo hi : Int) (q : x = .rng lo hi) (i : IsRangeIter h it (lo + (k : Nat)) (((hi - lo).toNat : Int) - (k : Nat)) 1)
theorem ItAt.at {h h' : Heap} {it : Addr} {v : Value} {x : V} {k : Nat} (e : ∀ o, h.get? it = some o -> h'.get? it = some o) (i : ItAt h it v x k) : ItAt h' it v x k := by
 cases i with
 | l a q u i => obtain ⟨o, h1, h2⟩ := i; exact .l a q u ⟨o, e _ h1, h2⟩
 | t a l q u i => obtain ⟨o, h1, h2⟩ := i; exact .t a l q u ⟨o, e _ h1, h2⟩
 | r lo hi q i => exact .r lo hi q (e _ i)
inductive ItHas (h : Heap) (it : Addr) : Prop
 | mk (o : Obj) (n : String) (vs : Array Value) (e : h.get? it = some o) (c : o.cls = .type n) (d : o.data = .fields vs) (z : ["enumerate", "zip", "dict_itemiterator", "dict_reverseitemiterator", "odict_iterator", "itertools.zip_longest", "itertools.pairwise"].contains n = false)
theorem ItAt.has {h : Heap} {it : Addr} {v : Value} {x : V} {k : Nat} (i : ItAt h it v x k) : ItHas h it := by
 cases i with
 | l a q u i => obtain ⟨o, h1, h2, h3⟩ := i; exact ⟨o, _, _, h1, h2, h3, by decide⟩
 | t a l q u i => obtain ⟨o, h1, h2, h3⟩ := i; exact ⟨o, _, _, h1, h2, h3, by decide⟩
 | r lo hi q i => exact ⟨_, _, _, i, rfl, rfl, by decide⟩
theorem zi3 {σ : Hp} {i : Nat} {l : List PyData} (e : seqT σ (.ref i) = some l) : rd σ (.ref i) = some (.list l) :=
 bd_e e fun d h1 e => zaG e (fun h2 => by rw [h1, zbI h2]) fun h2 => zdi h1 (fun l _ q => by rw [q] at h2; cases h2) fun l ds _ _ q => by rw [q] at h2; cases h2
section
variable {S : Sta} {fr : List Env} {A : Around} {g : Gh} {σ : Hp} {s : Shared} {Ev : Value -> Shared -> Prop}
theorem zem {P : Prop} {x : V} {l : List PyData} (e : zaj σ x = some l) (kl : isL x = true -> rd σ x = some (.list l) -> P) (kt : x = .pd (.tuple l) -> P) (kr : ∀ lo hi, x = .rng lo hi -> l = zaV lo hi -> -(2 ^ 62) <= lo /\ lo < 2 ^ 62 /\ -(2 ^ 62) <= hi /\ hi < 2 ^ 62 -> P) : P := by
 refine zaG e (fun e => ?_) fun e => bd_e e fun p h1 e => gd_e e fun b e => kr p.1 p.2 (zg9 h1) e.symm b
 cases x with
 | pd d =>
  refine zaG (c := l) e (fun h => ?_) fun h => kt (by rw [zdd h])
  exact kl (by show (zbC d).isSome = true; rw [h]; rfl) (by rw [zbI h]; rfl)
 | ref i => exact kl rfl (zi3 e)
 | _ => cases e
theorem zlE {x : V} {l : List PyData} (q : isL x = true) (e : zaj σ x = some l) : rd σ x = some (.list l) :=
 zem e (fun _ h => h) (fun h => by rw [h] at q; cases q) fun lo hi h => by rw [h] at q; cases q
theorem zdl {x : V} {l : List PyData} {v : Value} {Q : Value -> Shared -> Prop} (I : Inv S fr g σ s.heap) (r : VR S s.heap g v x) (e : zaj σ x = some l)
  (hQ : ∀ o, ItAt (s.heap.push o) s.heap.objs.size v x 0 -> Q (.ref s.heap.objs.size) { s with heap := s.heap.push o }) : wpAny S.M A (pyIter v) Q Ev s := by
 refine zem e (fun q e => ?_) (fun q => ?_) fun lo hi q _ b => ?_
 ·obtain ⟨a, vs, rfl, hl, p⟩ := r.isList I e
  exact wpAny_pyIter_list hl (hQ _ (.l a q rfl ⟨_, Heap.get?_push_size _ rfl, rfl, rfl⟩))
 ·obtain ⟨a, vs, rfl, hl, p⟩ := (q ▸ r).isTup (σ := σ) rfl
  exact iter_tuple hl (hQ _ (.t a l q rfl ⟨_, Heap.get?_push_size _ rfl, rfl, rfl⟩))
 ·have r := q ▸ r
  cases r with
  | rng k e =>
   refine wpAny_pyIter_range e (zcH b.1 b.2.1 b.2.2.1 b.2.2.2) (hQ _ (.r lo hi q ?_))
   show IsRangeIter _ _ _ _ _
   rw [rangeSize_nat]
   simpa using Heap.get?_push_size s.heap (o := { cls := .type "range_iterator", data := .fields #[rawInt lo, rawInt ((hi - lo).toNat : Int), rawInt 1] }) rfl
theorem zhI {x : V} {v : Value} {it : Addr} {k : Nat} {Q : Value -> Shared -> Prop} (i : ItAt s.heap it v x k) (h : Q (.ref it) s) : wpAny S.M A (pyIter (.ref it)) Q Ev s := by
 cases i with
 | l a q u i => exact wpAny_pyIter_listiter i h
 | t a l q u i => exact wpAny_pyIter_tupleiter i h
 | r lo hi q i => exact wpAny_pyIter_rangeiter i h
theorem zm9 {lo hi : Int} {l : List PyData} (e : zaj σ (.rng lo hi) = some l) : l = zaV lo hi := gd_e (x := zaV lo hi) e fun _ q => q.symm
theorem zel {x : V} {l : List PyData} {v : Value} {it : Addr} {k : Nat} {Q : Option Value -> Shared -> Prop} (hn : A.handled = none) (I : Inv S fr g σ s.heap) (r : VR S s.heap g v x) (e : zaj σ x = some l) (i : ItAt s.heap it v x k) (hk : k <= l.length)
  (h1 : ∀ w d h' tk, l[k]? = some d -> PV S.w.params s.heap g.κ w d -> Heap.SameBut it s.heap h' -> ItAt h' it v x (k + 1) -> Q (some w) { s with heap := h', toks := tk })
  (h2 : ∀ h', k = l.length -> Heap.ExtBut it s.heap h' -> Q none { s with heap := h' }) : wpAny S.M A (pyNext (.ref it)) Q Ev s := by
 cases i with
 | l a q u i =>
  obtain ⟨a', vs, hv', hl, p⟩ := r.isList I (zlE q e)
  rw [u] at hv'; cases hv'
  have hlen : vs.size = l.length := p.length
  rcases Nat.lt_or_ge k l.length with hlt | hge
  ·obtain ⟨w, hw, pw⟩ := p.getA (List.getElem?_eq_getElem hlt)
   exact wpAny_pyNext_list_item i hl hw fun h' i'' sb => h1 w _ h' s.toks (List.getElem?_eq_getElem hlt) pw sb (.l a q u i'')
  ·exact wpAny_pyNext_list_end hn i hl (Array.getElem?_eq_none (by rw [hlen]; exact hge)) fun h' eb => h2 h' (Nat.le_antisymm hk hge) eb
 | t a l' q u i =>
  obtain rfl : l' = l := Option.some.inj (show zaj σ (.pd (.tuple l')) = some l from q ▸ e)
  obtain ⟨a', vs, hv', hl, p⟩ := (q ▸ r).isTup (σ := σ) rfl
  rw [u] at hv'; cases hv'
  have hlen : vs.size = l'.length := p.length
  rcases Nat.lt_or_ge k l'.length with hlt | hge
  ·obtain ⟨w, hw, pw⟩ := p.getA (List.getElem?_eq_getElem hlt)
   exact next_tuple_item i hl hw fun h' i'' sb => h1 w _ h' s.toks (List.getElem?_eq_getElem hlt) pw sb (.t a _ q u i'')
  ·exact next_tuple_end hn i hl (Array.getElem?_eq_none (by rw [hlen]; exact hge)) fun h' eb => h2 h' (Nat.le_antisymm hk hge) eb
 | r lo hi q i =>
  obtain rfl := zm9 (q ▸ e)
  have hl : (zaV lo hi).length = (hi - lo).toNat := by simp [zaV]
  rw [hl] at hk h2
  rcases Nat.lt_or_ge k (hi - lo).toNat with hlt | hge
  ·refine wpAny_pyNext_range_item i (by omega) fun h' i'' sb => h1 _ (.int (lo + k)) h' _ (by simp [zaV, hlt]) (.int _ _) sb (.r lo hi q ?_)
   show IsRangeIter _ _ _ _ _
   have e1 : lo + ((k + 1 : Nat) : Int) = lo + (k : Int) + 1 := by omega
   have e2 : ((hi - lo).toNat : Int) - ((k + 1 : Nat) : Int) = ((hi - lo).toNat : Int) - (k : Int) - 1 := by omega
   rw [e1, e2]; exact i''
  ·exact wpAny_pyNext_range_end hn i (by omega) fun h' eb => h2 h' (Nat.le_antisymm hk hge) eb
theorem zj7 {te : PySem.Expr} {x : V} {v w : Value} {it : Addr} {k : Nat} {Q : Unit -> Shared -> Prop} (i : ItAt s.heap it v x k) (h : Q () s) : wpAny S.M A (letOwnedTupleGo te (.ref it) w) Q Ev s := by
 obtain ⟨o, n, vs, h1, h2, h3, this⟩ := i.has
 have : wpAny S.M A (do
   let (.ref r, .ref a) := (Value.ref it, w) | return
   let o ← load r
   match o.cls, o.data with
   | .type n, .fields vs =>
    if ["enumerate", "zip", "dict_itemiterator", "dict_reverseitemiterator", "odict_iterator", "itertools.zip_longest", "itertools.pairwise"].contains n && vs[0]? == some (rawInt a) then
     rule "for.unpacks-the-owned-tuple"
     updateField r 0 .none
   | _, _ => pure ()) Q Ev s := by
  cases w with
  | ref a =>
   refine wpAny_bind (wpAny_load h1 ?_)
   rw [h2, h3]
   dsimp only
   rw [this]
   exact wpAny_pure h
  | _ => exact wpAny_pure h
 cases te with
 | Tuple => exact this
 | List => exact this
 | _ => exact wpAny_pure h
end
set_option backward.match.sparseCases false
noncomputable abbrev Fz1 (g : Gh) (h h' : Heap) : Prop := Fz g.κ g.κ h h'
theorem Fz1.trans {g : Gh} {h h' h'' : Heap} (x : Fz1 g h h') (y : Fz1 g h' h'') : Fz1 g h h'' := fun a o k e => y a o (x a o k e).1 (x a o k e).2
structure Sto (S : Sta) (A : Around) (g : Gh) (names : Names) (env : Env) (Pm : Fm -> Shared -> Prop) : Prop where
 hn : A.handled = none
 st : ∀ x i v d m s Q Ev, zah names x 0 = some (i, .local) -> i < m.length -> Pm m s -> PV S.w.params s.heap g.κ v d -> (∀ s', Pm (zaw m i (some (.v (.pd d)))) s' -> Fz1 g s.heap s'.heap -> Q () s') -> wpAny S.M A (storeName env x v) Q Ev s
 new : ∀ m s h', Pm m s -> Heap.ExtBut s.heap.objs.size s.heap h' -> Pm m { s with heap := h' }
section
variable {S : Sta} {A : Around} {g : Gh} {names : Names} {env : Env} {Pm : Fm -> Shared -> Prop}
theorem zbP {h h' : Heap} (x : Heap.ExtBut h.objs.size h h') : ∀ b o, h.get? b = some o -> h'.get? b = some o := fun b o e => x b o (Nat.ne_of_lt (Heap.lt_size e)) e
noncomputable def TgOk (S : Sta) (names : Names) (te : PySem.Expr) (t : Tg) : Prop := ∀ {A g env Pm}, Sto S A g names env Pm -> ∀ v d m m' s Q Ev, tgFm m t d = some m' -> Pm m s -> PV S.w.params s.heap g.κ v d -> (∀ s', Pm m' s' -> Fz1 g s.heap s'.heap -> Q () s') -> wpAny S.M A (assign te env v) Q Ev s
inductive TgsOk (S : Sta) (names : Names) : List PySem.Expr -> List Tg -> Prop
 | nil : TgsOk S names [] []
 | cons {te : PySem.Expr} {t : Tg} {tes : List PySem.Expr} {ts : List Tg} : TgOk S names te t -> zak te = false -> TgsOk S names tes ts -> TgsOk S names (te :: tes) (t :: ts)
theorem zbu {e : PySem.Expr} {r : List PySem.Expr} (h : zak e = false) : assignEach (e :: r) env = (false, assign e env) :: assignEach r env := by
 cases e <;> first | rfl | cases h
theorem zky {es : List PySem.Expr} {ts : List Tg} (h : TgsOk S names es ts) : (assignEach es env).length = ts.length /\ (assignEach es env).findIdx? (·.1) = none := by
 induction h with
 | nil => exact ⟨rfl, rfl⟩
 | cons _ hs _ ih =>
  rw [zbu hs]
  refine ⟨congrArg (· + 1) ih.1, ?_⟩
  rw [List.findIdx?_cons, ih.2]; rfl
theorem zgH {ts : List Tg} : ∀ {ds : List PyData} {m m' : Fm}, tgsFm m ts ds = some m' -> ts.length = ds.length := by
 induction ts with
 | nil =>
  intro ds m m' h
  cases ds with
  | nil => rfl
  | cons => cases h
 | cons t ts ih =>
  intro ds m m' h
  cases ds with
  | nil => cases h
  | cons d ds => exact bd_e (k := fun m' => tgsFm m' ts ds) h fun m1 _ h => congrArg (· + 1) (ih h)
theorem zkA {x : Str} {i : Nat} {p : Pos} (hi : zah names x 0 = some (i, .local)) : TgOk S names (.Name x p) (.n i) := fun sto v d m m' s Q Ev hm p r hQ =>
 gd_e (c := i < m.length) hm fun hl e => by
  subst e
  exact wpAny_assign_Name (sto.st x i v d m s Q Ev hi hl p r hQ)
theorem zkz {tes : List PySem.Expr} {ts : List Tg} (h : TgsOk S names tes ts) (sto : Sto S A g names env Pm) : ∀ vs ds m m' s Q Ev, tgsFm m ts ds = some m' -> Pm m s -> PVs S.w.params s.heap g.κ vs ds -> (∀ s', Pm m' s' -> Fz1 g s.heap s'.heap -> Q () s') -> wpAny S.M A (assignInOrder ((assignEach tes env).map (·.2)) vs) Q Ev s := by
 induction h with
 | nil =>
  intro vs ds m m' s Q Ev hm p r hQ
  cases r with
  | nil => exact assignInOrder_nil (hQ s (Option.some.inj hm ▸ p) fun a o k e => ⟨k, e⟩)
  | cons => cases hm
 | cons ht hs _ ih =>
  intro vs ds m m' s Q Ev hm p r hQ
  cases r with
  | nil => cases hm
  | cons a r =>
   refine bd_e (k := fun m1 => tgsFm m1 _ _) hm fun m1 hm1 hm => ?_
   rw [zbu hs]
   refine assignInOrder_cons (ht sto _ _ m m1 s _ Ev hm1 p a fun s' p' fz => ?_)
   exact ih _ _ m1 m' s' Q Ev hm p' (r.mono fz) fun s'' a b => hQ s'' a (fz.trans b)
theorem zmk {es : List PySem.Expr} {k : Nat} {p : Pos} {ts : List Tg} (h : TgsOk S names es ts) : TgOk S names (.Tuple es k p) (.t ts) := fun {A g env Pm} sto v d m m' s Q Ev hm p r hQ => by
 cases r with
 | @tuple a o vs n' ds k e c d' q =>
  obtain ⟨q1, q2⟩ := zky (env := env) h
  refine assign_Tuple_tuple sto.hn ⟨o, e, c, n', d'⟩ (by rw [q1, zgH hm, ← q.length]; rfl) q2 fun h' eb => ?_
  have fz : Fz1 g s.heap h' := fun a o k e => ⟨k, zbP eb a o e⟩
  exact zkz h sto vs.toList _ m m' { s with heap := h' } Q Ev hm (sto.new m s h' p eb) (q.mono fz) fun s' a b => hQ s' a (fz.trans b)
 | _ => cases hm
end
noncomputable def tgX (S : Sta) (names : Names) : Nat -> ∀ te : PySem.Expr, Option {t : Tg // TgOk S names te t}
 | 0, _ => none
 | n + 1, te => match te with
  | .Name x p => opt (zah names x 0) fun k hk => match k, hk with
   | (i, .local), hk => some ⟨.n i, zkA hk⟩
   | _, _ => none
  | .Tuple es k p => bnd (go n es) fun ts h => some ⟨.t ts, zmk h⟩
  | _ => none
where go (n : Nat) : ∀ es : List PySem.Expr, Option {ts : List Tg // TgsOk S names es ts}
 | [] => some ⟨[], .nil⟩
 | e :: r => chk (!zak e) fun hs => bnd (tgX S names n e) fun t h => bnd (go n r) fun ts hr => some ⟨t :: ts, .cons h (by cases q : zak e <;> first | rfl | (rw [q] at hs; cases hs)) hr⟩
set_option backward.match.sparseCases true
structure CL (S : Sta) (fr : List Env) (g1 : Gh) (s1 : Shared) (C D it : Addr) (v : Value) (x : V) (k : Nat) (acc : List PyData) (g : Gh) (σ : Hp) (s : Shared) : Prop where
 E : Ext No g1 g s1.heap s.heap
 I : Inv S fr g σ s.heap
 z : Rest s1 s
 kC : g.κ C = .ot
 kD : g.κ D = .ot
 kI : g.κ it = .ot
 C : ∃ mp, s.heap.Ns C mp
 D : ∃ vs n, s.heap.get? D = some ⟨.type "list", none, .seq vs n, #[]⟩ /\ PVs S.w.params s.heap g.κ vs.toList acc
 it : ItAt s.heap it v x k
structure Apart3 (h : Heap) (C D it : Addr) : Prop where
 nC : h.get? C = none
 nD : h.get? D = none
 nI : h.get? it = none
 cd : C ≠ D
 ci : C ≠ it
 di : D ≠ it
theorem zfJ {g g' : Gh} {h h' : Heap} (E : Ext No g g' h h') {a : Addr} (k : g.κ a = .ot) {o : Obj} (e : h.get? a = some o) : h'.get? a = some o := E.keep a o e id (by rw [k]; decide) (by rw [k]; decide) (by rw [k]; decide) (by rw [k]; decide)
section
variable {S : Sta} {fr : List Env} {g1 g g' : Gh} {s1 s s' : Shared} {C D it : Addr} {v : Value} {x : V} {k : Nat} {acc : List PyData} {σ σ' : Hp}
theorem CL.mono (c : CL S fr g1 s1 C D it v x k acc g σ s) (E : Ext No g g' s.heap s'.heap) (I : Inv S fr g' σ' s'.heap) (z : Rest s s') : CL S fr g1 s1 C D it v x k acc g' σ' s' := by
 obtain ⟨mp, ns⟩ := c.C
 obtain ⟨vs, n, d1, d2⟩ := c.D
 obtain ⟨o, _, _, hi, _, _, _⟩ := c.it.has
 obtain ⟨oC, _, _, hC, _⟩ := id ns
 exact ⟨c.E.trans E, I, c.z.trans z, (E.kind _ _ hC).trans c.kC, (E.kind _ _ d1).trans c.kD, (E.kind _ _ hi).trans c.kI, ⟨mp, zbd (fun o e => zfJ E c.kC e) ns⟩, ⟨vs, n, zfJ E c.kD d1, d2.mono E.fz⟩, c.it.at fun o e => zfJ E c.kI e⟩
theorem CL.moved (c : CL S fr g1 s1 C D it v x k acc g σ s) (ap : Apart3 s1.heap C D it) {h' : Heap} {tk k' : Nat} (sb : Heap.SameBut it s.heap h') (i : ItAt h' it v x k') : CL S fr g1 s1 C D it v x k' acc g σ { s with heap := h', toks := tk } := by
 obtain ⟨E, I⟩ := zaM c.E c.I ap.nI c.kI sb.extBut
 have U := zcj c.I c.kI sb.extBut
 obtain ⟨mp, ns⟩ := c.C
 obtain ⟨vs, n, d1, d2⟩ := c.D
 exact ⟨E, I, ⟨c.z.1, c.z.2.1, c.z.2.2⟩, c.kC, c.kD, c.kI, ⟨mp, zbd (fun o e => sb.extBut _ o ap.ci e) ns⟩, ⟨vs, n, sb.extBut _ _ ap.di d1, d2.mono U.fz⟩, i⟩
theorem CL.named (c : CL S fr g1 s1 C D it v x k acc g σ s) (ap : Apart3 s1.heap C D it) {h' : Heap} {tk : Nat} {mp : Str -> Option Value} (sb : Heap.SameBut C s.heap h') (i : h'.Ns C mp) : CL S fr g1 s1 C D it v x k acc g σ { s with heap := h', toks := tk } := by
 obtain ⟨E, I⟩ := zaM c.E c.I ap.nC c.kC sb.extBut
 have U := zcj c.I c.kC sb.extBut
 obtain ⟨vs, n, d1, d2⟩ := c.D
 exact ⟨E, I, ⟨c.z.1, c.z.2.1, c.z.2.2⟩, c.kC, c.kD, c.kI, ⟨mp, i⟩, ⟨vs, n, sb.extBut _ _ (Ne.symm ap.cd) d1, d2.mono U.fz⟩, c.it.at fun o e => sb.extBut _ o (Ne.symm ap.ci) e⟩
theorem CL.more (c : CL S fr g1 s1 C D it v x k acc g σ s) (ap : Apart3 s1.heap C D it) {h' : Heap} {w : Value} {d : PyData} {vs : Array Value} {n n' : Nat} (d1 : s.heap.get? D = some ⟨.type "list", none, .seq vs n, #[]⟩) (d2 : PVs S.w.params s.heap g.κ vs.toList acc)
  (sb : Heap.SameBut D s.heap h') (hD : h'.get? D = some ⟨.type "list", none, .seq (vs.push w) n', #[]⟩) (p : PV S.w.params s.heap g.κ w d) : CL S fr g1 s1 C D it v x k (acc ++ [d]) g σ { s with heap := h' } := by
 obtain ⟨E, I⟩ := zaM c.E c.I ap.nD c.kD sb.extBut
 have U := zcj c.I c.kD sb.extBut
 obtain ⟨mp, ns⟩ := c.C
 exact ⟨E, I, ⟨c.z.1, c.z.2.1, c.z.2.2⟩, c.kC, c.kD, c.kI, ⟨mp, zbd (fun o e => sb.extBut _ o ap.cd e) ns⟩, ⟨_, _, hD, (d2.snoc p).mono U.fz⟩, c.it.at fun o e => sb.extBut _ o (Ne.symm ap.di) e⟩
theorem CL.fresh (c : CL S fr g1 s1 C D it v x k acc g σ s) (ap : Apart3 s1.heap C D it) {h' : Heap} (eb : Heap.ExtBut s.heap.objs.size s.heap h') : CL S fr g1 s1 C D it v x k acc g σ { s with heap := h' } := by
 obtain ⟨I, E⟩ := c.I.keeps (zbP eb)
 exact c.mono (s' := { s with heap := h' }) E I ⟨rfl, rfl, rfl⟩
end
noncomputable def McAt (S : Sta) (h : Heap) (g : Gh) (C : Addr) (names : Names) (mc : Fm) : Prop :=
 ∃ mp, h.Ns C mp /\ ∀ x i l, zah names x 0 = some (i, .local) -> mc[i]? = some (some l) -> ∃ v d, mp x = some v /\ l = .v (.pd d) /\ PV S.w.params h g.κ v d
theorem McAt.mono {S : Sta} {h h' : Heap} {g g' : Gh} {C : Addr} {names : Names} {mc : Fm} (f : Fz g.κ g'.κ h h') (e : ∀ o, h.get? C = some o -> h'.get? C = some o) (x : McAt S h g C names mc) : McAt S h' g' C names mc := by
 obtain ⟨mp, ns, r⟩ := x
 exact ⟨mp, zbd e ns, fun x i l h1 h2 => let ⟨v, d, a, b, c⟩ := r x i l h1 h2; ⟨v, d, a, b, c.mono f⟩⟩
theorem McAt.empty {S : Sta} {h : Heap} {g : Gh} {C : Addr} {names : Names} {mp : Str -> Option Value} (ns : h.Ns C mp) : McAt S h g C names mc0 :=
 ⟨mp, ns, fun x i l _ h2 => by rw [List.getElem?_replicate] at h2; split at h2 <;> cases h2⟩
section
variable {S : Sta} {A : Around} {env outer' : Env} {fr : List Env} {g1 g : Gh} {s1 : Shared} {C D it : Addr} {v : Value} {x : V} {k : Nat} {acc : List PyData} {σ : Hp}
theorem zjO {cenv : Env} {sc : Scope} (hn : A.handled = none) (ap : Apart3 s1.heap C D it) (hL : cenv.locals = C) (hk : ∀ x i, zah sc.names x 0 = some (i, .local) -> cenv.kindOf x = some .local) (hf : cenv.scope.kind = .function) :
  Sto S A g sc.names cenv (fun mc s => CL S fr g1 s1 C D it v x k acc g σ s /\ McAt S s.heap g C sc.names mc) := by
 refine ⟨hn, fun y i w d m s Q Ev hi hlt p r hQ => ?_, fun m s h' p eb => ⟨p.1.fresh ap eb, p.2.mono (fun a o k e => ⟨k, zbP eb a o e⟩) fun o e => zbP eb _ o e⟩⟩
 obtain ⟨c, mp, ns, q⟩ := p
 subst hL
 refine wpAny_storeName_local (hk y i hi) ns (fun h' ns' sb => ?_) (by rw [hf]; rfl)
 have c' := c.named (tk := s.toks + 1) ap sb ns'
 have U := zcj c.I c.kC sb.extBut
 refine hQ _ ⟨c', _, ns', fun z j l h1 h2 => ?_⟩ U.fz
 by_cases e : z = y
 ·obtain rfl := e.symm
  rw [hi] at h1; cases h1
  rw [zaE hlt] at h2; cases h2
  exact ⟨w, d, if_pos rfl, rfl, r.mono U.fz⟩
 ·have ne : i ≠ j := fun q => e (zaJ h1 (q ▸ hi))
  rw [zaL ne] at h2
  obtain ⟨u, d', a, b, c⟩ := q z j l h1 h2
  exact ⟨u, d', (if_neg e).trans a, b, c.mono U.fz⟩
end
theorem zaH {env : Env} {x : Str} : ∀ {names : List (Str × NameKind)},
  (names.map fun (n, k) => if (k == NameKind.free && env.scope.kind == .function && env.kindOf n == some .cell) then (n, NameKind.cell) else (n, k)).lookup x = (names.lookup x).map fun k => if (k == NameKind.free && env.scope.kind == .function && env.kindOf x == some .cell) then NameKind.cell else k
 | [] => rfl
 | (n, k) :: r => by
  have ih := @zaH env x r
  rw [List.map_cons]
  have e : (match ((n, k) : Str × NameKind) with | (n, k) => if (k == NameKind.free && env.scope.kind == .function && env.kindOf n == some .cell) = true then (n, NameKind.cell) else (n, k)) = (n, if (k == NameKind.free && env.scope.kind == .function && env.kindOf n == some .cell) = true then NameKind.cell else k) := by
   dsimp only
   split <;> rfl
  rw [e]
  by_cases q : x = n
  ·subst q
   simp only [List.lookup, beq_self_eq_true, Option.map_some]
  ·have hx : (x == n) = false := by simpa using q
   simp only [List.lookup, hx]
   exact ih
noncomputable abbrev zbs (cx : Cx) (sc : Scope) : Cx := { cx with cs := some sc.names, lam := false }
structure ScOk (fn : Names) (sc : Scope) : Prop where
 kf : sc.kind = .function
 nc : ∀ p ∈ sc.names, p.2 ≠ .cell
 nl : ∀ p ∈ sc.names, p.2 = .local -> sc.names.lookup p.1 = some .local
 nf : ∀ p ∈ sc.names, p.2 = .free -> badN p.1 = false /\ ∃ i, zah fn p.1 0 = some (i, .cell)
theorem scOk {fn : Names} {sc : Scope} (h : zc1 fn sc = true) : ScOk fn sc := by
 unfold zc1 at h
 simp only [Bool.and_eq_true] at h
 obtain ⟨⟨⟨h1, h2⟩, h3⟩, h4⟩ := h
 refine ⟨by simpa using h1, fun p hp => by simpa using List.all_eq_true.mp h2 p hp, fun p hp hq => ?_, fun p hp hq => ?_⟩
 ·have := List.all_eq_true.mp h3 p hp
  simp only [Bool.or_eq_true, bne_iff_ne, ne_eq, hq, not_true, false_or] at this
  simpa using this
 ·have := List.all_eq_true.mp h4 p hp
  simp only [Bool.or_eq_true, Bool.and_eq_true, bne_iff_ne, ne_eq, hq, not_true, false_or] at this
  refine ⟨by simpa using this.1, ?_⟩
  have := this.2
  split at this
  ·exact ⟨_, by assumption⟩
  ·cases this
section
variable {S : Sta} {G : zab} {nd : Nat} {hd : Bool} {cx : Cx} {A : Around} {env ev : Env} {outer : List Env} {L C : Addr} {Y : Addr -> Prop} {m mc : Fm} {g : Gh} {h : Heap} {sc : Scope}
theorem zdk {x : Str} {i : Nat} (e : zah sc.names x 0 = some (i, .local)) : Env.kindOf (compEnvC sc (zaA ev.cells sc.names []) C ev) x = some .local := by
 show List.lookup x (relabel sc ev).names = _
 unfold relabel
 dsimp only
 rw [zaH, zad e]; rfl
theorem zf2 (a : Act S cx A env ev outer L nd hd) (hcs : cx.cs = none) (so : ScOk cx.fn sc) : Act S (zbs cx sc) A env (compEnvC sc (zaA ev.cells sc.names []) C ev) outer L nd hd := by
 refine ⟨a.hn, a.frames, a.fL, a.vL, a.guards, a.depth, a.units, so.kf, a.gl, a.bl, fun x hx => ?_, nofun⟩
 show List.lookup x (relabel sc ev).names = _
 unfold relabel
 dsimp only
 rw [zaH]
 obtain ⟨i, k, e, q⟩ := zhu rfl hx
 cases k with
 | globalImplicit => rw [zad e]; rfl
 | free => exact bd_e q fun p _ q => by cases p with | mk j k => cases k <;> cases q
 | _ => cases q
theorem zir (r : Rd S cx ev Y h g m mc) (hcs : cx.cs = none) (kf : ev.scope.kind = .function) (so : ScOk cx.fn sc) (kC : g.κ C = .ot) {mc' : Fm} (hm : McAt S h g C sc.names mc') : Rd S (zbs cx sc) (compEnvC sc (zaA ev.cells sc.names []) C ev) Y h g m mc' := by
 refine ⟨fun x i hx l hl => ?_, fun x i hx l hl => ?_, nofun⟩
 ·have hb := zcv hx
  obtain ⟨j, k, e, hx⟩ := zhu rfl hx
  cases k with
  | free =>
   have hmem : (x, NameKind.free) ∈ sc.names := zav (zad e)
   obtain ⟨_, j', hj⟩ := so.nf _ hmem rfl
   dsimp only at hj
   have hx : (zah cx.fn x 0).bind _ = _ := hx
   rw [hj] at hx
   obtain rfl : j' = i := by cases hx; rfl
   have hn : nmOf cx x = some (.v j') := zkc hb hcs hj
   obtain ⟨v, na, lr⟩ := r.v x j' hn l hl
   obtain ⟨kc, c, o, c1, c2, c3⟩ := r.c hcs x j' hj
   refine ⟨v, ?_, lr⟩
   rcases na with ⟨k, _⟩ | ⟨c', k, l', k', ic⟩
   ·rw [kc] at k; cases k
   ·refine .inr ⟨c', .inl ?_, zcn l' (zad e), k', ic⟩
    show List.lookup x (relabel sc ev).names = _
    unfold relabel
    dsimp only
    rw [zaH, zad e, kf, kc]; rfl
  | _ => cases hx
 ·obtain ⟨j, k, e, hx⟩ := zhu rfl hx
  cases k with
  | «local» =>
   cases hx
   obtain ⟨mp, ns, q⟩ := hm
   obtain ⟨v, d, a, rfl, p⟩ := q x i l e hl
   exact ⟨v, .inl ⟨zdk e, .inr kC, mp, ns, a⟩, .v (.pd p)⟩
  | free => exact bd_e hx fun p _ q => by cases p with | mk j k => cases k <;> cases q
  | _ => cases hx
theorem zjx {E : KE} {g1 : Gh} {s1 s s' : Shared} {D it : Addr} {v : Value} {x : V} {k : Nat} {acc : List PyData} {σ : Hp} {cenv : Env} {e : Value} {Q : Value -> Shared -> Prop} {dv : Value} (a : Act S cx A env ev outer L nd hd) (ap : Apart3 s1.heap C D it) (c : CL S (env :: outer) g1 s1 C D it v x k acc g σ s) (hv : cenv.frame = some L)
  (er : Er S (env :: outer) No false g s E e s') : notedBy S.M A cenv (fun e s' => compPost S.M A (Er S (env :: outer) No false g1 s1 E) none Q dv C (.error e) s') e s' := by
 obtain ⟨exc, σ', g', ea, tr, rfl, _, hE, x1, I1, ex, z1⟩ := er
 unfold notedBy
 have c1 := c.mono x1 I1 z1
 refine zbw a.frames a.fL hv I1 ex fun g2 h2 I2 x2 ex2 => ?_
 have c2 := c1.mono (s' := { s' with heap := h2 }) x2 I2 ⟨rfl, rfl, rfl⟩
 obtain ⟨mp, ns⟩ := c2.C
 refine ⟨mp, ns, fun h3 sb cenv' _ => ?_⟩
 obtain ⟨x3, I3⟩ := zaM c2.E c2.I ap.nC c2.kC sb.extBut
 have kp : ∀ b o, g2.κ b ≠ .ot -> h2.get? b = some o -> h3.get? b = some o := fun b o q e => sb.extBut b o (fun w => q (w ▸ c2.kC)) e
 have ex3 : ExcAt S h3 g2 ea exc true := by
  obtain ⟨kd, oe, vs, dx, mp, h1, h2', h3', h4, h5, h6, h7, ⟨v1, h8, h9⟩, h10, h11⟩ := ex2
  have fz : Fz g2.κ g2.κ h2 h3 := fun b o q e => ⟨q, kp b o (by rw [q]; decide) e⟩
  refine ⟨kd, oe, vs, dx, mp, kp _ _ (by rw [kd]; decide) h1, h2', h3', h4, h5, h6, zbd (fun o e => kp _ o (by rw [h6]; decide) e) h7, ⟨v1, h8, h9.mono fz⟩, fun q => let ⟨w, a, b⟩ := h10 q; ⟨w, a, b.mono fz⟩, ?_⟩
  rcases h11 with ⟨q, _⟩ | ⟨q, T, oT, ts, t1, t2, t3, t4, t5, t6⟩
  ·cases q
  ·exact .inr ⟨rfl, T, oT, ts, t1, t2, kp _ _ (by rw [t6]; decide) t3, t4, t5, t6⟩
 refine zce (S := S) (g := g2) (σ := σ') (s := { s' with heap := h3 }) I3 ex3 fun h4 I4 x4 ex4 => ?_
 exact ⟨exc, σ', g2, ea, true, rfl, nofun, hE, x3.trans x4, I4, ex4, c2.z.trans ⟨rfl, rfl, rfl⟩⟩
end
section
variable {S : Sta} {G : zab} {nd : Nat} {cx : Cx} {A : Around} {env ev : Env} {outer : List Env} {L C D it : Addr} {Y : Addr -> Prop} {m mc : Fm} {g0 g1 g : Gh} {s1 s : Shared} {sc : Scope} {v : Value} {x : V} {k : Nat} {acc : List PyData} {σ : Hp} {E : KE} {Q : Value -> Shared -> Prop}
noncomputable abbrev Nv (S : Sta) (A : Around) (R : Result -> Shared -> Prop) (cenv : Env) : Value -> Shared -> Prop := notedBy S.M A cenv (fun e s' => R (.error e) s')
noncomputable abbrev znZ (S : Sta) (A : Around) (env : Env) (outer : List Env) (g1 : Gh) (s1 : Shared) (C D it : Addr) (v : Value) (x : V) (E : KE) (R : Result -> Shared -> Prop) (cenv : Env) : Prop :=
 ∀ k acc g σ s e s', CL S (env :: outer) g1 s1 C D it v x k acc g σ s -> Er S (env :: outer) No false g s E e s' -> Nv S A R cenv e s'
structure CEnd (S : Sta) (fr : List Env) (g1 : Gh) (s1 : Shared) (C D : Addr) (acc : List PyData) (g : Gh) (σ : Hp) (s : Shared) : Prop where
 E : Ext No g1 g s1.heap s.heap
 I : Inv S fr g σ s.heap
 z : Rest s1 s
 kC : g.κ C = .ot
 kD : g.κ D = .ot
 C : ∃ mp, s.heap.Ns C mp
 D : ∃ vs n, s.heap.get? D = some ⟨.type "list", none, .seq vs n, #[]⟩ /\ PVs S.w.params s.heap g.κ vs.toList acc
inductive Sealed (S : Sta) (fr : List Env) (g1 : Gh) (s1 : Shared) (C D : Addr) (K : KV) (h : Heap) : Prop
 | mk (d : V) (σ : Hp) (g : Gh) (k : K d σ) (E : Ext No g1 g s1.heap h) (I : Inv S fr g σ h) (r : VR S h g (.ref D) d) (kC : g.κ C = .ot)
theorem CEnd.seal {fr : List Env} {b : Bool} {K : KV} (ok : StaOk S) (ap : Apart3 s1.heap C D it) (c : CEnd S fr g1 s1 C D acc g σ s) (h : made b acc σ K) : Sealed S fr g1 s1 C D K s.heap := by
 obtain ⟨E, I, z, kC, kD, _, vs, n, d1, d2⟩ := c
 replace h := zar h
 cases b with
 | true =>
  obtain ⟨I3, E3⟩ := Inv.sealMu (o := .list acc) (h2 := s.heap) E I ap.nD kD ⟨_, d1⟩ (fun b o _ e => e) fun u => .list (vs := vs.toList) d1 (d2.mono u.fz)
  refine ⟨_, _, _, h.2, E3, I3, ?_, (if_neg ap.cd).trans kC⟩
  have : (g.mu D).μ σ.length = D := by rw [I.num]; exact if_pos rfl
  conv => lhs; rw [← this]
  exact .ref (by show σ.length < g.n + 1; rw [I.num]; exact Nat.lt_succ_self _)
 | false =>
  obtain ⟨I3, E3, U3⟩ := Inv.seal (k := .fz) (h2 := s.heap) E I ap.nD kD (fun b o _ e => e) d1
  have ns : D ≠ sysModules := fun q => by
   obtain ⟨o, e⟩ := ok.sm
   have := I.bfz _ _ e
   rw [← q, kD] at this; cases this
  exact ⟨_, _, _, h.2, E3, I3, .pd (.list (if_pos rfl) d1 rfl rfl ns (d2.mono U3.fz)), (if_neg ap.cd).trans kC⟩
theorem zit {b : Bool} {K : KV} (ok : StaOk S) (ap : Apart3 s1.heap C D it) (c : CEnd S (env :: outer) g1 s1 C D acc g σ s) (hK : made b acc σ K) :
  compPost S.M A (Er S (env :: outer) No false g1 s1 E) none (Ok S (env :: outer) No (RV S) g1 s1 K) (.ref D) C (.ok .next) s := by
 obtain ⟨mp, ns⟩ := c.C
 refine ⟨mp, ns, fun h' sb => ?_⟩
 obtain ⟨d, σ3, g3, k, E3, I3, r, kC⟩ := c.seal ok ap hK
 obtain ⟨E2, I2⟩ := zaM E3 I3 ap.nC kC sb.extBut
 exact ⟨d, σ3, g3, k, E2, I2, r.mono (zcj I3 kC sb.extBut), ⟨c.z.1, c.z.2.1, c.z.2.2⟩⟩
theorem zaN {σ σ' : Hp} {x : V} {k : Prop} (h : still σ σ' x k) : zaj σ' x = zaj σ x /\ k := by
 cases x with
 | ref i => exact ⟨congrArg (fun o => alt ((Option.bind o rdO).bind fun d => alt (zbC d) (tupP d)) none) h.1, h.2⟩
 | _ => exact ⟨rfl, h⟩
theorem zcc {iter : PySem.Expr} (h : zaX iter ≠ 3) (ev : Env) (w : Value) : foldedSetIterable iter ev w = pure w := by
 cases iter <;> first | rfl | exact absurd rfl h
noncomputable abbrev zgC (S : Sta) (G : zab) (m : Fm) (E : KE) (xe : X) (t : Tg) (xc : Option X) : PyData -> Hp -> (List PyData -> Hp -> Prop) -> Prop :=
 fun d σ2 k => need (tgFm mc0 t d) fun mc' => evC G S.gc m mc' xc σ2 (fun r σ3 => brn r (evX G S.gc m mc' xe σ3 (fun v σ4 => need (pdV v) fun d' => k [d'] σ4) E) (k [] σ3)) E
inductive IfsOk (S : Sta) (G : zab) (nd : Nat) (cx : Cx) : List PySem.Expr -> Option X -> Prop
 | no : IfsOk S G nd cx [] none
 | yes {c : PySem.Expr} {q : X} (h : SndT S G nd false cx c q) : IfsOk S G nd cx [c] (some q)
inductive CLI (S : Sta) (fr : List Env) (g1 : Gh) (s1 : Shared) (C D it : Addr) (v : Value) (x : V) (l : List PyData) (F : List PyData -> List PyData -> Hp -> Prop) (n : Nat) (s : Shared) : Prop
 | mk (k : Nat) (g : Gh) (σ : Hp) (acc : List PyData) (hn : n = l.length + 1 - k) (hk : k <= l.length) (c : CL S fr g1 s1 C D it v x k acc g σ s) (hl : zaj σ x = some l) (h : F (l.drop k) acc σ)
theorem zil {α : Type} {l : List α} {k : Nat} {d : α} (e : l[k]? = some d) : l.drop k = d :: l.drop (k + 1) := by
 obtain ⟨hlt, hd⟩ := List.getElem?_eq_some_iff.mp e
 rw [List.drop_eq_getElem_cons hlt, hd]
inductive Aft (S : Sta) (G : zab) (m : Fm) (E : KE) (xe : X) (xc : Option X) (fr : List Env) (g1 : Gh) (s1 : Shared) (C D it : Addr) (names : Names) (v : Value) (x : V) (l : List PyData) (F : List PyData -> List PyData -> Hp -> Prop) (σ1 : Hp) (n : Nat) (s : Shared) : Prop
 | mk (k : Nat) (g : Gh) (σ : Hp) (acc : List PyData) (mc' : Fm) (hn : n = l.length + 1 - k) (hk : k < l.length) (c : CL S fr g1 s1 C D it v x (k + 1) acc g σ s) (hm : McAt S s.heap g C names mc') (hz : acc.length <= sizeLine)
  (h : evC G S.gc m mc' xc σ (fun r σ3 => brn r (evX G S.gc m mc' xe σ3 (fun v σ4 => need (pdV v) fun d' => still σ1 σ4 x (F (l.drop (k + 1)) (acc ++ [d']) σ4)) E) (still σ1 σ3 x (F (l.drop (k + 1)) (acc ++ []) σ3))) E)
theorem zeD {elt : PySem.Expr} {xe : X} {R : Result -> Shared -> Prop} {mc' : Fm} {kk : PyData -> Hp -> Prop} {F : Shared -> Prop} (a : Act S cx A env ev outer L nd false) (hcs : cx.cs = none) (so : ScOk cx.fn sc) (ap : Apart3 s1.heap C D it) (he : SndX S G nd false (zbs cx sc) elt xe)
  (hE : znZ S A env outer g1 s1 C D it v x E R (compEnvC sc (zaA ev.cells sc.names []) C ev)) (rd : Rd S cx ev Y s1.heap g1 m mc)
  (c : CL S (env :: outer) g1 s1 C D it v x k acc g σ s) (hm : McAt S s.heap g C sc.names mc') (hz : acc.length <= sizeLine) (h : evX G S.gc m mc' xe σ (fun v σ4 => need (pdV v) fun d' => kk d' σ4) E)
  (hF : ∀ g' σ' d' s', CL S (env :: outer) g1 s1 C D it v x k (acc ++ [d']) g' σ' s' -> kk d' σ' -> F s') :
  wpAny S.M A (eval elt (compEnvC sc (zaA ev.cells sc.names []) C ev)) (fun xv s4 => wpAny S.M A (call (.builtin "list.append") [.ref D, xv]) (fun _ s5 => F s5) (Nv S A R (compEnvC sc (zaA ev.cells sc.names []) C ev)) s4) (Nv S A R (compEnvC sc (zaA ev.cells sc.names []) C ev)) s := by
 refine wpAny_mono (he A env _ outer L Y m mc' σ g s _ E (zf2 a hcs so) c.I (zir (rd.mono c.E) hcs a.kf so c.kC hm) h) (fun xv s4 hok => ?_) fun e s' er => hE _ _ _ _ _ _ _ c er
 obtain ⟨d, σ4, g4, h4, E4, I4, r4, z4⟩ := hok
 refine zal h4 fun d' hd h4 => ?_
 have c4 := c.mono E4 I4 z4
 obtain ⟨vs, n', d1, d2⟩ := c4.D
 have hl4 : vs.size = acc.length := d2.length
 exact append_at d1 (fun h' sb hD => hF g4 σ4 d' _ (c4.more ap d1 d2 sb hD (zbN (zbm hd ▸ r4))) h4) (hl4 ▸ hz)
theorem zis {elt te iter : PySem.Expr} {ifs : List PySem.Expr} {pos : Pos} {xe : X} {t : Tg} {xc : Option X} {KK : List PyData -> Hp -> Prop} {R : Result -> Shared -> Prop} {l : List PyData} {σ1 : Hp} (a : Act S cx A env ev outer L nd false) (hcs : cx.cs = none) (so : ScOk cx.fn sc) (ap : Apart3 s1.heap C D it) (ht : TgOk S sc.names te t)
  (he : SndX S G nd false (zbs cx sc) elt xe) (hc : IfsOk S G nd (zbs cx sc) ifs xc)
  (hE : znZ S A env outer g1 s1 C D it v x E R (compEnvC sc (zaA ev.cells sc.names []) C ev))
  (hR : ∀ g σ acc s, CEnd S (env :: outer) g1 s1 C D acc g σ s -> KK acc σ -> R (.ok .next) s)
  (rv : VR S s1.heap g1 v x) (rd : Rd S cx ev Y s1.heap g1 m mc) (hl : zaj σ1 x = some l)
  (c : CL S (env :: outer) g1 s1 C D it v x 0 [] g σ1 s) (h : zat (zgC S G m E xe t xc) (fun σ' k => still σ1 σ' x k) KK l [] σ1) :
  codeAny S.M A (.compLoop (.ListComp elt [⟨te, iter, ifs, 0⟩] sc pos) 0 (.ref it) (.ref D) (compEnvC sc (zaA ev.cells sc.names []) C ev))
   R s := by
 generalize hF : zat (zgC S G m E xe t xc) (fun σ' k => still σ1 σ' x k) KK = F at h
 have start : ∀ n s, CLI S (env :: outer) g1 s1 C D it v x l F n s -> ∀ P : Shared -> Prop, (∀ s2, Aft S G m E xe xc (env :: outer) g1 s1 C D it sc.names v x l F σ1 n s2 -> P s2) ->
   wpAny S.M A (pyNext (.ref it)) (fun r s₁ => match r with
    | none => R (.ok .next) s₁
    | some v => wpAny S.M A (letOwnedTupleGo te (.ref it) v) (fun _ s₀ => wpAny S.M A (assign te (compEnvC sc (zaA ev.cells sc.names []) C ev) v) (fun _ s₂ => P s₂) (Nv S A R (compEnvC sc (zaA ev.cells sc.names []) C ev)) s₀) (Nv S A R (compEnvC sc (zaA ev.cells sc.names []) C ev)) s₁)
    (Nv S A R (compEnvC sc (zaA ev.cells sc.names []) C ev)) s := fun n s hI P hP => by
  obtain ⟨k, g, σ, acc, hn, hk, c, hl', h⟩ := hI
  refine zel (a.hn rfl) c.I (rv.mono c.E.up) hl' c.it hk (fun w d h' tk e p sb i => ?_) (fun h' e eb => ?_)
  ·rw [zil e, ← hF] at h
   obtain ⟨hz, h⟩ := zar h
   refine zal h fun mc' hm h => ?_
   have p := p.mono (zcj c.I c.kI sb.extBut).fz
   have c := c.moved (tk := tk) ap sb i
   refine zj7 c.it ?_
   obtain ⟨mp, ns⟩ := c.C
   exact ht (zjO (a.hn rfl) ap rfl (fun x i e => zdk e) so.kf) w d mc0 mc' _ _ _ hm ⟨c, McAt.empty ns⟩ p fun s2 ⟨c2, hm2⟩ fz => hP _ ⟨k, g, σ, acc, mc', hn, (List.getElem?_eq_some_iff.mp e).1, c2, hm2, hz, hF ▸ h⟩
  ·subst e
   rw [List.drop_length, ← hF] at h
   obtain ⟨E2, I2⟩ := zaM c.E c.I ap.nI c.kI eb
   have U2 := zcj c.I c.kI eb
   obtain ⟨mp, ns⟩ := c.C
   obtain ⟨vs, n, d1, d2⟩ := c.D
   exact hR _ _ _ _ ⟨E2, I2, ⟨c.z.1, c.z.2.1, c.z.2.2⟩, c.kC, c.kD, ⟨mp, zbd (fun o e => eb _ o ap.ci e) ns⟩, ⟨vs, n, eb _ _ ap.di d1, d2.mono U2.fz⟩⟩ h
 have back : ∀ {k g σ acc s}, k < l.length -> CL S (env :: outer) g1 s1 C D it v x (k + 1) acc g σ s -> still σ1 σ x (F (l.drop (k + 1)) acc σ) -> ∃ m, m < l.length + 1 - k /\ CLI S (env :: outer) g1 s1 C D it v x l F m s := fun {k g σ acc s} hk c h =>
  ⟨_, Nat.sub_lt_sub_left (Nat.lt_succ_of_lt hk) (Nat.lt_succ_self _), k + 1, g, σ, acc, rfl, hk, c, (zaN h).1.trans hl, (zaN h).2⟩
 have i0 : CLI S (env :: outer) g1 s1 C D it v x l F (l.length + 1) s := ⟨0, g, σ1, [], rfl, Nat.zero_le _, c, hl, h⟩
 cases hc with
 | no =>
  refine kcp_loop _ (fun n s hI => start n s hI _ fun s2 af => ?_) _ i0
  obtain ⟨k, g, σ, acc, mc', hn, hk, c, hm, hz, h⟩ := af
  subst hn
  exact zeD a hcs so ap he hE rd c hm hz h fun g' σ' d' s' c' h' => back hk c' h'
 | yes hq =>
  refine kct_loop _ (fun n s hI => start n s hI _ fun s2 af => ?_) _ i0
  obtain ⟨k, g, σ, acc, mc', hn, hk, c, hm, hz, h⟩ := af
  subst hn
  refine wpAny_mono (hq A env _ outer L Y m mc' σ g s2 _ E (zf2 a hcs so) c.I (zir (rd.mono c.E) hcs a.kf so c.kC hm) h) (fun r s3 hok => ?_) fun e s' er => hE _ _ _ _ _ _ _ c er
  obtain ⟨r', σ3, g3, h3, E3, I3, e3, z3⟩ := hok
  have c3 := c.mono E3 I3 z3
  cases e3
  cases r with
  | true =>
   rw [if_pos rfl]
   exact zeD a hcs so ap he hE rd c3 (hm.mono E3.fz fun o e => zfJ E3 c.kC e) hz h3 fun g' σ' d' s' c' h' => back hk c' h'
  | false =>
   rw [if_neg (by decide)]
   refine back (g := g3) hk (acc := acc ++ []) ?_ h3
   rw [List.append_nil]; exact c3
theorem zf1 {use : Option (Value -> Sem Unit)} {dv e : Value} {s' : Shared} {g : Gh} {s : Shared} (e1 : Ext No g g1 s.heap s1.heap) (z1 : Rest s s1) (q : compPost S.M A (Er S (env :: outer) No false g1 s1 E) none Q dv C (.error e) s') :
  compPost S.M A (Er S (env :: outer) No false g s E) use Q dv C (.error e) s' := by
 obtain ⟨mp, ns, q⟩ := q
 have z : ∃ m, s'.heap.Ns C m /\ ∀ h', Heap.SameBut C s'.heap h' -> ∀ cenv : Env, cenv.locals = C -> wpAny S.M A (passOn "comprehension.variables-let-go" e cenv : Sem Value) (fun _ _ => False) (Er S (env :: outer) No false g s E) { s' with heap := h' } :=
  ⟨mp, ns, fun h' sb cv hv => wpAny_mono (q h' sb cv hv) (fun _ _ x => x) fun _ _ x => x.trans e1 z1⟩
 cases use <;> exact z
theorem zf0 {elt te iter : PySem.Expr} {ifs : List PySem.Expr} {pos p0 : Pos} {xe xi : X} {t : Tg} {xc : Option X} {KK : List PyData -> Hp -> Prop} {use : Option (Value -> Sem Unit)} (hcs : cx.cs = none) (hok : zc1 cx.fn sc = true) (hf : ∀ ev w, foldedSetIterable iter ev w = pure w) (ht : TgOk S sc.names te t)
  (hi : SndX S G nd false cx iter xi) (he : SndX S G nd false (zbs cx sc) elt xe) (hc : IfsOk S G nd (zbs cx sc) ifs xc)
  (a : Act S cx A env ev outer L nd false) (I : Inv S (env :: outer) g σ s.heap) (rd : Rd S cx ev Y s.heap g m mc)
  (h : evX G S.gc m mc xi σ (fun x σ1 => need (zaj σ1 x) fun l => zat (zgC S G m E xe t xc) (fun σ' k => still σ1 σ' x k) KK l [] σ1) E)
  (hR : ∀ g1 s1 C D it, Ext No g g1 s.heap s1.heap -> Rest s s1 -> Apart3 s1.heap C D it -> ∀ g2 σ2 acc s2, CEnd S (env :: outer) g1 s1 C D acc g2 σ2 s2 -> KK acc σ2 ->
   compPost S.M A (Er S (env :: outer) No false g s E) use Q (.ref D) C (.ok .next) s2) :
  wpAny S.M A (comprehension (.ListComp elt [⟨te, iter, ifs, 0⟩] sc pos) sc ev p0 (newList []) false (eval iter ev) use) Q (Er S (env :: outer) No false g s E) s := by
 have so := scOk hok
 have hcl : closureFor sc ev = pure (zaA ev.cells sc.names []) := zbW fun p hp hq => by
  obtain ⟨_, i, hi⟩ := so.nf p hp hq
  obtain ⟨_, c, o, h2, _⟩ := rd.c hcs p.1 i hi
  exact ⟨c, h2⟩
 refine wpAny_comprehension_free (use := use) rfl (hf ev) hcl so.kf so.nl (step (hi A env ev outer L Y m mc σ g s _ E a I rd h) fun v x σ1 g1 s1 h1 e1 i1 r1 z1 => ?_)
 refine zal h1 fun l hl h1 => zdl i1 r1 hl fun oi hit => ?_
 refine wpAny_newObj_type (wpAny_newFunctionEnv so.nc (by intro y hy; simp at hy) (fun h4 hns hsb => ?_) so.kf)
 dsimp only at hns hsb ⊢
 have z2 : (s1.heap.push oi).objs.size = s1.heap.objs.size + 1 := Heap.size_push ..
 have z3 : ((s1.heap.push oi).push { cls := .type "list", dict := none, data := .seq ([] : List Value).toArray }).objs.size = s1.heap.objs.size + 2 := by rw [Heap.size_push, z2]
 have hat : ((s1.heap.push oi).push { cls := .type "list", dict := none, data := .seq ([] : List Value).toArray }).get? (s1.heap.push oi).objs.size = some { cls := .type "list", dict := none, data := .seq ([] : List Value).toArray } := Heap.get?_push_size _ rfl
 rw [z2] at hat
 have up : ∀ b o, s1.heap.get? b = some o -> ((s1.heap.push oi).push { cls := .type "list", dict := none, data := .seq ([] : List Value).toArray }).get? b = some o := fun b o e => Heap.get?_push_of_some _ (Heap.get?_push_of_some _ e)
 have hit := hit.at (h' := (s1.heap.push oi).push { cls := .type "list", dict := none, data := .seq ([] : List Value).toArray }) fun o e => Heap.get?_push_of_some _ e
 rw [z2]
 generalize (s1.heap.push oi).push { cls := .type "list", dict := none, data := .seq ([] : List Value).toArray } = H at z3 hat up hit hns hsb ⊢
 rw [z3] at hns hsb
 rw [z3]
 have n1 : ∀ b, s1.heap.objs.size <= b -> s1.heap.get? b = none := fun b hb => Heap.get?_none_of_le hb
 have ap : Apart3 s1.heap (s1.heap.objs.size + 2) (s1.heap.objs.size + 1) s1.heap.objs.size :=
  ⟨n1 _ (Nat.le_add_right _ 2), n1 _ (Nat.le_add_right _ 1), n1 _ (Nat.le_refl _), Nat.ne_of_gt (Nat.lt_succ_self _), Nat.ne_of_gt (Nat.lt_add_of_pos_right (by decide)), Nat.ne_of_gt (Nat.lt_succ_self _)⟩
 have kp : ∀ b o, s1.heap.get? b = some o -> h4.get? b = some o := fun b o e => hsb.extBut b o (Nat.ne_of_lt (Nat.lt_of_lt_of_le (Heap.lt_size e) (Nat.le_add_right _ 2))) (Heap.get?_push_of_some _ (up _ _ e))
 obtain ⟨I4, E4⟩ := i1.keeps kp
 have c : CL S (env :: outer) g1 s1 _ _ _ v x 0 [] g1 σ1 { heap := h4, gens := s1.gens, drawn := s1.drawn, toks := s1.toks + ([] : List (Str × Value)).length, os := s1.os } :=
  ⟨E4, I4, ⟨rfl, rfl, rfl⟩, i1.ot _ ap.nC, i1.ot _ ap.nD, i1.ot _ ap.nI, ⟨_, hns⟩, ⟨_, _, hsb.extBut _ _ (Ne.symm ap.cd) (Heap.get?_push_of_some _ hat), .nil⟩, hit.at fun o e => hsb.extBut _ o (Ne.symm ap.ci) (Heap.get?_push_of_some _ e)⟩
 have loop := zis (iter := iter) (pos := pos) (KK := KK) (R := compPost S.M A (Er S (env :: outer) No false g s E) use Q (.ref (s1.heap.objs.size + 1)) (s1.heap.objs.size + 2)) a hcs so ap ht he hc
  (fun k acc g' σ s' e s'' c er => by
   have := zjx (cenv := compEnvC sc (zaA ev.cells sc.names []) (s1.heap.objs.size + 2) ev) (Q := Q) (dv := .ref (s1.heap.objs.size + 1)) a ap c (by exact a.vL) er
   unfold Nv
   unfold notedBy at this ⊢
   exact wpAny_mono this (fun _ s' q => zf1 e1 z1 q) fun _ s' q => zf1 e1 z1 q)
  (fun g' σ acc s' c q => hR g1 s1 _ _ _ e1 z1 ap g' σ acc s' c q) r1 (rd.mono e1) hl c h1
 exact codeAny_compStart_list loop (zhI c.it loop)
theorem zfu (ok : StaOk S) {elt te iter : PySem.Expr} {ifs : List PySem.Expr} {pos : Pos} {b : Bool} {xe xi : X} {t : Tg} {xc : Option X} (hcs : cx.cs = none) (hok : zc1 cx.fn sc = true) (hf : ∀ ev w, foldedSetIterable iter ev w = pure w) (ht : TgOk S sc.names te t)
  (hi : SndX S G nd false cx iter xi) (he : SndX S G nd false (zbs cx sc) elt xe) (hc : IfsOk S G nd (zbs cx sc) ifs xc) :
  SndX S G nd false cx (.ListComp elt [⟨te, iter, ifs, 0⟩] sc pos) (.comp b xe t xi xc) := by
 intro A env ev outer L Y m mc σ g s K E a I rd h
 replace h := zet h
 rw [eval_ListComp]
 refine zf0 hcs hok hf ht hi he hc a I rd h fun g1 s1 C D it e1 z1 ap g2 σ2 acc s2 c q => ?_
 obtain ⟨mp, ns, q⟩ := zit (A := A) (E := E) ok ap c q
 exact ⟨mp, ns, fun h' sb => (q h' sb).trans e1 z1⟩
end
set_option backward.match.sparseCases false
noncomputable def RFl (S : Sta) (h : Heap) (g : Gh) : Flow -> Fl -> Prop
 | .next, .next => True
 | .ret v, .ret x => VR S h g v x
 | .cont, .cont => True
 | _, _ => False
inductive OkS (S : Sta) (env : Env) (outer : List Env) (Y : Addr -> Prop) (names : Names) (g : Gh) (s : Shared) (K : Fl -> Fm -> Hp -> Prop) (fl : Flow) (s' : Shared) : Prop
 | mk (f : Fl) (m' : Fm) (σ' : Hp) (g' : Gh) (k : K f m' σ') (e : Ext Y g g' s.heap s'.heap) (i : Inv S (env :: outer) g' σ' s'.heap) (v : VarsOk S Y s'.heap g' env names m') (r : RFl S s'.heap g' fl f) (z : Rest s s')
noncomputable abbrev zc5 (names : Names) : Prop := ∀ x i, zah names x 0 ≠ some (i, .free)
noncomputable def SndS (S : Sta) (G : zab) (nd : Nat) (hd : Bool) (names : Names) (lam : Bool) (st : Stmt) (x : Mine.Lake.S) : Prop :=
 ∀ A env outer L Y m σ g s K E, Act S (S.at names none lam) A env env outer L nd hd -> zc5 names -> Inv S (env :: outer) g σ s.heap -> VarsOk S Y s.heap g env names m -> evS G S.gc x m σ K E ->
  wpAny S.M A (exec st env) (OkS S env outer Y names g s K) (Er S (env :: outer) Y false g s E) s
noncomputable def zc4 (S : Sta) (G : zab) (nd : Nat) (hd : Bool) (names : Names) (lam : Bool) (st : List Stmt) (x : List Mine.Lake.S) : Prop :=
 ∀ A env outer L Y m σ g s K E, Act S (S.at names none lam) A env env outer L nd hd -> zc5 names -> Inv S (env :: outer) g σ s.heap -> VarsOk S Y s.heap g env names m -> evSs G S.gc x m σ K E ->
  wpAny S.M A (execs st env) (OkS S env outer Y names g s K) (Er S (env :: outer) Y false g s E) s
section
variable {S : Sta} {fr : List Env} {X Y : Addr -> Prop} {t : Bool} {g g1 : Gh} {s s1 s2 : Shared} {E : Exc -> Hp -> Prop} {a : Value}
theorem Er.wide (i : ∀ a, X a -> Y a) : Er S fr X t g s E a s1 -> Er S fr Y t g s E a s1 := by
 rintro ⟨exc, σ', g', ea, tr, e, f, k, y, i', q, z⟩
 exact ⟨exc, σ', g', ea, tr, e, f, k, y.weaken i, i', q, z⟩
theorem Er.no : Er S fr No t g s E a s1 -> Er S fr Y t g s E a s1 := Er.wide fun _ q => q.elim
end
section
variable {S : Sta} {G : zab} {nd : Nat} {hd : Bool} {names : Names} {lam : Bool} {env : Env} {outer : List Env} {Y : Addr -> Prop} {g g1 : Gh} {s s1 : Shared} {K : Fl -> Fm -> Hp -> Prop} {E : KE}
theorem OkS.trans {fl : Flow} {s2 : Shared} (x : Ext Y g g1 s.heap s1.heap) (r : Rest s s1) : OkS S env outer Y names g1 s1 K fl s2 -> OkS S env outer Y names g s K fl s2 := by
 rintro ⟨f, m, σ, g', k, e, i, v, q, z⟩
 exact ⟨f, m, σ, g', k, x.trans e, i, v, q, r.trans z⟩
theorem stS {A : Around} {α : Type} {t : Sem α} {Q : α -> Shared -> Prop} (x : Ext Y g g1 s.heap s1.heap) (r : Rest s s1) (h : wpAny S.M A t Q (Er S (env :: outer) Y false g1 s1 E) s1) : wpAny S.M A t Q (Er S (env :: outer) Y false g s E) s1 := wpAny_mono h (fun _ _ x => x) fun _ _ q => q.trans x r
theorem stX {A : Around} {L : Addr} {m : Fm} {σ : Hp} {e : PySem.Expr} {x : X} {K : KV} {P : Value -> Shared -> Prop} (hx : SndX S G nd hd (S.at names none lam) e x) (a : Act S (S.at names none lam) A env env outer L nd hd) (nf : zc5 names) (I : Inv S (env :: outer) g σ s.heap) (V : VarsOk S Y s.heap g env names m) (h : evX G S.gc m [] x σ K E)
  (k : ∀ v d σ1 g1 s1, K d σ1 -> Ext No g g1 s.heap s1.heap -> Inv S (env :: outer) g1 σ1 s1.heap -> VR S s1.heap g1 v d -> VarsOk S Y s1.heap g1 env names m -> Rest s s1 -> P v s1) :
  wpAny S.M A (eval e env) P (Er S (env :: outer) Y false g s E) s :=
 wpAny_mono (hx A env env outer L Y m [] σ g s K E a I (V.rd nf) h) (fun v s1 ⟨d, σ1, g1, k1, e1, i1, r1, z1⟩ => k v d σ1 g1 s1 k1 e1 i1 r1 (V.mono e1) z1) fun _ _ q => q.no
theorem zgN : zc4 S G nd hd names lam [] [] := fun A env outer L Y m σ g s K E a nf I V h => wpAny_execs_nil ⟨.next, m, σ, g, h, .refl _ _ _, I, V, trivial, .refl _⟩
theorem zdw {st : Stmt} {sts : List Stmt} {x : Mine.Lake.S} {xs : List Mine.Lake.S} (hx : SndS S G nd hd names lam st x) (hr : zc4 S G nd hd names lam sts xs) : zc4 S G nd hd names lam (st :: sts) (x :: xs) := by
 intro A env outer L Y m σ g s K E a nf I V h
 replace h := zez h
 refine wpAny_execs_cons (wpAny_mono (hx A env outer L Y m σ g s _ E a nf I V h) (fun fl s1 ⟨f, m1, σ1, g1, h1, e1, i1, v1, r1, z1⟩ => ?_) fun _ _ x => x)
 cases fl <;> cases f <;> first
  | exact r1.elim
  | exact stS e1 z1 (wpAny_mono (hr A env outer L Y m1 σ1 g1 s1 K E a nf i1 v1 h1) (fun _ _ x => x.trans e1 z1) fun _ _ x => x)
  | exact ⟨_, m1, σ1, g1, h1, e1, i1, v1, r1, z1⟩
theorem zmz {e : PySem.Expr} {x : X} {pos : Pos} (hx : SndX S G nd hd (S.at names none lam) e x) : SndS S G nd hd names lam (.Return (some e) pos) (.ret x) := by
 intro A env outer L Y m σ g s K E a nf I V h
 replace h := zfW h
 rw [arm_exec_Return]
 refine wpAny_bind (wpAny_standAt ?_)
 show wpAny S.M A (do return Flow.ret (← eval e env)) _ _ _
 exact wpAny_bind (stX hx a nf I V h fun v d σ1 g1 s1 h1 e1 i1 r1 v1 z1 => wpAny_pure ⟨.ret d, m, σ1, g1, h1, e1.no, i1, v1, r1, z1⟩)
theorem zoj {st : Stmt} : SndS S G nd hd names lam st .bad := fun A env outer L Y m σ g s K E a nf I V h => h.elim
theorem zoh {t : PySem.Expr} {p q : List Stmt} {pos : Pos} {x : X} {xp xq : List Mine.Lake.S} (hx : SndT S G nd hd (S.at names none lam) t x) (hp : zc4 S G nd hd names lam p xp) (hq : zc4 S G nd hd names lam q xq) : SndS S G nd hd names lam (.If t p q pos) (.ite x xp xq) := by
 intro A env outer L Y m σ g s K E a nf I V h
 replace h := zjI h
 rw [arm_exec_If]
 refine wpAny_bind (wpAny_standAt (wpAny_bind (wpAny_mono (hx A env env outer L Y m [] σ g s (fun r σ' => match r with | true => evSs G S.gc xp m σ' K E | false => evSs G S.gc xq m σ' K E) E a I (V.rd nf) h) (fun r s1 ⟨r', σ1, g1, h1, e1, i1, rr, z1⟩ => ?_) fun _ _ q => q.no)))
 subst rr
 have v1 := V.mono e1
 cases r with
 | true => exact stS e1.no z1 (wpAny_mono (hp A env outer L Y m σ1 g1 s1 K E a nf i1 v1 h1) (fun _ _ x => x.trans e1.no z1) fun _ _ x => x)
 | false => exact stS e1.no z1 (wpAny_mono (hq A env outer L Y m σ1 g1 s1 K E a nf i1 v1 h1) (fun _ _ x => x.trans e1.no z1) fun _ _ x => x)
end
set_option backward.match.sparseCases true
section
variable {S : Sta} {g : Gh} {h h' : Heap} {Y : Addr -> Prop} {C : Addr}
theorem LR.kept (k : g.κ C = .ot) (x : Heap.ExtBut C h h') {v : Value} {l : Loc} : LR S Y h g v l -> LR S Y h' g v l := by
 have kp : ∀ b o, g.κ b ≠ .ot -> h.get? b = some o -> h'.get? b = some o := fun b o q e => x b o (fun w => q (w ▸ k)) e
 have fz : Fz1 g h h' := fun b o q e => ⟨q, kp b o (by rw [q]; decide) e⟩
 have U : Up g g h h' := ⟨Nat.le_refl _, fun _ _ => rfl, fz⟩
 intro r
 cases r with
 | v r => exact .v (r.mono U)
 | fault r =>
  obtain ⟨k, nx, oe, vs, dx, mp, h1, h2, h3, h4, h6, h7, ⟨v1, h8, h9⟩, h10⟩ := r
  exact .fault ⟨k, nx, oe, vs, dx, mp, kp _ _ (by rw [k]; decide) h1, h2, h3, h4, h6, zbd (fun o e => kp _ o (by rw [h6]; decide) e) h7, ⟨v1, h8, h9.mono fz⟩, fun y => let ⟨w, a, b⟩ := h10 y; ⟨w, a, b.mono fz⟩⟩
 | lam r =>
  obtain ⟨o, fd, fn, e, h1, h2, h3, st, co, fr⟩ := r
  refine .lam ⟨o, fd, fn, e, (fz _ _ h1 h2).1, (fz _ _ h1 h2).2, h3, st, co.mono fz, fun x i e1 e2 => ?_⟩
  obtain ⟨c, o, q1, q2, q3, q4, q5⟩ := fr x i e1 e2
  refine ⟨c, o, q1, q2, q3, kp _ _ (by rw [q2]; decide) q4, fun y hy => ?_⟩
  obtain ⟨v, ⟨o', z1, z2⟩, z3⟩ := q5 y hy
  exact ⟨v, ⟨o', kp _ _ (by rw [q2]; decide) z1, z2⟩, z3.mono U⟩
theorem VarsOk.but {env : Env} {names : Names} {m : Fm} (k : g.κ C = .ot) (xb : Heap.ExtBut C h h') (ny : ¬ Y C) (V : VarsOk S Y h g env names m) : VarsOk S Y h' g env names m := by
 have kp : ∀ b o, g.κ b ≠ .ot -> h.get? b = some o -> h'.get? b = some o   := fun b o q e => xb b o (fun w => q (w ▸ k)) e
 obtain ⟨mp, ns, r⟩ := V.loc
 refine ⟨V.len, V.nm, V.kL, V.yL, fun a ya => let ⟨o, e, k⟩ := V.yH a ya; ⟨o, xb a o (fun q => ny (q ▸ ya)) e, k⟩, ⟨mp, zbd (fun o e => kp _ o (by rw [V.kL]; decide) e) ns, fun x i l e1 e2 => let ⟨u, a, b⟩ := r x i l e1 e2; ⟨u, a, b.kept k xb⟩⟩, fun x i e => ?_, V.inj⟩
 obtain ⟨c, c1, c2, c3, c4, ov, ⟨oc, c5, c6⟩, c7⟩ := V.cel x i e
 exact ⟨c, c1, c2, c3, c4, ov, ⟨oc, kp _ _ (by rw [c4]; decide) c5, c6⟩, fun l hl => let ⟨u, a, b⟩ := c7 l hl; ⟨u, a, b.kept k xb⟩⟩
end
section
variable {S : Sta} {G : zab} {nd : Nat} {hd : Bool} {names : Names} {lam : Bool} {cx : Cx}
theorem zcI {x : Str} {q : Pos} {i : Nat} (h : zbE cx (.Name x q) = some i) : ∃ k, zah cx.fn x 0 = some (i, k) /\ (k = .local \/ k = .cell) := by
 exact zcJ h
theorem zbk {e : PySem.Expr} {t : Option PySem.Expr} {line : Nat} {env : Env} (he : zaX e ≠ 1) : swapsWith e t line env = pure false := by
 cases e <;> first | rfl | exact absurd rfl he
theorem zj3 {x : Str} {q pos : Pos} {e : PySem.Expr} {xe : X} {i : Nat} (hs : zbE (S.at names none lam) (.Name x q) = some i) (hx : SndX S G nd hd (S.at names none lam) e xe)
  {A : Around} {env : Env} {outer : List Env} {L : Addr} {Y : Addr -> Prop} {m : Fm} {σ : Hp} {g : Gh} {s : Shared} {K : Fl -> Fm -> Hp -> Prop} {E : KE} (a : Act S (S.at names none lam) A env env outer L nd hd) (nf : zc5 names) (I : Inv S (env :: outer) g σ s.heap) (V : VarsOk S Y s.heap g env names m) (h : evS G S.gc (.asg i xe) m σ K E)
  (hw : swapsWith e (some (.Name x q)) pos.line env = pure false) : wpAny S.M A (exec (.Assign [.Name x q] e pos) env) (OkS S env outer Y names g s K) (Er S (env :: outer) Y false g s E) s := by
 replace h := zdT h
 obtain ⟨k, hi, hk⟩ := zcI hs
 rw [arm_exec_Assign]
 refine wpAny_bind (wpAny_standAt ?_)
 show wpAny S.M A (swapsWith e (some (.Name x q)) pos.line env >>= _) _ _ _
 rw [hw]
 refine wpAny_bind (wpAny_pure ?_)
 rw [if_neg (by decide)]
 refine wpAny_bind (stX hx a nf I V h fun v d σ1 g1 s1 h1 e1 i1 r1 v1 z1 => ?_)
 refine wpAny_bind (m := swappedStores [.Name x q] e env) (wpAny_pure ?_)
 show wpAny S.M A (do assignAll v [assign (.Name x q) env]; pure Flow.next) _ _ _
 refine wpAny_bind (m := assign (.Name x q) env v) (wpAny_assign_Name (store a.kf v1 i1 hi hk (.v r1) fun h' tk I' E' V' _ => wpAny_pure ⟨.next, _, σ1, g1, (zar h1).2, e1.no.trans E', I', V', trivial, ⟨z1.1, z1.2.1, z1.2.2⟩⟩))
theorem zmC {x : Str} {q pos : Pos} {e : PySem.Expr} {xe : X} {i : Nat} (he : zaX e ≠ 1) (hs : zbE (S.at names none lam) (.Name x q) = some i) (hx : SndX S G nd hd (S.at names none lam) e xe) : SndS S G nd hd names lam (.Assign [.Name x q] e pos) (.asg i xe) :=
 fun A env outer L Y m σ g s K E a nf I V h => zj3 hs hx a nf I V h (zbk he)
theorem zgd {el : PySem.Expr} {gs : List Comprehension} {sc : Scope} {p q : Pos} {x : Str} {line : Nat} {env : Env} : ∃ b, swapsWith (.ListComp el gs sc p) (some (.Name x q)) line env = pure b := ⟨_, rfl⟩
theorem zgh (ok : StaOk S) {x : Str} {q pos p : Pos} {elt te iter : PySem.Expr} {ifs : List PySem.Expr} {sc : Scope} {i : Nat} {b : Bool} {xe xi : X} {t : Tg} {xc : Option X} (hs : zbE (S.at names none lam) (.Name x q) = some i) (hok : zc1 names sc = true) (hf : ∀ ev w, foldedSetIterable iter ev w = pure w) (ht : TgOk S sc.names te t)
  (hi : SndX S G nd false (S.at names none lam) iter xi) (he : SndX S G nd false (zbs (S.at names none lam) sc) elt xe) (hc : IfsOk S G nd (zbs (S.at names none lam) sc) ifs xc) :
  SndS S G nd false names lam (.Assign [.Name x q] (.ListComp elt [⟨te, iter, ifs, 0⟩] sc p) pos) (.asg i (.comp b xe t xi xc)) := by
 intro A env outer L Y m σ g s K E a nf I V h
 obtain ⟨bb, hw⟩ := zgd (el := elt) (gs := [⟨te, iter, ifs, 0⟩]) (sc := sc) (p := p) (q := q) (x := x) (line := pos.line) (env := env)
 cases bb with
 | false => exact zj3 hs (zfu ok rfl hok hf ht hi he hc) a nf I V h hw
 | true =>
  replace h := zet (zdT h)
  obtain ⟨k, hix, hk⟩ := zcI hs
  rw [exec_Assign_Name_used _ _ _ _ hw]
  refine wpAny_bind (wpAny_standAt (wpAny_bind ?_))
  show wpAny S.M A (do let _ ← comprehension (.ListComp elt [⟨te, iter, ifs, 0⟩] sc p) sc env _ (newList []) false (eval iter env) (some (assign (.Name x q) env))) _ _ s
  refine wpAny_bind (wpAny_mono (zf0 (Q := fun _ s' => OkS S env outer Y names g s K .next s') rfl hok hf ht hi he hc a I (V.rd nf) h fun g1 s1 C D it e1 z1 ap g2 σ2 acc s2 c q8 => ?_) (fun _ s' q => wpAny_pure (wpAny_pure q)) fun _ _ q => q.no)
  obtain ⟨d, σ3, g3, hK, E3, I3, rD, kC⟩ := c.seal ok ap q8
  have V3 := V.mono (e1.trans E3)
  show wpAny S.M A (assign (.Name x q) env (.ref D)) _ _ _
  refine wpAny_assign_Name (store a.kf V3 I3 hix hk (.v rD) fun h' tk I' E' V' same => ?_)
  obtain ⟨mp, ns⟩ := c.C
  refine ⟨mp, zbd (fun o e => (same C kC).trans e) ns, fun h'' sb => ?_⟩
  have EY : Ext Y g1 g3 s1.heap h' := E3.no.trans E'
  obtain ⟨E5, I5⟩ := zaM EY I' ap.nC kC sb.extBut
  have ny : ¬ Y C := fun ya => by obtain ⟨o, e, _⟩ := (V.mono e1).yH C ya; rw [ap.nC] at e; cases e
  exact ⟨.next, _, σ3, g3, (zar hK).2, e1.no.trans E5, I5, V'.but kC sb.extBut ny, trivial, z1.trans ⟨c.z.1, c.z.2.1, c.z.2.2⟩⟩
end
set_option backward.match.sparseCases false
theorem zcp {i : Nat} {r : List Nat} {v : V} {q : List V} {m : Fm} : asgN (i :: r) (v :: q) m = if i < m.length then asgN r q (zaw m i (some (.v v))) else none := rfl
theorem zlQ {α β : Type} {F : α -> Option β} {a : α} {ts : List α} {b : Bool} {y : β} {ns : List β} (e : (a :: ts).filterMap F = ns) (hl : ns.length = (a :: ts).length) (hF : F a = if b = true then some y else none) : ∃ ms, ns = y :: ms /\ ts.filterMap F = ms /\ ms.length = ts.length := by
 cases b with
 | true => rw [List.filterMap_cons_some (hF.trans (if_pos rfl))] at e; obtain rfl := e.symm; exact ⟨_, rfl, rfl, Nat.succ.inj hl⟩
 | false => rw [List.filterMap_cons_none (hF.trans (if_neg Bool.false_ne_true))] at e; exact absurd (Nat.le_trans (Nat.le_of_eq hl.symm) (e ▸ List.length_filterMap_le _ ts)) (Nat.lt_irrefl _)
theorem zbZ {l : List Nat} : ∀ {ds : List V} {m m' : Fm}, asgN l ds m = some m' -> l.length = ds.length /\ m'.length = m.length := by
 induction l with
 | nil =>
  intro ds m m' h
  cases ds with
  | nil => cases h; exact ⟨rfl, rfl⟩
  | cons => cases h
 | cons i r ih =>
  intro ds m m' h
  cases ds with
  | nil => cases h
  | cons d ds =>
   rw [zcp] at h
   split at h
   ·obtain ⟨h1, h2⟩ := ih h
    exact ⟨congrArg (· + 1) h1, by rw [h2, zaS]⟩
   ·cases h
theorem zf6 {i : Nat} {x : Option Loc} {r : List Nat} : ∀ {ds : List V} {m : Fm}, i ∉ r -> asgN r ds (zaw m i x) = (asgN r ds m).map fun m' => zaw m' i x := by
 induction r with
 | nil => intro ds m _; cases ds <;> rfl
 | cons j r ih =>
  intro ds m h
  cases ds with
  | nil => rfl
  | cons d ds =>
   rw [zcp, zcp, zaS]
   rw [List.mem_cons, not_or] at h
   split
   ·rw [zdg h.1, ih h.2]
   ·rfl
theorem zfl {a b : List Nat} : ∀ {c d : List V} {m : Fm}, a.length = c.length -> asgN (a ++ b) (c ++ d) m = (asgN a c m).bind (asgN b d) := by
 induction a with
 | nil =>
  intro c d m h
  cases c with
  | nil => rfl
  | cons => cases h
 | cons i r ih =>
  intro c d m h
  cases c with
  | nil => cases h
  | cons x c =>
   rw [List.cons_append, List.cons_append, zcp, zcp]
   split
   ·exact ih (Nat.succ.inj h)
   ·rfl
theorem zjS {l : List Nat} : ∀ {ds : List V} {m : Fm}, l.Nodup -> l.length = ds.length -> asgN l.reverse ds.reverse m = asgN l ds m := by
 induction l with
 | nil =>
  intro ds m _ h
  cases ds with
  | nil => rfl
  | cons => cases h
 | cons i r ih =>
  intro ds m hn h
  cases ds with
  | nil => cases h
  | cons d ds =>
   rw [List.nodup_cons] at hn
   have h := Nat.succ.inj h
   rw [List.reverse_cons, List.reverse_cons, zfl (by rw [List.length_reverse, List.length_reverse]; exact h), ih hn.2 h, zcp]
   cases hm : asgN r ds m with
   | none =>
    simp only [Option.bind_none]
    split
    ·rw [zf6 hn.1, hm]; rfl
    ·rfl
   | some m' =>
    have := (zbZ hm).2
    rw [Option.bind_some, zcp, this]
    split
    ·rw [zf6 hn.1, hm]; rfl
    ·rfl
section
variable {S : Sta} {names : Names} {env : Env} {outer : List Env} {Y : Addr -> Prop} {A : Around} {Ev : Value -> Shared -> Prop}
noncomputable def IsSto (S : Sta) (env : Env) (x : Str) (act : Value -> Sem Unit) : Prop := ∀ (A : Around) (Q : Unit -> Shared -> Prop) (Ev : Value -> Shared -> Prop) (v : Value) (s : Shared), wpAny S.M A (storeName env x v) Q Ev s -> wpAny S.M A (act v) Q Ev s
inductive StoL (S : Sta) (env : Env) (names : Names) : List Nat -> List (Value -> Sem Unit) -> Prop
 | nil : StoL S env names [] []
 | cons {x : Str} {i : Nat} {k : NameKind} {act : Value -> Sem Unit} {l : List Nat} {acts : List (Value -> Sem Unit)} : zah names x 0 = some (i, k) -> (k = .local \/ k = .cell) -> IsSto S env x act -> StoL S env names l acts -> StoL S env names (i :: l) (act :: acts)
theorem StoL.append {l l' : List Nat} {a a' : List (Value -> Sem Unit)} (x : StoL S env names l a) (y : StoL S env names l' a') : StoL S env names (l ++ l') (a ++ a') := by
 induction x with
 | nil => exact y
 | cons h1 h2 h3 _ ih => exact .cons h1 h2 h3 ih
theorem StoL.reverse {l : List Nat} {a : List (Value -> Sem Unit)} (x : StoL S env names l a) : StoL S env names l.reverse a.reverse := by
 induction x with
 | nil => exact .nil
 | cons h1 h2 h3 _ ih => rw [List.reverse_cons, List.reverse_cons]; exact ih.append (.cons h1 h2 h3 .nil)
theorem VRs.reverse {h : Heap} {g : Gh} {vs : List Value} {ds : List V} (r : VRs S h g vs ds) : VRs S h g vs.reverse ds.reverse := by
 induction r with
 | nil => exact .nil
 | cons a _ ih => rw [List.reverse_cons, List.reverse_cons]; exact ih.append (.cons a .nil)
theorem zgM (kf : env.scope.kind = .function) {l : List Nat} {acts : List (Value -> Sem Unit)} (sl : StoL S env names l acts) : ∀ {vs : List Value} {ds : List V} {m m' : Fm} {g : Gh} {σ : Hp} {s : Shared} {Q : Unit -> Shared -> Prop}, asgN l ds m = some m' -> VRs S s.heap g vs ds -> VarsOk S Y s.heap g env names m -> Inv S (env :: outer) g σ s.heap ->
  (∀ s', Inv S (env :: outer) g σ s'.heap -> Ext Y g g s.heap s'.heap -> VarsOk S Y s'.heap g env names m' -> Rest s s' -> Q () s') -> wpAny S.M A (assignInOrder acts vs) Q Ev s := by
 induction sl with
 | nil =>
  intro vs ds m m' g σ s Q h r V I hQ
  cases r with
  | nil =>
   obtain rfl := Option.some.inj h
   exact assignInOrder_nil (hQ s I (.refl _ _ _) V (.refl _))
  | cons => cases h
 | cons h1 h2 h3 _ ih =>
  intro vs ds m m' g σ s Q h r V I hQ
  cases r with
  | nil => cases h
  | cons a r =>
   rw [zcp] at h
   split at h
   ·refine assignInOrder_cons (h3 _ _ _ _ _ (store kf V I h1 h2 (.v a) fun h' tk I' E' V' _ => ?_))
    exact ih h (r.mono E'.up) V' I' fun s' I2 E2 V2 z2 => hQ s' I2 (E'.trans E2) V2 ⟨z2.1, z2.2.1, z2.2.2⟩
   ·cases h
theorem zcE {cx : Cx} (hf : cx.fn = names) : ∀ {ts : List PySem.Expr} {l : List Nat}, zb3 cx ts = some l -> StoL S env names l ((assignEach ts env).map (·.2)) /\ (assignEach ts env).length = ts.length /\ (assignEach ts env).findIdx? (·.1) = none /\ l.length = ts.length /\ ts.all (fun t => match t with | .Name .. => true | _ => false) = true
 | [], l, h => by obtain rfl := Option.some.inj h; exact ⟨.nil, rfl, rfl, rfl, rfl⟩
 | t :: ts, l, h => bd_e h fun i h1 h => bd_e h fun l' h2 h => by
  obtain rfl := Option.some.inj h
  obtain ⟨q1, q2, q3, q4, q5⟩ := zcE hf h2
  obtain ⟨x, p, rfl, h3⟩ := zd6 h1
  obtain ⟨k, hi, hk⟩ := zcJ h3
  rw [hf] at hi
  refine ⟨.cons hi hk (fun A Q Ev v s hh => wpAny_assign_Name hh) q1, congrArg (· + 1) q2, ?_, congrArg (· + 1) q4, q5⟩
  show List.findIdx? _ ((false, assign (.Name x p) env) :: assignEach ts env) = none
  rw [List.findIdx?_cons, q3]; rfl
set_option backward.match.sparseCases true in
theorem zcD {cx : Cx} (hf : cx.fn = names) : ∀ {ts : List PySem.Expr} {l : List Nat}, zb3 cx ts = some l -> ∀ {line : Nat} {ns : List Str}, (ts.filterMap fun t => match t with | .Name id pos => if env.kindOf id == some .local && pos.line == line then some id else none | _ => none) = ns -> ns.length = ts.length -> StoL S env names l (ns.map fun n => bindName env n)
 | [], l, h => by obtain rfl := Option.some.inj h; intro e _; subst e; exact .nil
 | t :: ts, l, h => by
   refine bd_e h fun i h1 h => bd_e h fun l' h2 h => ?_
   obtain rfl := Option.some.inj h
   obtain ⟨x, p, rfl, h3⟩ := zd6 h1
   obtain ⟨k, hi, hk⟩ := zcJ h3
   rw [hf] at hi
   intro e hl
   obtain ⟨ms, rfl, e, hl⟩ := zlQ e hl rfl
   exact .cons hi hk (fun A Q Ev v s hh => wpAny_bindName hh) (zcD hf h2 e hl)
end
set_option backward.match.sparseCases true
section
variable {S : Sta} {G : zab} {nd : Nat} {names : Names} {lam : Bool}
theorem zdv {ts es : List PySem.Expr} {k k' : Nat} {tp ep : Pos} {env : Env} (hc : es.all (constantsAlone 8) = false) :
  swappedStores [.Tuple ts k tp] (.Tuple es k' ep) env = pure none \/ ∃ line ns, swappedStores [.Tuple ts k tp] (.Tuple es k' ep) env = pure (some ns) /\ (ts.filterMap fun t => match t with | .Name id pos => if env.kindOf id == some .local && pos.line == line then some id else none | _ => none) = ns /\ ns.length = ts.length := by
 unfold swappedStores
 dsimp only
 split
 ·exact .inl rfl
 ·split
  ·exact .inl rfl
  ·split
   ·exact .inl rfl
   ·rename_i hl
    simp only [Bool.or_eq_true, bne_iff_ne, ne_eq, not_or, Decidable.not_not] at hl
    split
    ·exact .inl rfl
    ·rw [if_neg (by rw [hc]; decide)]
     exact .inr ⟨_, _, rfl, rfl, hl.1⟩
theorem zmB {ts es : List PySem.Expr} {k k' : Nat} {tp ep pos : Pos} {l : List Nat} {xs : List X} (hs : zb3 (S.at names none lam) ts = some l) (hl : l.length = es.length) (hn : l.Nodup) (h8 : es.length <= 8) (hc : es.all (constantsAlone 8) = false) (hx : zb0 S G nd false (S.at names none lam) es xs) :
  SndS S G nd false names lam (.Assign [.Tuple ts k tp] (.Tuple es k' ep) pos) (.asgs l xs) := by
 intro A env outer L Y m σ g s K E a nf I V h
 replace h := zjM h
 have hv : ∀ {P : Value -> Shared -> Prop}, (∀ t vs ds σ1 g1 s1, (need (asgN l ds m) fun m' => K .next m' σ1) -> Ext No g g1 s.heap s1.heap -> Inv S (env :: outer) g1 σ1 s1.heap -> VRs S s1.heap g1 vs ds -> VarsOk S Y s1.heap g1 env names m -> Rest s s1 -> IsTup s1.heap t vs.toArray -> P (.ref t) s1) ->
   wpAny S.M A (eval (.Tuple es k' ep) env) P (Er S (env :: outer) Y false g s E) s := by
  intro P hP
  rw [arm_eval_Tuple]
  refine wpAny_bind (wpAny_standAt (wpAny_bind (wpAny_mono (hx A env env outer L Y m [] σ g s _ E ep a I (V.rd nf) h) (fun vs s1 ⟨ds, σ1, g1, h1, e1, i1, r1, z1⟩ => ?_) fun _ _ q => q.no)))
  have hlen : vs.length <= sizeLine := by
   obtain ⟨m', hm, _⟩ := zag h1
   have := (zbZ hm).1
   rw [r1.length, ← this, hl, sizeLine_eq]; omega
  refine wpAny_newTuple ?_ hlen
  obtain ⟨I2, E2⟩ := i1.keeps (h' := s1.heap.push { cls := .type "tuple", data := .seq vs.toArray }) (fun b o q => Heap.get?_push_of_some _ q)
  exact hP _ vs ds σ1 g1 { s1 with heap := s1.heap.push { cls := .type "tuple", data := .seq vs.toArray } } h1 (e1.trans E2) I2 (r1.mono E2.up) ((V.mono e1).mono E2) ⟨z1.1, z1.2.1, z1.2.2⟩ ⟨_, Heap.get?_push_size _ rfl, rfl, _, rfl⟩
 obtain ⟨sl, q2, q3, q4, q5⟩ := zcE (S := S) (names := names) (env := env) rfl hs
 have done : ∀ {σ1 g1 m'} {s1 : Shared} {acts : List (Value -> Sem Unit)} {l' : List Nat} {vs' : List Value} {ds' : List Mine.Lake.V}, StoL S env names l' acts -> asgN l' ds' m = some m' -> VRs S s1.heap g1 vs' ds' -> K .next m' σ1 -> Ext No g g1 s.heap s1.heap -> Inv S (env :: outer) g1 σ1 s1.heap -> VarsOk S Y s1.heap g1 env names m -> Rest s s1 ->
   wpAny S.M A (assignInOrder acts vs') (fun _ s' => OkS S env outer Y names g s K .next s') (Er S (env :: outer) Y false g s E) s1 := by
  intro σ1 g1 m' s1 acts l' vs' ds' sl hm r k e1 i1 v1 z1
  exact zgM a.kf sl hm r v1 i1 fun s' I' E' V' z' => ⟨.next, m', σ1, g1, k, e1.no.trans E', I', V', trivial, z1.trans z'⟩
 have hlen : ∀ {vs : List Value} {ds : List Mine.Lake.V} {h : Heap} {g1 : Gh} {m'}, VRs S h g1 vs ds -> asgN l ds m = some m' -> vs.length = ts.length := fun r hm => by rw [r.length, ← (zbZ hm).1, q4]
 rcases zdv (env := env) (ts := ts) (k := k) (k' := k') (tp := tp) (ep := ep) hc with hw | ⟨line, ns, hw, hf, hnl⟩
 ·refine Assign_Tuple (hv fun t vs ds σ1 g1 s1 h1 e1 i1 r1 v1 z1 ht => ?_) rfl hw
  obtain ⟨m', hm, hk⟩ := zag h1
  refine assign_Tuple_tuple (a.hn rfl) ht (by rw [q2]; simp [hlen r1 hm]) q3 fun h' eb => ?_
  obtain ⟨I2, E2⟩ := i1.keeps (zbP eb)
  have r2 := r1.mono E2.up
  exact done (s1 := { s1 with heap := h' }) sl hm (by simpa using r2) hk (e1.trans E2) I2 (v1.mono E2) ⟨z1.1, z1.2.1, z1.2.2⟩
 ·have sl2 := zcD (S := S) (names := names) (env := env) rfl hs hf hnl
  refine Assign_Tuple_swapped (hv fun t vs ds σ1 g1 s1 h1 e1 i1 r1 v1 z1 ht => ?_) rfl hw
  obtain ⟨m', hm, hk⟩ := zag h1
  have e2 : ns.length = vs.toArray.size := by rw [hnl]; simp [hlen r1 hm]
  rw [e2]
  refine unpackItems_tuple (a.hn rfl) ht fun h' eb => ?_
  obtain ⟨I2, E2⟩ := i1.keeps (zbP eb)
  have r2 := r1.mono E2.up
  have hd := (zbZ hm).1
  have := done (s1 := { s1 with heap := h' }) (vs' := vs.reverse) sl2.reverse (by rw [zjS hn hd]; exact hm) r2.reverse hk (e1.trans E2) I2 (v1.mono E2) ⟨z1.1, z1.2.1, z1.2.2⟩
  rw [← List.map_reverse] at this
  simpa using this
theorem zof {ts : List PySem.Expr} {e : PySem.Expr} {k : Nat} {tp pos : Pos} {l : List Nat} {x : X} (he : zaX e ≠ 2) (hc : zaX e ≠ 1) (hs : zb3 (S.at names none lam) ts = some l) (hx : SndX S G nd false (S.at names none lam) e x) :
  SndS S G nd false names lam (.Assign [.Tuple ts k tp] e pos) (.unp l x) := by
 intro A env outer L Y m σ g s K E a nf I V h
 replace h := zjL h
 obtain ⟨sl, q2, q3, q4, q5⟩ := zcE (S := S) (names := names) (env := env) rfl hs
 have hsw : swapsWithSole [.Tuple ts k tp] e pos.line env = pure false := by
  exact (zbk hc : swapsWith e (some (.Tuple ts k tp)) pos.line env = pure false)
 have hw : swappedStores [.Tuple ts k tp] e env = pure none := by
  cases e <;> first | rfl | exact absurd rfl he
 refine Assign_Tuple (stX hx a nf I V h fun v d σ1 g1 s1 h1 e1 i1 r1 v1 z1 => ?_) hsw hw
 obtain ⟨pd, hp, h1⟩ := zag h1
 obtain ⟨ds, hds, h1⟩ := zag h1
 obtain ⟨m', hm, hk⟩ := zag h1
 have hl := (zbZ hm).1
 have pds : ∀ {h : Heap} {vs : List Value} {l : List PyData}, PVs S.w.params h g1.κ vs l -> VRs S h g1 vs (l.map .pd) := by
  intro h vs l p
  induction l generalizing vs with
  | nil => cases p; exact .nil
  | cons d r ih => cases p with | cons a p => exact .cons (.pd a) (ih p)
 have fin : ∀ {vs : Array Value} {h' : Heap}, PVs S.w.params s1.heap g1.κ vs.toList ds -> Heap.ExtBut s1.heap.objs.size s1.heap h' -> wpAny S.M A (assignInOrder ((assignEach ts env).map (·.2)) vs.toList) (fun _ s' => OkS S env outer Y names g s K .next s') (Er S (env :: outer) Y false g s E) { s1 with heap := h' } := by
  intro vs h' p eb
  obtain ⟨I2, E2⟩ := i1.keeps (zbP eb)
  exact zgM a.kf sl hm (pds (p.mono E2.up.fz)) (v1.mono E2) I2 fun s' I' E' V' z' => ⟨.next, m', σ1, g1, hk, (e1.trans E2).no.trans E', I', V', trivial, z1.trans ⟨z'.1, z'.2.1, z'.2.2⟩⟩
 rw [arm_assign_Tuple]
 refine wpAny_bind (wpAny_standAt ?_)
 unfold unpack
 refine zaG hds (fun hd => ?_) fun hd => ?_
 ·obtain ⟨t, vs, rfl, ht, p⟩ := r1.isList i1 (zbI hd ▸ hp)
  have hlen : (assignEach ts env).length = vs.size := by rw [q2, ← q4, hl, List.length_map]; exact p.length.symm
  rw [hlen, q3]
  exact wpAny_bind (wpAny_holding (kun_itemsOf (a.hn rfl) ht fun h' eb => fin p eb))
 ·obtain ⟨t, vs, rfl, ht, p⟩ := r1.isTup (zdd hd ▸ hp)
  have hlen : (assignEach ts env).length = vs.size := by rw [q2, ← q4, hl, List.length_map]; exact p.length.symm
  rw [hlen, q3]
  exact wpAny_bind (wpAny_holding (unpackItems_tuple (a.hn rfl) ht fun h' eb => fin p eb))
theorem s_ex {e : PySem.Expr} {pos : Pos} {x : X} {hd : Bool} (he : zaX e ≠ 1) (hx : SndX S G nd hd (S.at names none lam) e x) : SndS S G nd hd names lam (.Expr e pos) (.ex x) := by
 intro A env outer L Y m σ g s K E a nf I V h
 replace h := zjJ h
 rw [PySem.exec_Expr env _ _ (by unfold interactive; rw [a.kf]; rfl) (zbk he)]
 refine wpAny_bind (wpAny_standAt (wpAny_bind (stX hx a nf I V h fun v d σ1 g1 s1 h1 e1 i1 r1 v1 z1 => ?_)))
 exact wpAny_dropValue ⟨.next, m, σ1, g1, h1, e1.no, i1, v1, trivial, z1⟩
end
section
variable {S : Sta} {h h' : Heap} {g g' : Gh}
theorem zj2 {k a : Str} {u v : V} {r : List (Str × V)} : setS k v ((a, u) :: r) = match sb a k with | true => (a, v) :: r | false => (a, u) :: setS k v r := rfl
theorem zgi {vs : List (Str × Value)} {xs : List (Str × V)} {k : Str} {v : Value} {x : V} (r : RKv S h g vs xs) (rv : VR S h g v x) (hn : (xs.map (·.1)).Nodup) : RKv S h g (stored vs k v) (setS k x xs) /\ ((setS k x xs).map (·.1)).Nodup := by
 have same : ∀ {vs : List (Str × Value)} {xs : List (Str × V)}, RKv S h g vs xs -> k ∉ xs.map (·.1) -> vs.map (fun kv => if kv.1 = k then (kv.1, v) else kv) = vs := by
  intro vs xs r
  induction r with
  | nil => intro _; rfl
  | cons a _ ih =>
   intro hk
   rw [List.map_cons, List.mem_cons, not_or] at hk
   rw [List.map_cons, ih hk.2, if_neg (fun q => hk.1 q.symm)]
 have keys : ∀ {xs : List (Str × V)} {y : Str}, y ∈ (setS k x xs).map (·.1) -> y = k \/ y ∈ xs.map (·.1) := by
  intro xs
  induction xs with
  | nil => intro y hy; exact .inl (List.mem_singleton.mp hy)
  | cons p r ih =>
   obtain ⟨a, u⟩ := p
   intro y hy
   rw [zj2] at hy
   cases q : sb a k with
   | true => rw [q] at hy; exact .inr hy
   | false =>
    rw [q, List.map_cons, List.mem_cons] at hy
    rw [List.map_cons, List.mem_cons]
    rcases hy with hy | hy
    ·exact .inr (.inl hy)
    ·exact (ih hy).imp id .inr
 induction r with
 | nil => exact ⟨.cons rv .nil, List.nodup_cons.mpr ⟨fun h => (nomatch h), List.nodup_nil⟩⟩
 | @cons k' v' x' vs xs a r ih =>
  rw [List.map_cons, List.nodup_cons] at hn
  obtain ⟨i1, i2⟩ := ih hn.2
  rw [zj2]
  by_cases q : k' = k
  ·subst q
   have hs : sb k' k' = true := by simp [sb]
   rw [hs]
   refine ⟨?_, by rw [List.map_cons, List.nodup_cons]; exact hn⟩
   unfold stored
   rw [if_pos (by simp), List.map_cons, if_pos rfl, same r hn.1]
   exact .cons rv r
  ·have hs : sb k' k = false := by
    cases z : sb k' k with
    | false => rfl
    | true =>
     refine absurd ?_ q
     exact beq_iff_eq.mp ((str_beq k' k).symm.trans z)
   rw [hs]
   refine ⟨?_, ?_⟩
   ·have : stored ((k', v') :: vs) k v = (k', v') :: stored vs k v := by
     unfold stored
     simp only [List.any_cons, List.map_cons, q, decide_false, Bool.false_or, if_false]
     split <;> simp
    rw [this]
    exact .cons a i1
   ·rw [List.map_cons, List.nodup_cons]
    refine ⟨fun hm => ?_, i2⟩
    rcases keys hm with e | e
    ·exact q e
    ·exact hn.1 e
end
section
variable {S : Sta} {G : zab} {nd : Nat} {names : Names} {lam : Bool} {hd : Bool}
theorem zi1 {fr : List Env} {A : Around} {g : Gh} {σ : Hp} {s : Shared} {o kv v : Value} {Ev : Value -> Shared -> Prop} {Q : Unit -> Shared -> Prop} {j : Nat} {l : List PyData} {i : Int} {d : PyData} (I : Inv S fr g σ s.heap) (m : MuList S g s.heap o j l) (rk : VR S s.heap g kv (.pd (.int i))) (rv : VR S s.heap g v (.pd d))
  (hz : i < 0 /\ -(l.length : Int) <= i /\ l.length <= sizeLine) (hQ : ∀ s', Inv S fr g (σ.set j (.list (l.set (i + l.length).toNat d))) s'.heap -> Ext No g g s.heap s'.heap -> Rest s s' -> Q () s') : wpAny S.M A (setItem o kv v) Q Ev s := by
 obtain ⟨ws, n, hi, e, e1, p, hl⟩ := m
 obtain ⟨t, rfl⟩ := zbD rk
 rw [e]
 have hs := szl hz.2.2
 refine ki_setBack e1 hz.1 (by rw [hl]; exact hz.2.1) (by omega) ?_
 obtain ⟨n', he⟩ := zkf (f := fun xs => xs.setIfInBounds (i + ws.size).toNat v) e1
 obtain ⟨I2, E2⟩ := I.upMu (o := .list (l.set (i + l.length).toNat d)) hi (fun b o q e => ((Heap.SameBut.update ..).2 b q).trans e) ⟨_, he⟩ fun u => .list (vs := (ws.setIfInBounds (i + ws.size).toNat v).toList) he (by
  rw [Array.toList_setIfInBounds, ← hl]
  exact ((p.mono u.fz).set _ ((zbN rv).mono u.fz)))
 exact hQ _ I2 E2 ⟨rfl, rfl, rfl⟩
theorem ziX (ok : StaOk S) {fr : List Env} {A : Around} {g : Gh} {σ σ' : Hp} {s : Shared} {o kv v : Value} {xo xk xv : V} {Ev : Value -> Shared -> Prop} {Q : Unit -> Shared -> Prop} (I : Inv S fr g σ s.heap) (ro : VR S s.heap g o xo) (rk : VR S s.heap g kv xk) (rv : VR S s.heap g v xv) (h : zdR σ xo xk xv = some σ')
  (hQ : ∀ s', Inv S fr g σ' s'.heap -> Ext No g g s.heap s'.heap -> Rest s s' -> Q () s') : wpAny S.M A (setItem o kv v) Q Ev s := by
 refine zaG h (fun h => bd_e h fun y hy h => bd_e h fun p hp h => gd_e h fun hz h => ?_) fun h => bd_e h fun i hi h => bd_e h fun p hp h => bd_e h fun d hd h => gd_e h fun hz h => zi1 I (ro.muList I hp) (zbF hi ▸ rk) (zbm hd ▸ rv) hz (h ▸ hQ)
 subst h
 obtain ⟨q, e⟩ := zdo hp
 obtain ⟨a, es, n, rfl, ea, hi, e1, e2, e3⟩ := (q ▸ ro).refDict ok I e
 obtain ⟨t, rfl⟩ := zfq (zch hy ▸ rk)
 obtain ⟨vs, k1, k2, k3⟩ := zj0 e2
 have hd : s.heap.DictOf (zb4 S) a vs := ⟨_, _, _, e1, ⟨rfl, rfl, rfl⟩, rfl, fun e he => zds e2 e (Array.mem_toList_iff.mpr he), k2, by rw [k1.keys]; exact k3⟩
 have hlen : vs.length = p.2.length := by have := congrArg List.length k1.keys; simpa using this
 refine wpAny_setItem_pairs (knd := zb4 S) (k := y) (beq_self_eq_true y) hd (fun h' hd' sb => ?_) (by rw [hlen]; exact hz)
 obtain ⟨⟨oc, od, odt, osl⟩, es', ep, q1, ⟨q2, q3, q4⟩, q5, q6, q7, q8⟩ := hd'
 simp only at q2 q3 q4 q5
 subst q2 q3 q4 q5 ea
 obtain ⟨I2, E2⟩ := I.upMu (h' := h') (o := .dict (setS y xv p.2)) hi (fun b o q e => (sb.2 b q).trans e) ⟨_, q1⟩ fun u => by
  obtain ⟨s1, s2⟩ := zgi (k := y) (k1.mono u) (rv.mono u) k3
  exact .dict (es := es'.toList) q1 (zkg s1 (fun e he => q6 e (Array.mem_toList_iff.mp he)) q7 s2)
 exact hQ _ I2 E2 ⟨rfl, rfl, rfl⟩
theorem zmy (ok : StaOk S) {o k e : PySem.Expr} {p pos : Pos} {xo xk xe : X} (hc : zaX e ≠ 1) (ho : SndX S G nd hd (S.at names none lam) o xo) (hk : SndX S G nd hd (S.at names none lam) k xk) (he : SndX S G nd hd (S.at names none lam) e xe) :
  SndS S G nd hd names lam (.Assign [.Subscript o k p] e pos) (.seti xo xk xe) := by
 intro A env outer L Y m σ g s K E a nf I V h
 replace h := zjK h
 have hw : swapsWith e (some (.Subscript o k p)) pos.line env = pure false := zbk hc
 refine wpAny_Assign_Subscript (stX he a nf I V h fun v d σ1 g1 s1 h1 e1 i1 r1 v1 z1 => ?_) hw
 refine stS e1.no z1 (stX ho a nf i1 v1 h1 fun vo xo' σ2 g2 s2 h2 e2 i2 r2 v2 z2 => ?_)
 refine stS (e1.trans e2).no (z1.trans z2) (stX hk a nf i2 v2 h2 fun vk xk' σ3 g3 s3 h3 e3 i3 r3 v3 z3 => ?_)
 obtain ⟨σ4, h4, h3⟩ := zag h3
 refine ziX ok i3 (r2.mono e3.up) r3 ((r1.mono e2.up).mono e3.up) h4 fun s4 i4 e4 z4 => ?_
 exact ⟨.next, m, σ4, g3, h3, (((e1.trans e2).trans e3).trans e4).no, i4, v3.mono e4, trivial, ((z1.trans z2).trans z3).trans z4⟩
end
section
variable {S : Sta} {G : zab} {nd : Nat} {names : Names} {lam : Bool} {hd : Bool} {A : Around} {env : Env} {outer : List Env} {L : Addr} {Y : Addr -> Prop} {m : Fm} {σ : Hp} {g g1 : Gh} {s s1 s' : Shared} {E : KE}
theorem zh3 {cx : Cx} {e : Value} (a : Act S cx A env env outer L nd hd) (er : Er S (env :: outer) Y false g s E e s') : notedBy S.M A env (fun e s' => cameBackBy S.M A env (Er S (env :: outer) Y false g s E) e s') e s' := by
 obtain ⟨exc, σ', g', ea, tr, rfl, _, hE, x1, I1, ex, z1⟩ := er
 unfold notedBy
 refine zbw a.frames a.fL a.fL I1 ex fun g2 h2 I2 x2 ex2 => ?_
 unfold cameBackBy
 have x₀ := ex2
 obtain ⟨kd, oe, vs, dx, mp, h1, h2', h3, h4, h5, h6, h7, ⟨v1, h8, h9⟩, h10, h11⟩ := ex2
 rcases h11 with ⟨q, _⟩ | ⟨hx, T, oT, ts, q1, q2, q3, q4, q5, q6⟩
 ·cases q
 ·refine wpAny_bind (wpAny_field h1 h4 q1 ?_)
  rw [if_neg (show ¬ ((Value.ref T == Value.none) = true) from by simp)]
  refine zaq (S := S) (g := g2) (σ := σ') (s := { s' with heap := h2 }) I2 x₀ fun h3 I3 x3 ex3 => ?_
  exact ⟨exc, σ', g2, ea, true, rfl, nofun, hE, (x1.trans x2.no).trans x3.no, I3, ex3, z1.trans ⟨rfl, rfl, rfl⟩⟩
structure FSt (S : Sta) (env : Env) (outer : List Env) (Y : Addr -> Prop) (names : Names) (g1 : Gh) (s1 : Shared) (it : Addr) (v : Value) (x : V) (k : Nat) (g : Gh) (σ : Hp) (m : Fm) (s : Shared) : Prop where
 e : Ext Y g1 g s1.heap s.heap
 i : Inv S (env :: outer) g σ s.heap
 V : VarsOk S Y s.heap g env names m
 z : Rest s1 s
 ko : g.κ it = .ot
 it : ItAt s.heap it v x k
theorem zlP {it : Addr} {v : Value} {x : V} {k : Nat} {cx : Cx} (a : Act S cx A env env outer L nd false) (nm : env.scope.names = names) : Sto S A g names env (FSt S env outer Y names g1 s1 it v x k g σ) := by
 refine ⟨a.hn rfl, fun y i w d m s Q Ev hi hlt p r hQ => ?_, fun m s h' p eb => ?_⟩
 ·refine store a.kf p.V p.i hi (.inl rfl) (.v (.pd r)) fun h' tk I' E' V' same => ?_
  exact hQ _ ⟨p.e.trans E', I', V', ⟨p.z.1, p.z.2.1, p.z.2.2⟩, p.ko, p.it.at fun o e => (same _ p.ko).trans e⟩ E'.fz
 ·obtain ⟨I2, E2⟩ := p.i.keeps (zbP eb)
  exact ⟨p.e.trans E2.no, I2, p.V.mono E2, ⟨p.z.1, p.z.2.1, p.z.2.2⟩, p.ko, p.it.at fun o e => zbP eb _ o e⟩
inductive FLI (S : Sta) (env : Env) (outer : List Env) (Y : Addr -> Prop) (names : Names) (g1 : Gh) (s1 : Shared) (it : Addr) (v : Value) (x : V) (l : List PyData) (F : List PyData -> Fm -> Hp -> Prop) (n : Nat) (s : Shared) : Prop
 | mk (k : Nat) (g : Gh) (σ : Hp) (m : Fm) (hn : n = l.length + 1 - k) (hk : k <= l.length) (p : FSt S env outer Y names g1 s1 it v x k g σ m s) (hl : zaj σ x = some l) (h : F (l.drop k) m σ)
theorem less {k n : Nat} (h : k < n) : n + 1 - (k + 1) < n + 1 - k := Nat.sub_lt_sub_left (Nat.lt_succ_of_lt h) (Nat.lt_succ_self _)
theorem zoi {te iter : PySem.Expr} {b : List Stmt} {pos : Pos} {t : Tg} {xi : X} {xb : List Mine.Lake.S} (hf : ∀ ev w, foldedSetIterable iter ev w = pure w) (htg : TgOk S names te t) (hi : SndX S G nd false (S.at names none lam) iter xi) (hb : zc4 S G nd false names lam b xb) :
  SndS S G nd false names lam (.For te iter b [] pos) (.for t xi xb) := by
 intro A env outer L Y m σ g s K E a nf I V h
 replace h := zjH h
 rw [arm_exec_For]
 refine wpAny_bind (wpAny_standAt (wpAny_bind (stX hi a nf I V h fun v x σ1 g1 s1 h1 e1 i1 r1 v1 z1 => ?_)))
 rw [hf]
 refine wpAny_bind (wpAny_pure (wpAny_bind (wpAny_standAt (wpAny_bind (wpAny_holding ?_)))))
 refine zal h1 fun l hl h1 => zdl i1 r1 hl fun oi hit => ?_
 obtain ⟨I2, E2⟩ := i1.keeps (h' := s1.heap.push oi) fun b o q => Heap.get?_push_of_some _ q
 have nI : s1.heap.get? s1.heap.objs.size = none := Heap.get?_none_of_le (Nat.le_refl _)
 generalize s1.heap.objs.size = it at hit nI ⊢
 have ny : ¬ Y it := fun ya => by obtain ⟨o, e, _⟩ := v1.yH _ ya; rw [nI] at e; cases e
 refine wpAny_runOwn (codeAny_forLoop_any (FLI S env outer Y names g1 s1 it v x l (forN (fun d m' σ' k => need (tgFm m' t d) fun m'' => evSs G S.gc xb m'' σ' k E) (fun σ' k => still σ1 σ' x k) K)) (fun n s2 hI => ?_) _
  ⟨0, g1, σ1, m, rfl, Nat.zero_le _, ⟨E2.no, I2, v1.mono E2, ⟨rfl, rfl, rfl⟩, i1.ot _ nI, hit⟩, hl, h1⟩)
 obtain ⟨k, g2, σ2, m2, hn, hk, ⟨e2, i2, v2, z2, kI, hit2⟩, hl2, hF⟩ := hI
 refine zel (a.hn rfl) i2 (r1.mono e2.up) hl2 hit2 hk (fun w d h' tk e p sb i => ?_) (fun h' e eb => ?_)
 ·rw [zil e] at hF
  refine zal hF fun m3 hm3 hF => ?_
  obtain ⟨e3, i3⟩ := zaM e2 i2 nI kI sb.extBut
  refine zj7 i (htg (zlP a v2.nm) w d m2 m3 _ _ _ hm3 ⟨e3, i3, v2.but kI sb.extBut ny, ⟨z2.1, z2.2.1, z2.2.2⟩, kI, i⟩ (p.mono (zcj i2 kI sb.extBut).fz) fun s4 p4 fz => ?_)
  obtain ⟨e4, i4, v4, z4, k4, hit4⟩ := p4
  refine wpAny_mono (hb A env outer L Y m3 σ2 g2 s4 _ E a nf i4 v4 hF) (fun fl s5 hr => ?_) fun _ _ q => zh3 a (q.trans (e1.no.trans e4) (z1.trans z4))
  obtain ⟨f, m5, σ5, g5, h5, e5, i5, v5, r5, z5⟩ := hr
  have EE := e4.trans e5
  have ZZ := z4.trans z5
  obtain ⟨oi', _, _, hoi, _, _, _⟩ := hit4.has
  have kI5 : g5.κ it = .ot := (e5.kind _ _ hoi).trans k4
  have hit5 : ItAt s5.heap it v x (k + 1) := hit4.at fun o e => e5.keep _ o e ny (by rw [k4]; decide) (by rw [k4]; decide) (by rw [k4]; decide) (by rw [k4]; decide)
  have hlt : k < l.length := (List.getElem?_eq_some_iff.mp e).1
  cases fl <;> cases f <;> first
   | exact r5.elim
   | exact ⟨_, hn ▸ less hlt, k + 1, g5, σ5, m5, rfl, hlt, ⟨EE, i5, v5, ZZ, kI5, hit5⟩, (zaN h5).1.trans hl, (zaN h5).2⟩
   | exact ⟨_, m5, σ5, g5, h5, e1.no.trans EE, i5, v5, r5, z1.trans ZZ⟩
 ·subst e
  rw [List.drop_length] at hF
  obtain ⟨e3, i3⟩ := zaM e2 i2 nI kI eb
  exact wpAny_execs_nil ⟨.next, m2, σ2, g2, hF, e1.no.trans e3, i3, v2.but kI eb ny, trivial, z1.trans ⟨z2.1, z2.2.1, z2.2.2⟩⟩
inductive WLI (S : Sta) (env : Env) (outer : List Env) (Y : Addr -> Prop) (names : Names) (g : Gh) (s : Shared) (W : Nat -> Fm -> Hp -> Prop) (n : Nat) (s' : Shared) : Prop
 | mk (m : Fm) (σ : Hp) (g' : Gh) (h : W n m σ) (e : Ext Y g g' s.heap s'.heap) (i : Inv S (env :: outer) g' σ s'.heap) (v : VarsOk S Y s'.heap g' env names m) (z : Rest s s')
theorem zk2 {t : PySem.Expr} {b : List Stmt} {pos : Pos} {xt : X} {xb : List Mine.Lake.S} (ht : SndT S G nd hd (S.at names none lam) t xt) (hb : zc4 S G nd hd names lam b xb) : SndS S G nd hd names lam (.While t b [] pos) (.while xt xb) := by
 intro A env outer L Y m σ g s K E a nf I V h
 replace h := zjG h
 obtain ⟨n, h⟩ := h
 refine wpAny_While (codeAny_whileLoop (WLI S env outer Y names g s (zbM (fun m' σ' k => evX G S.gc m' [] xt σ' (fun v σ'' => truth v fun r => k r σ'') E) (fun m' σ' k => evSs G S.gc xb m' σ' k E) K)) (fun n s1 hI => ?_) n ⟨m, σ, g, h, .refl _ _ _, I, V, .refl _⟩)
 obtain ⟨m1, σ1, g1, h1, e1, i1, v1, z1⟩ := hI
 cases n with
 | zero => exact h1.elim
 | succ n =>
  refine wpAny_mono (ht A env env outer L Y m1 [] σ1 g1 s1 _ E a i1 (v1.rd nf) h1) (fun r s2 hr => ?_) fun _ _ q => zh3 a (q.no.trans e1 z1)
  obtain ⟨r', σ2, g2, h2, e2, i2, rr, z2⟩ := hr
  subst rr
  have v2 := v1.mono e2
  cases r with
  | true =>
   refine wpAny_mono (hb A env outer L Y m1 σ2 g2 s2 _ E a nf i2 v2 h2) (fun fl s3 hr => ?_) fun _ _ q => zh3 a (q.trans (e1.trans e2.no) (z1.trans z2))
   obtain ⟨f, m3, σ3, g3, h3, e3, i3, v3, r3, z3⟩ := hr
   have EE := (e1.trans e2.no).trans e3
   have ZZ := (z1.trans z2).trans z3
   cases fl <;> cases f <;> first
    | exact r3.elim
    | exact ⟨n, Nat.lt_succ_self _, m3, σ3, g3, h3, EE, i3, v3, ZZ⟩
    | exact ⟨_, m3, σ3, g3, h3, EE, i3, v3, r3, ZZ⟩
  | false => exact wpAny_execs_nil ⟨.next, m1, σ2, g2, h2, e1.trans e2.no, i2, v2, trivial, z1.trans z2⟩
theorem zmA {pos : Pos} : SndS S G nd hd names lam (.Continue pos) .cont := by
 intro A env outer L Y m σ g s K E a nf I V h
 replace h := zif h
 exact wpAny_Continue ⟨.cont, m, σ, g, h, .refl _ _ _, I, V, trivial, .refl _⟩
end
inductive ExcNew (S : Sta) (fr : List Env) (g : Gh) (σ : Hp) (s : Shared) (exc : Exc) (v : Value) (s' : Shared) : Prop
 | mk (ea : Addr) (g' : Gh) (e : v = .ref ea) (x : Ext No g g' s.heap s'.heap) (i : Inv S fr g' σ s'.heap) (a : ExcAt S s'.heap g' ea exc false) (z : Rest s s')
structure ExcMk (S : Sta) (nd : Nat) : Prop where
 new : ∀ {A env outer L g σ s vs ds lim exc Ev}, CallAt A env outer L nd -> Inv S (env :: outer) g σ s.heap -> VRs S s.heap g vs ds -> zes lim ds = some exc ->
  wpAny S.M A (call (.ref (S.ec lim)) vs []) (ExcNew S (env :: outer) g σ s exc) Ev s
section
variable {M : Model} {A : Around} {Ev : Value -> Shared -> Prop} {s : Shared} {K : Frag} {C : Addr}
theorem zcr (X : K.In s.heap) (h : isClsIn K C = true) : Looks M s.heap (isType (.ref C)) true := by
 unfold isClsIn clsIn at h
 split at h
 ·rename_i ho
  exact (Looks.ld (part := some headPart) (X _ _ ho)).andThen .now
 ·cases h
theorem zbH {a : Addr} {o : Obj} {vs : Array Value} (e : s.heap.get? a = some o) (hd : o.data = .fields vs) : Looks M s.heap (isType (.ref a)) false := by
 refine (Looks.ld (part := some headPart) e).andThen ?_
 rw [hd]; exact .now
theorem zei (X : K.In s.heap) (h : isClsIn K C = true) (hm : mroIn K C (.type "BaseException") = some true) : Looks M s.heap (isExcClass (.ref C)) true := by
 unfold isExcClass
 exact (zcr X h).andThen (looks_mroIn X hm)
end
section
variable {S : Sta} {G : zab} {nd : Nat} {names : Names} {lam hd : Bool}
theorem zcX (ok : StaOk3 S) (k2 : KOk2 S) {fr : List Env} {A : Around} {g : Gh} {σ : Hp} {s : Shared} {ea : Addr} {e : Exc} {tr b : Bool} {Ev : Value -> Shared -> Prop} {Q : Bool -> Shared -> Prop} (I : Inv S fr g σ s.heap) (x : ExcAt S s.heap g ea e tr) (h : Q (b == e.lim) s) : wpAny S.M A (excMatches (.ref ea) (.ref (S.ec b))) Q Ev s := by
 have X := kIn ok.toStaOk I
 obtain ⟨oe, vs, dx, mp, h1, h2, h3, h4, _⟩ := x.obj
 unfold excMatches
 refine wpAny_bind (m := isInstance (.ref (S.ec b)) (.type "tuple")) ((looks_instIn X (k2.xTu b)).here ?_)
 rw [if_neg (by decide)]
 refine wpAny_bind (wpAny_pure ?_)
 simp only [List.forIn_cons, List.forIn_nil]
 have hty : Looks S.M s.heap (typeOf (.ref ea)) (.ref (S.ec e.lim)) := (Looks.ld (part := some headPart) h1).andThen (by rw [h2]; exact .now)
 refine wpAny_bind (wpAny_bind (wpAny_bind (m := isExcClass (.ref (S.ec b))) ((zei X (k2.xCl b) (ok.ko.xSub b)).here ?_)))
 rw [if_neg (by decide)]
 refine wpAny_pure (wpAny_pure (wpAny_bind (m := typeOf (.ref ea)) (hty.here (wpAny_bind (wpAny_bind (wpAny_bind (m := isSubtype (.ref (S.ec e.lim)) (.ref (S.ec b))) ((looks_mroIn X (k2.xEq e.lim b)).here ?_)))))))
 have hb : (e.lim == b) = (b == e.lim) := by cases e.lim <;> cases b <;> rfl
 rw [hb]
 cases hq : (b == e.lim) with
 | true => rw [hq] at h; exact wpAny_pure (wpAny_pure (wpAny_pure h))
 | false => rw [hq] at h; exact wpAny_pure (wpAny_pure (wpAny_pure h))
theorem zk3 (ok : StaOk3 S) (k2 : KOk2 S) (xm : ExcMk S nd) {x : Str} {q p pos : Pos} {es : List PySem.Expr} {xs : List X} {lim : Bool} (hx : x = Str.ofString (if lim then "LimitFault" else "EvalFault")) (hg : nmOf (S.at names none lam) x = some .g) (hs : es.all (fun e => !zak e) = true) (he : zb0 S G nd false (S.at names none lam) es xs) (hn : es = [] -> xs = []) :
  SndS S G nd false names lam (.Raise (some (.Call (.Name x q) es [] p)) none pos) (.raise lim xs) := by
 intro A env outer L Y m σ g s K E a nf I V h
 replace h := zih h
 rw [arm_exec_Raise]
 refine wpAny_bind (wpAny_standAt ?_)
 show wpAny S.M A (raiseStmt env (some (do let v ← eval (.Call (.Name x q) es [] p) env; standAt pos; pure v)) none) _ _ _
 unfold raiseStmt
 dsimp only
 have hmg : S.mg x = some (.ref (S.ec lim)) := by subst hx; cases lim; exact k2.xF; exact k2.xL
 have main : wpAny S.M A (eval (.Call (.Name x q) es [] p) env) (fun v s' => ∃ ea g' σ' exc, v = .ref ea /\ E exc σ' /\ Ext No g g' s.heap s'.heap /\ Inv S (env :: outer) g' σ' s'.heap /\ ExcAt S s'.heap g' ea exc false /\ Rest s s') (Er S (env :: outer) Y false g s E) s := by
  rw [arm_eval_Call_Name']
  refine wpAny_bind (zaF a ok.toStaOk I.stays hg hmg ?_)
  refine wpAny_mono (zaT (P := S.K.In) hs he a I (V.rd nf) (keeps_K (k2.xKp lim)) h hn fun vs ds σ1 g1 s1 h1 e1 i1 r1 z1 => ⟨kIn ok.toStaOk i1, ?_⟩) (fun _ _ x => x) fun _ _ q => q.no
  obtain ⟨exc, hexc, h1⟩ := zag h1
  refine wpAny_mono (xm.new (Ev := Er S (env :: outer) No false g s E) a.call i1 r1 hexc) (fun v s' ⟨ea, g', hv, e2, i2, x2, z2⟩ => ?_) fun _ _ x => x
  exact ⟨ea, g', σ1, exc, hv, h1, e1.trans e2, i2, x2, z1.trans z2⟩
 refine wpAny_bind (wpAny_bind (wpAny_mono main (fun v s1 hv => ?_) fun _ _ q => q))
 obtain ⟨ea, g1, σ1, exc, hv, hE, e1, i1, x1, z1⟩ := hv
 subst hv
 refine wpAny_bind (wpAny_standAt (wpAny_pure (wpAny_bind (wpAny_pure ?_))))
 have X := kIn ok.toStaOk i1
 have x₀ := x1
 obtain ⟨oe, vs, dx, mp, h1, h2, h3, h4, h5, h6, h7, h8, h9, h10⟩ := x1.obj
 have hty : Looks S.M s1.heap (typeOf (.ref ea)) (.ref (S.ec exc.lim)) := (Looks.ld (part := some headPart) h1).andThen (by rw [h2]; exact .now)
 have hnt : Looks S.M s1.heap (isType (.ref ea)) false := zbH h1 h4
 have hexc : Looks S.M s1.heap (isExcClass (.ref ea)) false := by
  unfold isExcClass
  exact hnt.andThen .now
 have hinst : Looks S.M s1.heap (isInstance (.ref ea) (.type "BaseException")) true := hty.andThen (looks_mroIn X (ok.ko.xSub exc.lim))
 refine wpAny_bind (wpAny_holding ?_)
 unfold excFromValue
 refine wpAny_bind (hexc.here ?_)
 rw [if_neg (by decide)]
 refine wpAny_bind (hinst.here ?_)
 rw [if_pos rfl]
 refine wpAny_pure (wpAny_bind (m := isType (.ref ea)) (hnt.here ?_))
 rw [if_neg (by decide)]
 unfold raisedInstance
 refine wpAny_bind (wpAny_bind (m := typeOf (.ref ea)) (hty.here (wpAny_bind ((looks_typeIn X (k2.xTy exc.lim)).here ?_))))
 rw [if_pos (by decide)]
 refine wpAny_pure (wpAny_bind (zaq (S := S) i1 x₀ fun h' I' E' X' => ?_))
 unfold raiseNew
 refine wpAny_bind (wpAny_handled ?_)
 rw [a.hn rfl]
 exact wpAny_bind (wpAny_pure (wpAny_throw ⟨exc, σ1, g1, ea, false, rfl, nofun, hE, (e1.trans E').no, I', X', z1.trans ⟨rfl, rfl, rfl⟩⟩))
end
section
variable {S : Sta} {G : zab} {nd : Nat} {names : Names} {lam hd : Bool}
noncomputable def SndE (S : Sta) (G : zab) (nd : Nat) (names : Names) (lam : Bool) (st : Stmt) (x : Mine.Lake.S) : Prop :=
 ∀ A env outer L Y m σ g s K E, Act S (S.at names none lam) A env env outer L nd false -> zc5 names -> Inv S (env :: outer) g σ s.heap -> VarsOk S Y s.heap g env names m -> evS G S.gc x m σ K E ->
  wpAny S.M A (exec st env) (OkS S env outer Y names g s K) (Er S (env :: outer) No false g s E) s
theorem e_ret {e : PySem.Expr} {x : X} {pos : Pos} (hx : SndX S G nd false (S.at names none lam) e x) : SndE S G nd names lam (.Return (some e) pos) (.ret x) := by
 intro A env outer L Y m σ g s K E a nf I V h
 replace h := zfW h
 rw [arm_exec_Return]
 refine wpAny_bind (wpAny_standAt ?_)
 show wpAny S.M A (do return Flow.ret (← eval e env)) _ _ _
 exact wpAny_bind (wpAny_mono (hx A env env outer L Y m [] σ g s _ E a I (V.rd nf) h) (fun v s1 ⟨d, σ1, g1, h1, e1, i1, r1, z1⟩ => wpAny_pure ⟨.ret d, m, σ1, g1, h1, e1.no, i1, V.mono e1, r1, z1⟩) fun _ _ q => q)
theorem e_asg {x : Str} {q pos : Pos} {e : PySem.Expr} {xe : X} {i : Nat} (he : zaX e ≠ 1) (hs : zbE (S.at names none lam) (.Name x q) = some i) (hx : SndX S G nd false (S.at names none lam) e xe) : SndE S G nd names lam (.Assign [.Name x q] e pos) (.asg i xe) := by
 intro A env outer L Y m σ g s K E a nf I V h
 replace h := zdT h
 obtain ⟨k, hi, hk⟩ := zcI hs
 rw [arm_exec_Assign]
 refine wpAny_bind (wpAny_standAt ?_)
 show wpAny S.M A (swapsWith e (some (.Name x q)) pos.line env >>= _) _ _ _
 rw [zbk he]
 refine wpAny_bind (wpAny_pure ?_)
 rw [if_neg (by decide)]
 refine wpAny_bind (wpAny_mono (hx A env env outer L Y m [] σ g s _ E a I (V.rd nf) h) (fun v s1 ⟨d, σ1, g1, h1, e1, i1, r1, z1⟩ => ?_) fun _ _ q => q)
 refine wpAny_bind (m := swappedStores [.Name x q] e env) (wpAny_pure ?_)
 show wpAny S.M A (do assignAll v [assign (.Name x q) env]; pure Flow.next) _ _ _
 refine wpAny_bind (m := assign (.Name x q) env v) (wpAny_assign_Name (store a.kf (V.mono e1) i1 hi hk (.v r1) fun h' tk I' E' V' _ => wpAny_pure ⟨.next, _, σ1, g1, (zar h1).2, e1.no.trans E', I', V', trivial, ⟨z1.1, z1.2.1, z1.2.2⟩⟩))
theorem Act.mark {cx : Cx} {A : Around} {env ev : Env} {outer : List Env} {L : Addr} (a : Act S cx A env ev outer L nd hd) (h : Option Value) : Act S cx (A.mark h) env ev outer L nd true :=
 ⟨nofun, a.frames, a.fL, a.vL, a.guards, a.depth, a.units, a.kf, a.gl, a.bl, a.gn, a.lam⟩
theorem unbound {M : Model} {A : Around} {Ev : Value -> Shared -> Prop} {Y : Addr -> Prop} {env : Env} {outer : List Env} {m : Fm} {g : Gh} {σ : Hp} {s : Shared} {x : Str} {i : Nat} {l : Loc} {Q : Unit -> Shared -> Prop}
  (kf : env.scope.kind = .function) (V : VarsOk S Y s.heap g env names m) (I : Inv S (env :: outer) g σ s.heap) (hi : zah names x 0 = some (i, .local)) (hm : m[i]? = some (some l))
  (hQ : ∀ h', Inv S (env :: outer) g σ h' -> Ext Y g g s.heap h' -> VarsOk S Y h' g env names (zaw m i none) -> Q () { s with heap := h' }) : wpAny M A (unbindName env x) Q Ev s := by
 have hkind : env.kindOf x = some .local := by unfold Env.kindOf; rw [V.nm]; exact zad hi
 obtain ⟨mp, ns, lr⟩ := V.loc
 obtain ⟨v, hv, _⟩ := lr x i l hi hm
 have ilt : i < m.length := (List.getElem?_eq_some_iff.mp hm).1
 refine wpAny_unbindName_local hkind ns hv (by rw [kf]; rfl) fun h' u ns' sb => ?_
 obtain ⟨I', E'⟩ := I.own V.yL (.inl V.kL) sb (zhs ns')
 refine hQ h' I' E' ⟨by rw [zaS]; exact V.len, V.nm, V.kL, V.yL, fun a ya => let ⟨o, e, k⟩ := V.yH a ya; let ⟨o', e'⟩ := E'.still a o e; ⟨o', e', k⟩, ⟨_, ns', fun y j l' e1 e2 => ?_⟩, fun y j e => ?_, V.inj⟩
 ·by_cases z : y = x
  ·obtain rfl := z.symm
   rw [hi] at e1; cases e1
   rw [zaE ilt] at e2; cases e2
  ·have ne : i ≠ j := fun q => z (zaJ e1 (q ▸ hi))
   rw [zaL ne] at e2
   obtain ⟨u, a, b⟩ := lr y j l' e1 e2
   exact ⟨u, (if_neg z).trans a, b.mono E'⟩
 ·obtain ⟨c, c1, c2, c3, c4, ov, c5, c7⟩ := V.cel y j e
  refine ⟨c, c1, c2, c3, c4, ov, ?_, fun l' hl => ?_⟩
  ·obtain ⟨oc, a, b⟩ := c5; exact ⟨oc, (sb.2 c c3).trans a, b⟩
  ·have ne : i ≠ j := fun q => by subst q; have := zaJ e hi; subst this; rw [hi] at e; cases e
   rw [zaL ne] at hl
   obtain ⟨u, a, b⟩ := c7 l' hl
   exact ⟨u, a, b.mono E'⟩
inductive HsOk (S : Sta) (G : zab) (nd : Nat) (names : Names) (lam : Bool) : List ExceptHandler -> List (Bool × Option Nat × List Mine.Lake.S) -> Prop
 | nil : HsOk S G nd names lam [] []
 | as {lim : Bool} {x y : Str} {q pos : Pos} {i : Nat} {b : Stmt} {xb : Mine.Lake.S} {hs : List ExceptHandler} {xs : List (Bool × Option Nat × List Mine.Lake.S)} : x = Str.ofString (if lim then "LimitFault" else "EvalFault") -> nmOf (S.at names none lam) x = some .g -> zah names y 0 = some (i, .local) -> zc4 S G nd true names lam [b] [xb] -> HsOk S G nd names lam hs xs ->
   HsOk S G nd names lam (.ExceptHandler (some (.Name x q)) (some y) [b] pos :: hs) ((lim, some i, [xb]) :: xs)
 | no {lim : Bool} {x : Str} {q pos : Pos} {b : Stmt} {xb : Mine.Lake.S} {hs : List ExceptHandler} {xs : List (Bool × Option Nat × List Mine.Lake.S)} : x = Str.ofString (if lim then "LimitFault" else "EvalFault") -> nmOf (S.at names none lam) x = some .g -> zc4 S G nd true names lam [b] [xb] -> HsOk S G nd names lam hs xs ->
   HsOk S G nd names lam (.ExceptHandler (some (.Name x q)) none [b] pos :: hs) ((lim, none, [xb]) :: xs)
theorem zfS {fr : List Env} {Y : Addr -> Prop} {t : Bool} {g : Gh} {s s' : Shared} {e : Value} (h : Er S fr Y t g s (fun _ _ => False) e s') : False := by
 obtain ⟨exc, σ', g', ea, tr, _, _, f, _⟩ := h
 exact f
theorem znr {g g' : Gh} {h h' : Heap} {ea : Addr} {e : Exc} {tr : Bool} (x : ExcAt S h g ea e tr) {Y : Addr -> Prop} (ny : ¬ Y ea) : FaultAt S Y h g ea e := by
 obtain ⟨oe, vs, dx, mp, h1, h2, h3, h4, h5, h6, h7, h8, h9, h10⟩ := x.obj
 exact ⟨x.kd, ny, oe, vs, dx, mp, h1, h2, h3, h4, h6, h7, h8, h9⟩
theorem handle (ok : StaOk3 S) (k2 : KOk2 S) {hs : List ExceptHandler} {xs : List (Bool × Option Nat × List Mine.Lake.S)} (ho : HsOk S G nd names lam hs xs) : ∀ {A env outer L Y m σ g s K E ea e}, Act S (S.at names none lam) A env env outer L nd false -> zc5 names -> Inv S (env :: outer) g σ s.heap -> VarsOk S Y s.heap g env names m -> ExcAt S s.heap g ea e true -> evH G S.gc xs e m σ K E ->
  wpAny S.M A (handleBy (.ref ea) env hs) (OkS S env outer Y names g s K) (Er S (env :: outer) Y false g s E) s := by
 have mg : ∀ {lim : Bool} {x : Str}, x = Str.ofString (if lim then "LimitFault" else "EvalFault") -> S.mg x = some (.ref (S.ec lim)) := fun {lim x} hx => by subst hx; cases lim; exact k2.xF; exact k2.xL
 induction ho with
 | nil =>
  intro A env outer L Y m σ g s K E ea e a nf I V x h
  refine wpAny_handleBy_nil (zce I x fun h' I' E' x' => ?_)
  exact ⟨e, σ, g, ea, true, rfl, nofun, h, E'.no, I', x', ⟨rfl, rfl, rfl⟩⟩
 | @as lim x y q pos i b xb hs xs hx hg hi hb _ ih =>
  intro A env outer L Y m σ g s K E ea e a nf I V xa h
  have am := a.mark (some (.ref ea))
  refine wpAny_handleBy_cons (codeAny_handlers_test (zaF am ok.toStaOk I.stays hg (mg hx) (zcX ok k2 I xa ?_))) (by intro q; cases q)
  replace h := zfX h
  cases hq : (lim == e.lim) with
  | false =>
   have : lim ≠ e.lim := by simpa using hq
   rw [if_neg this] at h
   exact ih a nf I V xa h
  | true =>
   have : lim = e.lim := by simpa using hq
   rw [if_pos this] at h
   obtain ⟨hlt, h⟩ := zar h
   have ny : ¬ Y ea := fun ya => by
    obtain ⟨o, _, k⟩ := V.yH ea ya
    rw [xa.kd] at k
    rcases k with k | k <;> cases k
   refine codeAny_handlers_suite_as (zaq I xa fun h1 I1 E1 x1 => ?_)
   have V1 := V.mono E1
   refine store a.kf V1 I1 hi (.inl rfl) (.fault (znr x1 ny (g' := g) (h' := h1))) fun h2 tk I2 E2 V2 _ => ?_
   refine wpAny_mono (hb (A.mark (some (.ref ea))) env outer L Y _ σ g { s with heap := h2, toks := tk } _ _ am nf I2 V2 h) (fun fl s3 ⟨f, m3, σ3, g3, h3, e3, i3, v3, r3, z3⟩ => ?_) fun e' s' q => (zfS q).elim
   show wpAny S.M A (do bindName env y .none; unbindBehindTheSuite env y pos) _ _ s3
   refine wpAny_bind (wpAny_bindName (store a.kf v3 i3 hi (.inl rfl) (.v (.pd .none)) fun h4 tk4 I4 E4 V4 _ => ?_))
   unfold unbindBehindTheSuite
   have ilt : i < m3.length := by rw [v3.len]; exact (List.getElem?_eq_some_iff.mp (by simpa using (zbo hi).2)).1
   refine wpAny_onRaise (wpAny_mono (unbound (Ev := fun _ _ => False) a.kf V4 I4 hi (zaE ilt) (Q := fun _ s' => OkS S env outer Y names g s K fl s') fun h5 I5 E5 V5 => ?_) (fun _ _ q => q) fun _ _ q => q.elim)
   have hset : zaw (zaw m3 i (some (.v (.pd .none)))) i none = zaw m3 i none := by
    have : ∀ {α : Type} {l : List α} {i : Nat} {x y : α}, zaw (zaw l i x) i y = zaw l i y := by
     intro α l
     induction l with
     | nil => intro i x y; rfl
     | cons a r ih => intro i x y; cases i with
      | zero => rfl
      | succ i => exact congrArg (a :: ·) ih
    exact this
   rw [hset] at V5
   have EE : Ext Y g g3 s.heap h5 := (((E1.no.trans E2).trans e3).trans E4).trans E5
   refine ⟨f, _, σ3, g3, h3, EE, I5, V5, ?_, ⟨z3.1, z3.2.1, z3.2.2⟩⟩
   cases fl <;> cases f <;> first | exact r3.elim | trivial | exact (VR.mono E4.up r3).mono E5.up
 | @no lim x q pos b xb hs xs hx hg hb _ ih =>
  intro A env outer L Y m σ g s K E ea e a nf I V xa h
  have am := a.mark (some (.ref ea))
  refine wpAny_handleBy_cons (codeAny_handlers_test (zaF am ok.toStaOk I.stays hg (mg hx) (zcX ok k2 I xa ?_))) (by intro q; cases q)
  replace h := zfX h
  cases hq : (lim == e.lim) with
  | false =>
   have : lim ≠ e.lim := by simpa using hq
   rw [if_neg this] at h
   exact ih a nf I V xa h
  | true =>
   have : lim = e.lim := by simpa using hq
   rw [if_pos this] at h
   refine codeAny_handlers_suite (zaq I xa fun h1 I1 E1 x1 => ?_)
   have V1 := V.mono E1
   refine wpAny_mono (hb (A.mark (some (.ref ea))) env outer L Y m σ g { s with heap := h1 } _ _ am nf I1 V1 h) (fun fl s3 ⟨f, m3, σ3, g3, h3, e3, i3, v3, r3, z3⟩ => ?_) fun e' s' q => (zfS q).elim
   exact ⟨f, m3, σ3, g3, h3, E1.no.trans e3, i3, v3, r3, ⟨z3.1, z3.2.1, z3.2.2⟩⟩
theorem zog (ok : StaOk3 S) (k2 : KOk2 S) {b : Stmt} {xb : Mine.Lake.S} {h0 : ExceptHandler} {hs : List ExceptHandler} {xs : List (Bool × Option Nat × List Mine.Lake.S)} {pos : Pos} (hb : SndE S G nd names lam b xb) (ho : HsOk S G nd names lam (h0 :: hs) xs) :
  SndS S G nd false names lam (.Try [b] (h0 :: hs) [] [] pos) (.try [xb] xs) := by
 intro A env outer L Y m σ g s K E a nf I V h
 replace h := zez (zig h)
 rw [arm_exec_Try]
 refine wpAny_bind (wpAny_standAt (wpAny_tryStmt_except (wpAny_execs_cons (wpAny_mono (hb A env outer L Y m σ g s _ _ a nf I V h) (fun fl s1 ⟨f, m1, σ1, g1, h1, e1, i1, v1, r1, z1⟩ => ?_) fun e s1 ⟨exc, σ1, g1, ea, tr, he, _, hE, e1, i1, x1, z1⟩ => ?_))))
 ·cases fl <;> cases f <;> first
   | exact r1.elim
   | exact wpAny_execs_nil (wpAny_execs_nil ⟨.next, m1, σ1, g1, h1, e1, i1, v1, trivial, z1⟩)
   | exact ⟨_, m1, σ1, g1, h1, e1, i1, v1, r1, z1⟩
 ·subst he
  have v1 := V.mono e1
  refine zbw a.frames a.fL a.fL i1 x1 fun g2 h2 i2 e2 x2 => ?_
  refine zaq (S := S) (g := g2) (s := { s1 with heap := h2 }) i2 x2 fun h3 i3 e3 x3 => ?_
  have EE : Ext No g g2 s.heap h3 := (e1.trans e2).trans e3
  have := handle ok k2 ho (s := { s1 with heap := h3 }) a nf i3 ((v1.mono e2).mono e3) x3 hE
  exact wpAny_mono this (fun fl s4 q => OkS.trans (s1 := { s1 with heap := h3 }) EE.no z1 q) fun e s4 q => Er.trans (s1 := { s1 with heap := h3 }) EE.no z1 q
end
theorem zd0 {names : Names} {x : Str} : ∀ {n : Nat} {acc : List (Str × Addr)}, (∃ c, acc.lookup x = some c) -> ∃ c, (cellsFrom n names acc).lookup x = some c := by
 induction names with
 | nil => intro n acc h; exact h
 | cons p r ih =>
  obtain ⟨a, k⟩ := p
  intro n acc h
  unfold cellsFrom
  split
  ·refine ih ?_
   by_cases q : x = a
   ·subst q; exact ⟨n, by simp [List.lookup]⟩
   ·have : (x == a) = false := by simpa using q
    obtain ⟨c, hc⟩ := h
    exact ⟨c, by simp [List.lookup, this, hc]⟩
  ·exact ih h
theorem zbX {names : Names} {x : Str} : ∀ {n : Nat} {acc : List (Str × Addr)}, (x, NameKind.cell) ∈ names -> ∃ c, (cellsFrom n names acc).lookup x = some c := by
 induction names with
 | nil => intro n acc h; cases h
 | cons p r ih =>
  obtain ⟨a, k⟩ := p
  intro n acc h
  unfold cellsFrom
  rcases List.mem_cons.mp h with h | h
  ·cases h
   simp only [beq_self_eq_true, if_true]
   exact zd0 ⟨n, by simp [List.lookup]⟩
  ·split <;> exact ih h
theorem zeG {kf : Str -> Option NameKind} {x : Str} : ∀ {bs : List (Str × Value)} {m : Str -> Option Value}, x ∉ bs.map (·.1) -> bindL kf bs m x = m x
 | [], m, _ => rfl
 | (n, v) :: r, m, h => by
  rw [List.map_cons, List.mem_cons, not_or] at h
  unfold bindL
  rw [zeG h.2]
  split
  ·exact if_neg h.1
  ·rfl
theorem zeH {kf : Str -> Option NameKind} {x : Str} {v : Value} (hk : kf x = some .local) : ∀ {bs : List (Str × Value)} {m : Str -> Option Value}, (bs.map (·.1)).Nodup -> (x, v) ∈ bs -> bindL kf bs m x = some v
 | (n, u) :: r, m, hn, h => by
  rw [List.map_cons, List.nodup_cons] at hn
  unfold bindL
  rcases List.mem_cons.mp h with h | h
  ·cases h
   rw [zeG hn.1, if_pos hk]; exact if_pos rfl
  ·exact zeH hk hn.2 h
theorem zeI {kf : Str -> Option NameKind} {x : Str} : ∀ {bs : List (Str × Value)} {m : Str -> Option Value}, x ∉ bs.map (·.1) -> bindC kf bs m x = m x
 | [], m, _ => rfl
 | (n, v) :: r, m, h => by
  rw [List.map_cons, List.mem_cons, not_or] at h
  unfold bindC
  rw [zeI h.2]
  split
  ·rfl
  ·exact if_neg h.1
theorem zeJ {kf : Str -> Option NameKind} {x : Str} {v : Value} (hk : kf x ≠ some .local) : ∀ {bs : List (Str × Value)} {m : Str -> Option Value}, (bs.map (·.1)).Nodup -> (x, v) ∈ bs -> bindC kf bs m x = some v
 | (n, u) :: r, m, hn, h => by
  rw [List.map_cons, List.nodup_cons] at hn
  unfold bindC
  rcases List.mem_cons.mp h with h | h
  ·cases h
   rw [zeI hn.1, if_neg hk]; exact if_pos rfl
  ·exact zeJ hk hn.2 h
theorem zhc {i : Nat} {r : List Nat} {a : Loc} {q : List Loc} {m : Fm} : zdB (i :: r) (a :: q) m = if i < m.length then zdB r q (zaw m i (some a)) else none := rfl
theorem zeb : ∀ {ps : List Nat} {as : List Loc} {m m' : Fm} {j : Nat} {l : Loc}, zdB ps as m = some m' -> m'[j]? = some (some l) -> m[j]? = some (some l) \/ ∃ t : Nat, ps[t]? = some j /\ as[t]? = some l
 | [], [], m, m', j, l, h, q => by cases h; exact .inl q
 | [], _ :: _, m, m', j, l, h, q => by cases h
 | _ :: _, [], m, m', j, l, h, q => by cases h
 | i :: r, a :: as, m, m', j, l, h, q => by
  rw [zhc] at h
  split at h
  ·rename_i hi
   rcases zeb h q with q | ⟨t, q1, q2⟩
   ·by_cases e : i = j
    ·subst e
     rw [zaE hi] at q; cases q
     exact .inr ⟨0, rfl, rfl⟩
    ·rw [zaL e] at q; exact .inl q
   ·exact .inr ⟨t + 1, q1, q2⟩
  ·cases h
theorem zcL : ∀ {ps : List Nat} {as : List Loc} {m m' : Fm}, zdB ps as m = some m' -> m'.length = m.length /\ ps.length = as.length
 | [], [], m, m', h => by cases h; exact ⟨rfl, rfl⟩
 | [], _ :: _, m, m', h => by cases h
 | _ :: _, [], m, m', h => by cases h
 | i :: r, a :: as, m, m', h => by
  rw [zhc] at h
  split at h
  ·obtain ⟨h1, h2⟩ := zcL h; exact ⟨by rw [h1, zaS], congrArg (· + 1) h2⟩
  ·cases h
noncomputable def psOf (names : Names) : List Str -> Option (List Nat)
 | [] => some []
 | x :: r => (ziR names x).bind fun i => (psOf names r).bind fun l => some (i :: l)
theorem zfA {names : Names} {xs : List Str} : ∀ {l : List Nat}, psOf names xs = some l -> xs.length = l.length /\ ∀ (t i : Nat), l[t]? = some i -> ∃ x k, xs[t]? = some x /\ zah names x 0 = some (i, k) /\ (k = .local \/ k = .cell) := by
 induction xs with
 | nil => intro l h; obtain rfl := Option.some.inj h; exact ⟨rfl, fun t i e => nomatch (List.getElem?_nil (i := t)).symm.trans e⟩
 | cons x r ih =>
  exact fun {l} h => bd_e h fun i hi h => bd_e h fun l' hl h => by
   obtain rfl := Option.some.inj h
   obtain ⟨q1, q2⟩ := ih hl
   refine ⟨congrArg (· + 1) q1, fun t j e => ?_⟩
   cases t with
   | zero => obtain rfl := Option.some.inj e; obtain ⟨k, a, b⟩ := zcJ hi; exact ⟨x, k, rfl, a, b⟩
   | succ t => exact q2 t j e
theorem zhd {names : Names} {xs : List Str} : ∀ {l : List Nat}, psOf names xs = some l -> ∀ x ∈ xs, ∃ i k, zah names x 0 = some (i, k) /\ (k = .local \/ k = .cell) := by
 induction xs with
 | nil => exact fun _ x hx => nomatch hx
 | cons y r ih => exact fun {l} h => bd_e h fun i hi h => bd_e h fun l' hl _ x hx => (List.mem_cons.mp hx).elim (fun q => q ▸ ⟨i, zcJ hi⟩) (ih hl x)
theorem LRs.length {S : Sta} {h : Heap} {g : Gh} {vs : List Value} {ls : List Loc} (r : LRs S h g vs ls) : vs.length = ls.length := by
 induction r with
 | nil => rfl
 | cons _ _ ih => simp [ih]
theorem LRs.get {S : Sta} {h : Heap} {g : Gh} {vs : List Value} {ls : List Loc} (r : LRs S h g vs ls) : ∀ {t : Nat} {l : Loc}, ls[t]? = some l -> ∃ v, vs[t]? = some v /\ LR S No h g v l := by
 induction r with
 | nil => intro t l e; simp at e
 | cons a _ ih =>
  intro t l e
  cases t with
  | zero => simp at e; subst e; exact ⟨_, rfl, a⟩
  | succ t => simpa using ih (by simpa using e)
noncomputable def zb6 (p : Arguments) : Bool := match p with
 | ⟨a, _, c, d, e, f, g⟩ => a.isEmpty && (c.isNone && (d.isEmpty && (e.isEmpty && (f.isNone && g.isEmpty))))
theorem zdj {p : Arguments} (h : zb6 p = true) : p = ⟨[], p.args, none, [], [], none, []⟩ := by
 obtain ⟨a, b, c, d, e, f, g⟩ := p
 obtain ⟨h1, h⟩ := Bool.and_eq_true_iff.mp h
 obtain ⟨h2, h⟩ := Bool.and_eq_true_iff.mp h
 obtain ⟨h3, h⟩ := Bool.and_eq_true_iff.mp h
 obtain ⟨h4, h⟩ := Bool.and_eq_true_iff.mp h
 obtain ⟨h5, h⟩ := Bool.and_eq_true_iff.mp h
 rw [List.isEmpty_iff.mp h1, Option.isNone_iff_eq_none.mp h2, List.isEmpty_iff.mp h3, List.isEmpty_iff.mp h4, Option.isNone_iff_eq_none.mp h5, List.isEmpty_iff.mp h]
theorem zf9 {xs : List Str} : ∀ {vs : List Value}, xs.Nodup -> xs.length = vs.length -> (xs.filterMap fun n => ((xs.zip vs).lookup n).map (n, ·)) = xs.zip vs := by
 have gen : ∀ (xs : List Str) (vs : List Value) (L : List (Str × Value)), xs.Nodup -> xs.length = vs.length -> (∀ x v, (x, v) ∈ xs.zip vs -> L.lookup x = some v) -> (xs.filterMap fun n => (L.lookup n).map (n, ·)) = xs.zip vs := by
  intro xs
  induction xs with
  | nil => intro vs L _ _ _; rfl
  | cons x r ih =>
   intro vs L hn hl h
   cases vs with
   | nil => simp at hl
   | cons v vs =>
    rw [List.nodup_cons] at hn
    rw [List.filterMap_cons, h x v (by simp)]
    simp only [Option.map_some, List.zip_cons_cons]
    rw [ih vs L hn.2 (by simpa using hl) fun y w hm => h y w (by simp [hm])]
 have lk : ∀ (xs : List Str) (vs : List Value), xs.Nodup -> ∀ x v, (x, v) ∈ xs.zip vs -> (xs.zip vs).lookup x = some v := by
  intro xs
  induction xs with
  | nil => intro vs _ x v h; simp at h
  | cons a r ih =>
   intro vs hn x v h
   cases vs with
   | nil => simp at h
   | cons b vs =>
    rw [List.nodup_cons] at hn
    rw [List.zip_cons_cons] at h ⊢
    rcases List.mem_cons.mp h with h | hh
    ·cases h; simp [List.lookup]
    ·have : (x == a) = false := by
      simp only [beq_eq_false_iff_ne]
      rintro rfl
      exact hn.1 (List.of_mem_zip hh).1
     simp only [List.lookup, this]
     exact ih vs hn.2 x v hh
 intro vs hn hl
 exact gen xs vs _ hn hl (lk xs vs hn)
theorem zbB {fd : FuncData} {vs : List Value} (hp : zb6 fd.params = true) (hd : fd.defaults = .none) (hn : (fd.params.args.map (·.arg)).Nodup) (hl : fd.params.args.length = vs.length) : bindArgs fd ⟨vs, []⟩ = pure ((fd.params.args.map (·.arg)).zip vs) := by
 obtain ⟨_, _, params, _, _, _, _, defaults, _⟩ := fd
 dsimp only at hp hd hn hl ⊢
 subst hd
 have hp := zdj hp
 obtain ⟨_, l, _, _, _, _, _⟩ := params
 cases hp
 dsimp only at hn hl
 have hz := zf9 hn (by simpa using hl)
 have hmiss : ((l.map (·.arg)).take (l.map (·.arg)).length).filter (fun n => (((l.map (·.arg)).zip vs).lookup n).isNone) = [] := by
  rw [List.filter_eq_nil_iff, List.take_length]
  intro x hx
  have : x ∈ ((l.map (·.arg)).zip vs).map (·.1) := by
   rw [List.map_fst_zip (Nat.le_of_eq ((List.length_map _).trans hl))]; exact hx
  obtain ⟨⟨y, v⟩, h1, rfl⟩ := List.mem_map.mp this
  obtain ⟨v', hv⟩ := zb7 h1
  rw [hv]; exact Bool.false_ne_true
 refine (if_neg ?_).trans ?_
 ·show ¬ (decide (vs.length > (l.map (·.arg)).length) && true) = true
  rw [List.length_map, hl, decide_eq_false (Nat.lt_irrefl _)]; exact Bool.false_ne_true
 refine (if_neg ?_).trans ?_
 ·show ¬ (!(((l.map (·.arg)).take ((l.map (·.arg)).length - (List.drop (0 - (l.map (·.arg)).length) ([] : List Value)).length)).filter (fun n => (((l.map (·.arg)).zip vs).lookup n).isNone)).isEmpty) = true
  rw [List.drop_nil]
  show ¬ (!(((l.map (·.arg)).take (l.map (·.arg)).length).filter (fun n => (((l.map (·.arg)).zip vs).lookup n).isNone)).isEmpty) = true
  rw [hmiss]; exact Bool.false_ne_true
 show (forIn (List.zip _ (List.drop _ ([] : List Value))) _ _ >>= _) = _
 rw [List.drop_nil, List.zip_nil_right]
 show (pure (List.filterMap (fun n => Option.map (fun x => (n, x)) (List.lookup n ((l.map (·.arg)).zip vs))) (l.map (·.arg) ++ [])) : Sem (List (Str × Value))) = _
 rw [List.append_nil, hz]
theorem LR.fresh {S : Sta} {Y : Addr -> Prop} {h : Heap} {g : Gh} {v : Value} {l : Loc} (f : ∀ a o, Y a -> h.get? a = some o -> False) (r : LR S No h g v l) : LR S Y h g v l := r.but fun a o e _ y => f a o y e
open Classical in
noncomputable def Gh.frame (g : Gh) (L : Addr) (cs : List (Str × Addr)) : Gh := { g with κ := fun b => if b = L then .fr else if ∃ n, cs.lookup n = some b then .cl else g.κ b }
section
variable {S : Sta} {fr : List Env} {g : Gh} {σ : Hp} {s s1 : Shared} {fd : FuncData} {a : Addr} {ps : List Nat} {as : List Loc} {vs : List Value} {m0 : Fm} {cm mp : Str -> Option Value}
open Classical in
theorem enter (I : Inv S fr g σ s.heap) (x : InCallC s (callEnvC fd s.heap.objs.size a).locals mp (callEnvC fd s.heap.objs.size a).cells cm s1) (kf : fd.scope.kind = .function) :
  Ext No g (g.frame s.heap.objs.size (callEnvC fd s.heap.objs.size a).cells) s.heap s1.heap /\ Inv S (callEnvC fd s.heap.objs.size a :: fr) (g.frame s.heap.objs.size (callEnvC fd s.heap.objs.size a).cells) σ s1.heap /\ Rest s s1 /\
   (∀ b o, (b = s.heap.objs.size \/ ∃ n, (callEnvC fd s.heap.objs.size a).cells.lookup n = some b) -> s.heap.get? b = some o -> False) := by
 have hL : (callEnvC fd s.heap.objs.size a).locals = s.heap.objs.size := rfl
 have kp := x.toInCall.keep
 have old : ∀ b o, s.heap.get? b = some o -> b ≠ s.heap.objs.size /\ ¬ ∃ n, (callEnvC fd s.heap.objs.size a).cells.lookup n = some b := fun b o e => by
  have lt := Heap.lt_size e
  refine ⟨Nat.ne_of_lt lt, fun ⟨n, hn⟩ => ?_⟩
  have := x.above n b (mem_of_lookup hn)
  rw [hL] at this
  exact Nat.lt_irrefl _ (Nat.lt_trans this lt)
 have hk : ∀ b o, s.heap.get? b = some o -> (g.frame s.heap.objs.size (callEnvC fd s.heap.objs.size a).cells).κ b = g.κ b := fun b o e => by
  obtain ⟨h1, h2⟩ := old b o e
  show (if b = s.heap.objs.size then Kd.fr else if ∃ n, (callEnvC fd s.heap.objs.size a).cells.lookup n = some b then Kd.cl else g.κ b) = g.κ b
  rw [if_neg h1, if_neg h2]
 have E : Ext No g (g.frame s.heap.objs.size (callEnvC fd s.heap.objs.size a).cells) s.heap s1.heap := ⟨hk, Nat.le_refl _, fun _ _ => rfl, fun b o q e => ⟨(hk b o e).trans q, kp b o e⟩, fun b o e _ _ _ _ _ => kp b o e, fun b o e _ _ => ⟨o.slots, kp b o e⟩, fun b o vs e _ _ q => ⟨vs, q ▸ kp b o e⟩, fun b o e => ⟨o, kp b o e⟩⟩
 have ns := x.toInCall.ns
 rw [hL] at ns
 obtain ⟨oL, hoL, hdL⟩ := zhs ns
 refine ⟨E, ⟨fun b o e => kp b o (I.stays b o e), fun b o e => (hk b o (I.stays b o e)).trans (I.bfz b o e), fun b e => ?_, I.num, fun i o e => (I.mu i o e).mono_at E.up fun ob q => kp _ _ q, fun i hi => ?_, I.inj, ?_, I.tb.mono E.fz (let ⟨_, q, _⟩ := I.tb.at_; (hk _ _ q).trans I.tb.k) (kp _)⟩, ?_, fun b o y e => ?_⟩
 ·show (if b = s.heap.objs.size then Kd.fr else if ∃ n, (callEnvC fd s.heap.objs.size a).cells.lookup n = some b then Kd.cl else g.κ b) = .ot
  rw [if_neg (fun q => by rw [q, hoL] at e; cases e), if_neg (fun ⟨n, hn⟩ => by obtain ⟨o, ho, _⟩ := x.cell n b hn; rw [ho] at e; cases e)]
  refine I.ot b ?_
  cases z : s.heap.get? b with
  | none => rfl
  | some o => rw [kp b o z] at e; cases e
 ·obtain ⟨ob, e⟩ := I.muAt hi
  exact (hk _ ob e).trans (I.km i hi)
 ·refine ⟨⟨(by show fd.scope.kind ≠ _; rw [kf]; decide), ⟨s.heap.objs.size, oL, rfl, Heap.get?_none_of_le (Nat.zero_le _), hoL, hdL⟩, (I.fr.mono E).1⟩, fun L hm => ?_⟩
  rw [List.filterMap_cons] at hm
  rcases List.mem_cons.mp hm with rfl | hm
  ·exact if_pos rfl
  ·exact (I.fr.mono E).2 L hm
 ·obtain ⟨h, tk, e⟩ := x.toInCall.same
  rw [e]; exact ⟨rfl, rfl, rfl⟩
 ·obtain ⟨h1, h2⟩ := old b o e
  exact y.elim h1 h2
open Classical in
theorem entered {names : Names} (hnm : fd.scope.names = names) (I : Inv S fr g σ s.heap) (r : LRs S s.heap g vs as) (hps : psOf names (fd.params.args.map (·.arg)) = some ps) (hn : (fd.params.args.map (·.arg)).Nodup) (hl : fd.params.args.length = vs.length) (hm : zdB ps as (List.replicate names.length none) = some m0) (kf : fd.scope.kind = .function)
  (x : InCallC s (callEnvC fd s.heap.objs.size a).locals (bindL (callEnvC fd s.heap.objs.size a).kindOf ((fd.params.args.map (·.arg)).zip vs) fun _ => none) (callEnvC fd s.heap.objs.size a).cells (bindC (callEnvC fd s.heap.objs.size a).kindOf ((fd.params.args.map (·.arg)).zip vs) fun _ => none) s1) :
  VarsOk S (fun b => b = s.heap.objs.size \/ ∃ n, (callEnvC fd s.heap.objs.size a).cells.lookup n = some b) s1.heap (g.frame s.heap.objs.size (callEnvC fd s.heap.objs.size a).cells) (callEnvC fd s.heap.objs.size a) names m0 := by
 obtain ⟨E, I1, z, fresh⟩ := enter I x kf
 have hkind : ∀ {y : Str} {i : Nat} {k : NameKind}, zah names y 0 = some (i, k) -> (callEnvC fd s.heap.objs.size a).kindOf y = some k := fun e => by
  show List.lookup _ fd.scope.names = _
  rw [hnm]; exact zad e
 obtain ⟨q1, q2⟩ := zfA hps
 have hzl : (((fd.params.args.map (·.arg)).zip vs).map (·.1)) = fd.params.args.map (·.arg) := List.map_fst_zip (by simpa using Nat.le_of_eq hl)
 have val : ∀ {j : Nat} {l : Loc} {y : Str} {k : NameKind}, zah names y 0 = some (j, k) -> m0[j]? = some (some l) -> ∃ v, (y, v) ∈ (fd.params.args.map (·.arg)).zip vs /\ LR S (fun b => b = s.heap.objs.size \/ ∃ n, (callEnvC fd s.heap.objs.size a).cells.lookup n = some b) s1.heap (g.frame s.heap.objs.size (callEnvC fd s.heap.objs.size a).cells) v l := by
  intro j l y k hy hj
  rcases zeb hm hj with h | ⟨t, h1, h2⟩
  ·rw [List.getElem?_replicate] at h; split at h <;> cases h
  ·obtain ⟨y', k', h3, h4, _⟩ := q2 t j h1
   have : y' = y := zaJ h4 hy
   subst this
   obtain ⟨v, h5, h6⟩ := r.get h2
   refine ⟨v, ?_, (h6.fresh fresh).mono E.no⟩
   have : ((fd.params.args.map (·.arg)).zip vs)[t]? = some (y', v) := by rw [List.getElem?_zip_eq_some]; exact ⟨h3, h5⟩
   exact List.mem_of_getElem? this
 have ns := x.toInCall.ns
 refine ⟨by rw [(zcL hm).1]; simp, hnm, if_pos rfl, .inl rfl, fun b yb => ?_, ⟨_, ns, fun y i l e1 e2 => ?_⟩, fun y i e => ?_, fun y z c h1 h2 => name_of_addr x.apart (mem_of_lookup h1) (mem_of_lookup h2)⟩
 ·rcases yb with rfl | ⟨n, hn'⟩
  ·obtain ⟨o, ho, _⟩ := zhs ns
   exact ⟨o, ho, .inl (if_pos rfl)⟩
  ·obtain ⟨o, ho, _⟩ := x.cell n b hn'
   refine ⟨o, ho, .inr ?_⟩
   have : b ≠ s.heap.objs.size := Nat.ne_of_gt (x.above n b (mem_of_lookup hn'))
   exact (if_neg this).trans (if_pos ⟨n, hn'⟩)
 ·obtain ⟨v, h1, h2⟩ := val e1 e2
  exact ⟨v, zeH (hkind e1) (by rw [hzl]; exact hn) h1, h2⟩
 ·obtain ⟨c, hc⟩ := zbX (n := s.heap.objs.size + 1) (acc := []) (zav (zad e))
  have hc : (callEnvC fd s.heap.objs.size a).cells.lookup y = some c := by
   show (cellsFrom (s.heap.objs.size + 1) fd.scope.names []).lookup y = some c
   rw [hnm]; exact hc
  have ne : c ≠ s.heap.objs.size := Nat.ne_of_gt (x.above y c (mem_of_lookup hc))
  refine ⟨c, hc, .inr ⟨y, hc⟩, ne, (if_neg ne).trans (if_pos ⟨y, hc⟩), _, x.cell y c hc, fun l hl => ?_⟩
  obtain ⟨v, h1, h2⟩ := val e hl
  exact ⟨v, zeJ (by rw [hkind e]; decide) (by rw [hzl]; exact hn) h1, h2⟩
end
structure Hy (S : Sta) (nd : Nat) : Prop where
 co : CallOk S (zaD S.tab S.gc nd) nd
 no : NewOk S nd
 xm : ExcMk S nd
noncomputable def GSs (S : Sta) (names : Names) (lam : Bool) (b : List Stmt) (xs : List Mine.Lake.S) : Prop := ∀ nd, Hy S nd -> zc4 S (zaD S.tab S.gc nd) nd false names lam b xs
structure FnSt (S : Sta) (fn : Fn) (fd : FuncData) (lam : Bool) : Prop where
 gl : fd.globals = mainGlobals
 bl : fd.builtins = builtinsNs
 cl : fd.closure = []
 kf : fd.scope.kind = .function
 co : fd.scope.isCoroutine = false
 ge : fd.scope.isGenerator = false
 cr : S.B.CodeRec fd.code fd.qualname
 ps : zb6 fd.params = true
 df : fd.defaults = .none
 nd : (fd.params.args.map (·.arg)).Nodup
 pn : psOf fd.scope.names (fd.params.args.map (·.arg)) = some fn.ps
 sz : fn.size = fd.scope.names.length
 nf : zc5 fd.scope.names
 la : lam = true -> fd.code = .ref S.lc /\ (fd.qualname ++ ".<locals>.") ++ "<lambda>" = S.lq
inductive FnOk (S : Sta) (f : Nat) (fn : Fn) : Prop
 | mk (oc : Value) (od : Option Addr) (fd : FuncData) (osl : Array (Option Value)) (body : List Stmt) (lam : Bool) (at_ : S.B.get? (S.fa f) = some ⟨oc, od, .func fd, osl⟩) (bd : fd.body = .stmts body) (st : FnSt S fn fd lam) (so : GSs S fd.scope.names lam body fn.body)
section
variable {S : Sta} {nd : Nat}
theorem zef {cx : Cx} (hcs : cx.cs = none) {x : Str} (h : nmOf cx x = some .g) : ∃ i, zah cx.fn x 0 = some (i, .globalImplicit) := by
 obtain ⟨i, k, e, q⟩ := zfG hcs h
 cases k <;> cases q
 exact ⟨i, e⟩
theorem zbR {env' : Env} {fr : List Env} {g : Gh} {σ : Hp} {h : Heap} (I : Inv S (env' :: fr) g σ h) : Inv S fr g σ h :=
 ⟨I.stays, I.bfz, I.ot, I.num, I.mu, I.km, I.inj, ⟨I.fr.1.2.2, fun L hm => I.fr.2 L (by
  rw [List.filterMap_cons]
  split
  ·exact hm
  ·exact .tail _ hm)⟩, I.tb⟩
theorem dp0 {d n m r : Nat} (h : d + n + m < r) : d < r := Nat.lt_of_le_of_lt (Nat.le_trans (Nat.le_add_right _ _) (Nat.le_add_right _ _)) h
theorem dp1 {d n m r : Nat} (h : d + (n + 1) + m < r) : d + 1 + n + m < r := by rw [Nat.add_assoc d 1 n, Nat.add_comm 1 n]; exact h
theorem un3 {u n c : Nat} (h : u + 16 * (n + 1) + 300 < c) : u + 3 + 16 * n + 300 < c :=
 Nat.lt_of_le_of_lt (Nat.add_le_add_right (Nat.le_trans (Nat.le_of_eq (by rw [Nat.add_assoc, Nat.add_comm 3])) (Nat.add_le_add_left (Nat.add_le_add_left (by decide : 3 <= 16) (16 * n)) u)) 300) h
theorem zf3 (ok : StaOk3 S) (tabs : ∀ f fn, S.tab f = some fn -> FnOk S f fn) (hy : Hy S nd) {f : Nat} {A : Around} {fr : List Env} {g : Gh} {σ : Hp} {s : Shared} {K : KV} {E : KE} {as : List Loc} {vs : List Value}
  (chn : A.handled = none) (cfr : A.frames = some fr) (cgd : A.guards = some []) (cdp : A.depth + (nd + 1) + 10 < recursionLimit) (cun : A.units + 16 * (nd + 1) + 300 < cLine) (I : Inv S fr g σ s.heap) (r : LRs S s.heap g vs as) (f0 : f ≠ 0) (h : zaD S.tab S.gc (nd + 1) f as σ K E) :
  wpAny S.M A (call (.ref (S.fa f)) vs []) (Ok S fr No (RV S) g s K) (Er S fr No false g s E) s := by
 cases f with
 | zero => exact absurd rfl f0
 | succ f =>
 have h : need (S.tab (f + 1)) fun fn => need (zdB fn.ps as (List.replicate fn.size none)) fun m =>
   evSs (zaD S.tab S.gc nd) S.gc fn.body m σ (fun fl _ σ' => match fl with
    | .ret v => K v σ'
    | .next => K (.pd .none) σ'
    | .cont => False) E := h
 obtain ⟨fn, ht, h⟩ := zag h
 obtain ⟨m0, hm, h⟩ := zag h
 obtain ⟨oc, od, fd, osl, body, lam, k1, k2, ⟨k3, k4, k5, k6, k7, k8, k9, k10, k11, k12, k13, k14, k15, k17⟩, k16⟩ := tabs _ _ ht
 have X := kIn ok.toStaOk I
 have hlen : fd.params.args.length = vs.length := by
  have h1 := (zfA k13).1
  have h2 := (zcL hm).2
  have h3 := r.length
  simp only [List.length_map] at h1
  exact h1.trans (h2.trans h3.symm)
 have hkinds : ∀ y ∈ (fd.params.args.map (·.arg)).zip vs, fd.scope.names.lookup y.1 = some .local \/ (fd.scope.names.lookup y.1 = some .cell /\ ((cellsFrom (s.heap.objs.size + 1) fd.scope.names []).lookup y.1).isSome = true) := fun y hy => by
  obtain ⟨i, k, h1, h2⟩ := zhd k13 y.1 (List.of_mem_zip hy).1
  rcases h2 with rfl | rfl
  ·exact .inl (zad h1)
  ·refine .inr ⟨zad h1, ?_⟩
   obtain ⟨cc, hc⟩ := zbX (n := s.heap.objs.size + 1) (acc := []) (zav (zad h1))
   rw [hc]; rfl
 refine wpAny_call (codeAny_call_cells (dp0 cdp) (I.stays _ _ k1) rfl (ok.nolimit.keeps fun b o e => I.stays b o e) (k9.keeps fun b o e => I.stays b o e) k2 (zbB k10 k11 k12 hlen) k5 hkinds (fun s1 x => ?_) k7 k8 k6)
 rw [k14] at hm
 obtain ⟨E1, I1, z1, fresh⟩ := enter I x k6
 have V1 := entered rfl I r k13 k12 hlen hm k6 x
 generalize hE' : callEnvC fd s.heap.objs.size (S.fa (f + 1)) = env' at E1 I1 V1 fresh x ⊢
 have ekf : env'.scope.kind = .function := by rw [← hE']; exact k6
 have act : Act S (S.at fd.scope.names none lam) (A.deeper env') env' env' fr s.heap.objs.size nd false := by
  refine ⟨fun _ => chn, ?_, ?_, ?_, cgd, ?_, ?_, ekf, by rw [← hE']; exact k3, by rw [← hE']; exact k4, fun y hy => ?_, fun hl => ?_⟩
  ·show A.frames.map (env' :: ·) = _
   rw [cfr]; rfl
  ·rw [← hE']; rfl
  ·rw [← hE']; rfl
  ·exact dp1 cdp
  ·exact un3 cun
  ·obtain ⟨i, hi⟩ := zef rfl hy
   unfold Env.kindOf
   rw [V1.nm]; exact zad hi
  ·obtain ⟨h1, h2⟩ := k17 hl
   rw [← hE']; exact ⟨h1, h2⟩
 refine wpAny_mono (k16 nd hy (A.deeper env') env' fr s.heap.objs.size _ m0 σ _ s1 _ E act k15 I1 V1 h) (fun fl s2 hok => ?_) (fun e s2 her => ?_)
 ·obtain ⟨fl', m2, σ2, g2, h2, e2, i2, v2, r2, z2⟩ := hok
  have EE : Ext No g g2 s.heap s2.heap := (E1.no.trans e2).drop fun b o yb e => (fresh b o (by rw [← hE'] at yb ⊢; exact yb) e).elim
  cases fl <;> cases fl' <;> first
   | exact r2.elim
   | exact h2.elim
   | exact ⟨_, σ2, g2, h2, EE, zbR i2, r2, z1.trans z2⟩
   | exact ⟨_, σ2, g2, h2, EE, zbR i2, .pd .none, z1.trans z2⟩
 ·obtain ⟨exc, σ2, g2, ea, tr, rfl, _, hE, e2, i2, x2, z2⟩ := her
  refine zcz act.frames act.fL i2 x2 fun g3 h3 i3 e3 x3 => ?_
  have EE : Ext No g g3 s.heap h3 := ((E1.no.trans e2).trans e3.no).drop fun b o yb e => (fresh b o (by rw [← hE'] at yb ⊢; exact yb) e).elim
  exact ⟨exc, σ2, g3, ea, true, rfl, nofun, hE, EE, zbR i3, x3, z1.trans ⟨z2.1, z2.2.1, z2.2.2⟩⟩
theorem zl0 (ok : StaOk3 S) (tabs : ∀ f fn, S.tab f = some fn -> FnOk S f fn) (hy : Hy S nd) {f : Nat} {A : Around} {env : Env} {outer : List Env} {L : Addr} {g : Gh} {σ : Hp} {s : Shared} {K : KV} {E : KE} {as : List Loc} {vs : List Value}
  (c : CallAt A env outer L (nd + 1)) (I : Inv S (env :: outer) g σ s.heap) (r : LRs S s.heap g vs as) (f0 : f ≠ 0) (h : zaD S.tab S.gc (nd + 1) f as σ K E) :
  wpAny S.M A (call (.ref (S.fa f)) vs []) (Ok S (env :: outer) No (RV S) g s K) (Er S (env :: outer) No false g s E) s := zf3 ok tabs hy c.hn c.frames c.guards c.depth c.units I r f0 h
end
theorem zeq {f : Str -> NameKind} {x : Str} {rest : Names} : ∀ {fn : Names} {k i : Nat} {kd : NameKind}, zah (fn.map (fun p => (p.1, f p.1)) ++ rest) x k = some (i, kd) -> (∃ kf, zah fn x k = some (i, kf) /\ kd = f x) \/ ∃ j, zah rest x j = some (i, kd)
 | [], k, i, kd, h => .inr ⟨k, h⟩
 | (a, c) :: r, k, i, kd, h => by
  rw [List.map_cons, List.cons_append] at h
  have hu : ∀ {kf}, zah ((a, c) :: r) x k = some (i, kf) ↔ (if a = x then some (k, c) else zah r x (k + 1)) = some (i, kf) := Iff.rfl
  unfold zah at h
  split at h
  ·rename_i e; cases h; subst e
   exact .inl ⟨c, hu.mpr (by rw [if_pos rfl]), rfl⟩
  ·rename_i e
   rcases zeq h with ⟨kf, h1, h2⟩ | h
   ·exact .inl ⟨kf, hu.mpr (by rw [if_neg e]; exact h1), h2⟩
   ·exact .inr h
theorem zcT : ∀ {names : Names} {x : Str} {k i : Nat} {kd : NameKind}, zah names x k = some (i, kd) -> (x, kd) ∈ names
 | [], x, k, i, kd, h => by cases h
 | (a, c) :: r, x, k, i, kd, h => by
  unfold zah at h
  split at h
  ·rename_i e; cases h; subst e; exact .head _
  ·exact .tail _ (zcT h)
set_option backward.match.sparseCases false in
theorem zcP {fn lam : Names} {x : Str} {i : Nat} {kd : NameKind} (h : zah (zaW fn lam) x 0 = some (i, kd)) :
  (kd = .free -> (∃ kf, zah fn x 0 = some (i, kf)) /\ lam.lookup x = some .free) /\ (kd = .globalImplicit -> lam.lookup x = some .globalImplicit) /\ kd ≠ .local /\ kd ≠ .cell := by
 unfold zaW at h
 rcases zeq (f := fun y => match zah lam y 0 with | some (_, .free) => .free | some (_, .globalImplicit) => .globalImplicit | _ => .globalExplicit) h with ⟨kf, h1, h2⟩ | ⟨j, hj⟩
 ·split at h2
  ·rename_i e
   subst h2
   exact ⟨fun _ => ⟨⟨kf, h1⟩, zad e⟩, nofun, nofun, nofun⟩
  ·rename_i e
   subst h2
   exact ⟨nofun, fun _ => zad e, nofun, nofun⟩
  ·subst h2
   exact ⟨nofun, nofun, nofun, nofun⟩
 ·have := zcT hj
  obtain ⟨h1, h2⟩ := List.mem_filter.mp this
  simp only [Bool.and_eq_true, beq_iff_eq] at h2
  obtain ⟨rfl, h3⟩ := h2
  exact ⟨nofun, fun _ => h3, nofun, nofun⟩
theorem zga {m : List (Option V)} {i : Nat} {l : Loc} (h : (unsnap m)[i]? = some (some l)) : ∃ y, l = .v y /\ m[i]? = some (some y) := by
 unfold unsnap at h
 rw [List.getElem?_map] at h
 exact zbe h fun o h1 h2 => zbe h2 fun y h3 h4 => ⟨y, h4.symm, h3 ▸ h1⟩
section
variable {S : Sta} {nd : Nat}
theorem ze5 {b : Bool} (h : (!b) = true) : b = false := by cases b <;> first | rfl | cases h
theorem zbY {α β : Type} {P : α -> Prop} {o : Option {a : α // P a}} {k : ∀ a, P a -> Option β} {b : β} (h : bnd o k = some b) : ∃ a h, k a h = some b := by
 cases o with
 | none => cases h
 | some a => exact ⟨a.1, a.2, h⟩
theorem za5 {α β : Type} {o : Option α} {k : ∀ a, o = some a -> Option β} {b : β} (h : opt o k = some b) : ∃ a h, k a h = some b := by
 cases o with
 | none => cases h
 | some a => exact ⟨a, rfl, h⟩
theorem zcy {β : Type} {c : Bool} {k : c = true -> Option β} {b : β} (h : chk c k = some b) : ∃ h, k h = some b := by
 cases c with
 | false => cases h
 | true => exact ⟨rfl, h⟩
theorem zlW {cx : Cx} {n : Nat} {e : PySem.Expr} {x : X} (h : dX cx n e = some x) : zak e = false := by
 cases e <;> first | rfl | (cases n <;> cases h)
theorem zin {G : zab} {cx : Cx} {hd : Bool} {n : Nat} (hf : ∀ {e x}, dX cx n e = some x -> SndX S G nd hd cx e x) {es : List PySem.Expr} : ∀ {xs : List X}, zfD (dX cx n) es = some xs -> zb0 S G nd hd cx es xs := by
 induction es with
 | nil => intro xs h; cases h; exact zb2
 | cons e r ih =>
  intro xs h
  obtain ⟨x, h1, h⟩ := za5 h
  obtain ⟨l, h2, h⟩ := za5 h
  cases h
  exact za4 (hf h1) (ih h2) (zlW h1)
theorem zio (ok : StaOk2 S) {G : zab} {fn : Names} {cs : Option Names} {lam hd : Bool} : ∀ (n : Nat) {e : PySem.Expr} {x : X}, dX (S.at fn cs lam) n e = some x -> SndX S G nd hd (S.at fn cs lam) e x
 | 0, e, x, h => by cases h
 | n + 1, e, x, h => by
  cases e
  case Constant c k p => exact zcG h
  case Name y p => exact zdy ok h
  case Tuple es c p =>
   obtain ⟨xs, h1, h⟩ := za5 h
   cases h
   exact zdx (zin (zio ok n) h1)
  all_goals cases h
theorem zlz (ok : StaOk3 S) (k2 : KOk2 S) (hy : Hy S nd) {fn : Names} {cs : Option Names} {lam : Bool} {e : PySem.Expr} {x : X} (h : lamX (S.at fn cs lam) e = some x) : SndX S (zaD S.tab S.gc nd) nd false (S.at fn cs lam) e x := by
 unfold lamX at h
 obtain ⟨c, hc, h⟩ := zbY h
 obtain ⟨a, ha, h⟩ := zbY h
 obtain ⟨d, hd, h⟩ := zbY h
 obtain ⟨y, hy', h⟩ := zbY h
 obtain ⟨z, hz, h⟩ := zbY h
 obtain ⟨nm, hn, h⟩ := za5 h
 obtain ⟨hg, h⟩ := zcy h
 obtain ⟨he, h⟩ := zcy h
 obtain ⟨hp, h⟩ := zcy h
 obtain ⟨hs, h⟩ := zcy h
 obtain ⟨f, hf, h⟩ := za5 h
 obtain ⟨o, ho, h⟩ := za5 h
 obtain ⟨l, hl, h⟩ := za5 h
 cases h
 have hg' : nm = Nm.g := by cases nm <;> first | rfl | cases hg
 subst hg'
 have he := of_decide_eq_true he
 rw [he] at hn hy'
 rw [Bool.and_eq_true] at hp hs
 rw [hc, ha, hd, hy', hz]
 exact zft ok k2 hy.co hf rfl hp.1 (of_decide_eq_true hp.2) hs.1 (zgW ok k2 hy.no hn (ze5 hs.2) (zio ok.toStaOk2 9 ho)) (zin (zio ok.toStaOk2 9) hl) (by rintro q; rw [q] at hl; cases hl; rfl)
open Classical in
theorem zjP (ok : StaOk3 S) (k2 : KOk2 S) (hy : Hy S nd) {f : Addr} {A : Around} {env : Env} {outer : List Env} {L : Addr} {g : Gh} {σ : Hp} {s : Shared} {K : KV} {E : KE} {b : X} {m : List (Option V)}
  (c : CallAt A env outer L (nd + 1)) (I : Inv S (env :: outer) g σ s.heap) (r : LamAt S No s.heap g f b m) (h : zaD S.tab S.gc (nd + 1) 0 [.lam b m] σ K E) :
  wpAny S.M A (call (.ref f) [] []) (Ok S (env :: outer) No (RV S) g s K) (Er S (env :: outer) No false g s E) s := by
 have h : evX (zaD S.tab S.gc nd) S.gc (unsnap m) [] b σ K E := h
 obtain ⟨o, fd, fn, e, h1, h2, h3, ⟨h4, hdf, h5, h6, h7, h8, h9, h10, h11, h12⟩, ⟨cc, oc, vs, t, c1, c2, c3, c4, c5⟩, h13⟩ := id r
 have hbind : bindArgs fd ⟨[], []⟩ = pure [] := by
  have := zbB (fd := fd) (vs := []) (by rw [h4]; rfl) hdf (by rw [h4]; exact List.nodup_nil) (by rw [h4]; rfl)
  rw [this, h4]; rfl
 refine wpAny_call (kla_callFunE (dp0 c.depth) h2 h3 h10 h9 h5 ⟨cc, oc, vs, t, c1, c3, c4, c5⟩ ?_)
 rw [hbind]
 refine wpAny_pure (wpAny_newFunctionEnv h12 (by intro y hy; simp at hy) (fun h' hns hsb => ?_) h8)
 simp only [Option.isSome_none, Bool.false_eq_true, if_false] at hsb
 have kp : ∀ b o, s.heap.get? b = some o -> h'.get? b = some o := fun b o e => hsb.extBut b o (Nat.ne_of_lt (Heap.lt_size e)) (Heap.get?_push_of_some _ e)
 refine ⟨ok.nolimit.keeps fun b o e => kp _ _ (I.stays b o e), kla_codeExpr ?_⟩
 have hn : s.heap.get? s.heap.objs.size = none := Heap.get?_none_of_le (Nat.le_refl _)
 obtain ⟨oL, hoL, hdL⟩ := zhs hns
 obtain ⟨I1, E1⟩ := I.new (k := .fr) kp hn hoL
 generalize hE' : newEnv fd.scope s.heap.objs.size fd.globals fd.closure (fd.qualname ++ ".<locals>.") (some f) fd.code none fd.builtins = env'
 have ekf : env'.scope.kind = .function := by rw [← hE']; exact h8
 have esc : env'.scope = fd.scope := by rw [← hE']; rfl
 have ecl : env'.cells = fd.closure := by rw [← hE']; rfl
 have I2 : Inv S (env' :: env :: outer) (g.put s.heap.objs.size .fr) σ h' := by
  refine ⟨I1.stays, I1.bfz, I1.ot, I1.num, I1.mu, I1.km, I1.inj, ⟨⟨by rw [ekf]; decide, ⟨s.heap.objs.size, oL, by rw [← hE']; rfl, Heap.get?_none_of_le (Nat.zero_le _), hoL, hdL⟩, I1.fr.1⟩, fun L' hm => ?_⟩, I1.tb⟩
  have hfr : env'.frame = some s.heap.objs.size := by rw [← hE']; rfl
  rw [List.filterMap_cons, hfr] at hm
  rcases List.mem_cons.mp hm with rfl | hm
  ·exact if_pos rfl
  ·exact I1.fr.2 L' hm
 have act : Act S (S.at (zaW fn fd.scope.names) none) (A.deeper env') env' env' (env :: outer) s.heap.objs.size nd false := by
  refine ⟨fun _ => c.hn, ?_, by rw [← hE']; rfl, by rw [← hE']; rfl, c.guards, ?_, ?_, ekf, by rw [← hE']; exact h6, by rw [← hE']; exact h7, fun y hy => ?_, nofun⟩
  ·show A.frames.map (env' :: ·) = _
   rw [c.frames]; rfl
  ·exact dp1 c.depth
  ·exact un3 c.units
  ·obtain ⟨i, hi⟩ := zef rfl hy
   unfold Env.kindOf
   rw [esc]; exact (zcP hi).2.1 rfl
 have rd : Rd S (S.at (zaW fn fd.scope.names) none) env' No h' (g.put s.heap.objs.size .fr) (unsnap m) [] := by
  have r1 := r.mono (E1.no (X := No))
  refine ⟨fun x i hx l hl => ?_, fun x i hx l hl => by simp at hl, fun _ x i hi => absurd rfl (zcP hi).2.2.2⟩
  obtain ⟨j, k, e, hx⟩ := zfG rfl hx
  cases k with
  | «local» => exact absurd rfl (zcP e).2.2.1
  | cell => exact absurd rfl (zcP e).2.2.2
  | free =>
   cases hx
   obtain ⟨⟨kf, hfn⟩, hlk⟩ := (zcP e).1 rfl
   obtain ⟨y, rfl, hy⟩ := zga hl
   obtain ⟨cl, oc', q1, q2, q3, q4, q5⟩ := h13 x _ hfn hlk
   obtain ⟨w, ⟨o', w1, w2⟩, w3⟩ := q5 y hy
   refine ⟨w, .inr ⟨cl, .inr ?_, by rw [ecl]; exact q1, (E1.kind _ _ q4).trans q2, ⟨o', kp _ _ w1, w2⟩⟩, .v (w3.mono E1.up)⟩
   unfold Env.kindOf
   rw [esc]; exact hlk
  | _ => cases hx
 refine wpAny_mono (zlz ok k2 hy h11 (A.deeper env') env' env' (env :: outer) s.heap.objs.size No (unsnap m) [] σ _ _ K E act I2 rd h) (fun v s2 ⟨d, σ2, g2, k2, e2, i2, r2, z2⟩ => ?_) (fun e s2 ⟨exc, σ2, g2, ea, tr, he, _, hE, e2, i2, x2, z2⟩ => ?_)
 ·exact ⟨d, σ2, g2, k2, E1.trans e2, zbR i2, r2, ⟨z2.1, z2.2.1, z2.2.2⟩⟩
 ·subst he
  refine zcz act.frames act.fL i2 x2 fun g3 h3 i3 e3 x3 => ?_
  exact ⟨exc, σ2, g3, ea, true, rfl, nofun, hE, (E1.trans e2).trans e3, zbR i3, x3, ⟨z2.1, z2.2.1, z2.2.2⟩⟩
end
theorem zgx {P : Params} {h : Heap} {κ : Addr -> Kd} {vs : List Value} {l : List PyData} (p : PVs P h κ vs l) : ∀ {ys : List Str}, zeO l = some ys -> StrsAre vs ys :=
 PVs.ind (m := fun vs l => ∀ {ys : List Str}, zeO l = some ys -> StrsAre vs ys) (fun {ys} e => by cases e; exact .nil)
  (fun {v d vs ds} a _ ih ys e => bd_e e fun y hy e => zbe e fun q hq e => by
   subst e
   obtain rfl := zd4 hy
   cases a
   exact .cons _ _ (ih hq)) p
section
variable {S : Sta} {G : zab} {nd : Nat} {hd : Bool} {cx : Cx}
theorem ziO {ap pos : Pos} {oe e : PySem.Expr} {o x : X} (hb : zdp oe = true) (hp : (ap.endLine == pos.line) = true) (hs : zak e = false) (ho : SndX S G nd hd cx oe o) (hx : SndX S G nd hd cx e x) :
  SndX S G nd hd cx (.Call (.Attribute oe (Str.ofString "join") ap) [e] [] pos) (.join o x) := by
 intro A env ev outer L Y m mc σ g s K E a I rd h
 replace h := zh4 h
 have hs' : [e].all (fun e => !zak e) = true := by rw [List.all_cons, hs]; rfl
 rw [zcZ hb hs' (Nat.le_of_ble_eq_true rfl) hp]
 refine wpAny_bind (step (ho A env ev outer L Y m mc σ g s _ E a I rd h) fun v d σ1 g1 s1 h1 e1 i1 r1 z1 => ?_)
 refine zal h1 fun u hu h1 => ?_
 obtain ⟨t, rfl⟩ := zfq (zch hu ▸ r1)
 refine wpAny_bind (wpAny_standAt (wpAny_bind (wpAny_holding (getMethod_builtin (typeIs_str _ _ _) PySem.F.plainAttrs_str PySem.F.slot_str_join PySem.F.type_str_join (fun a e => nomatch e) ?_))))
 refine zbp e1 z1 ?_
 refine zaT hs' (za4 hx zb2 hs) a i1 (rd.mono e1) (P := fun _ => True) (za8 (by nofun)) (K := fun vs σ' => one vs fun y => kd (zhG σ' u y) K σ') h1 (by nofun) fun vs ds σ2 g2 s2 h2 e2 i2 r2 z2 => ⟨trivial, ?_⟩
 refine zbO r2 h2 fun v x ev r h => zal h fun d hd h => ?_
 rw [ev]
 refine bd_e hd fun ys hy hd => gd_e hd fun hz q => bd_e hy fun l hl hy => bd_e hl fun d' hr hl => ?_
 subst q
 refine r.listK (P := fun v => wpAny S.M A (call (.builtin "str.join") ([.str u t] ++ [v]) []) _ _ s2) i2 hr hl fun b ws hb p _ => ?_
 refine join_listW hb (zgx p hy) hz.2 hz.1 fun t' k => ?_
 exact Ok.trans (e1.trans e2) (z1.trans z2) (Is.ok h (zcQ i2))
end
set_option backward.match.sparseCases false
section
variable {S : Sta} {G : zab} {nd : Nat} {hd : Bool} {cx : Cx}
theorem Sn2.plain {es : List PySem.Expr} {xs : List X} (h : Sn2 S G nd hd cx es xs) : es.all (fun e => !zak e) = true /\ (es = [] -> xs = []) /\ es.length = xs.length := by
 induction h with
 | nil => exact ⟨rfl, fun _ => rfl, rfl⟩
 | cons _ _ hs _ ih => exact ⟨by rw [List.all_cons, hs, ih.1]; rfl, nofun, by simp [ih.2.2]⟩
theorem zmq (ok : StaOk3 S) {t : Str} {n : String} {q : Pos} (ht : tyOf t = some n) (hg : nmOf cx t = some .g) : SndX S G nd hd cx (.Name t q) (.ty n) := by
 intro A env ev outer L Y m mc σ g s K E a I rd h
 replace h := zjC h
 obtain ⟨h1, h2⟩ := zmg ok ht
 exact zbq a ok.toStaOk I.stays hg h1 h2 (Ok.here (K := K) h ⟨I, .refl _ _ _⟩ (.ty n) (.refl _))
theorem zkO (ok : StaOk3 S) {q qt pos : Pos} {e : PySem.Expr} {x : X} {t : Str} {n : String} (hg : nmOf cx (Str.ofString "isinstance") = some .g) (ht : tyOf t = some n) (hgt : nmOf cx t = some .g) (hs : zak e = false) (hx : SndX S G nd false cx e x) :
  SndX S G nd false cx (.Call (.Name (Str.ofString "isinstance") q) [e, .Name t qt] [] pos) (.prim .isi [x, .ty n]) := by
 intro A env ev outer L Y m mc σ g s K E a I rd h
 replace h := zeu h
 obtain ⟨h1, h2⟩ := ze4 ok (x := Str.ofString "isinstance") (v := .builtin "isinstance") (.head _)
 rw [arm_eval_Call_Name']
 refine wpAny_bind (zbq a ok.toStaOk I.stays hg h1 h2 ?_)
 refine zaT (by rw [List.all_cons, hs]; rfl) (za4 hx (za4 (zmq ok ht hgt) zb2 rfl) hs) a I rd (P := fun _ => True) (za8 (by nofun)) h (by nofun) fun vs ds σ1 g1 s1 h1 e1 i1 r1 z1 => ⟨trivial, ?_⟩
 exact zbp e1 z1 (wpAny_mono (zhf (p := .isi) ok.toStaOk a.room (a.hn rfl) i1 r1 h1) (fun _ _ x => x.trans e1 z1) fun _ _ x => x)
theorem zoB {ks : List (Option PySem.Expr)} : ∀ {k : List Str} {es : List PySem.Expr} {xs : List X}, zhE ks = some k -> Sn2 S G nd hd cx es xs -> k.length = xs.length -> ziB S G nd hd cx ks es (k.zip xs) /\ ks.all (·.isSome) = true /\ ks.length = k.length := by
 induction ks with
 | nil =>
  intro k es xs h s2 hl
  simp [zhE] at h; subst h
  cases s2 with
  | nil => exact ⟨zm8, rfl, rfl⟩
  | cons => simp at hl
 | cons o r ih =>
  intro k es xs h s2 hl
  obtain ⟨c, h0, h1⟩ := Option.bind_eq_some_iff.mp h
  obtain ⟨e, rfl, h3⟩ := Option.bind_eq_some_iff.mp h0
  obtain ⟨_, _, rfl⟩ := zkt h3
  obtain ⟨s, h2, h4⟩ := Option.bind_eq_some_iff.mp h1
  obtain ⟨k', hk, rfl⟩ := Option.map_eq_some_iff.mp h4
  cases c <;> cases h2
  cases s2 with
   | nil => simp at hl
   | cons hx _ _ hr =>
    obtain ⟨i1, i2, i3⟩ := ih hk hr (by simpa using hl)
    exact ⟨zlC hx i1, by simp [i2], by simp [i3]⟩
end
noncomputable def two? {α : Type} (l : List α) : Option {p : α × α // l = [p.1, p.2]} := match l with
 | [a, b] => some ⟨(a, b), rfl⟩
 | _ => none
noncomputable def nil? {α : Type} (l : List α) : Option {u : Unit // l = []} := match l with
 | [] => some ⟨(), rfl⟩
 | _ => none
noncomputable def zl3 (e : PySem.Expr) : Option {p : Option PySem.Expr × Option PySem.Expr × Option PySem.Expr × Pos // e = .Slice p.1 p.2.1 p.2.2.1 p.2.2.2} := match e with
 | .Slice a b c p => some ⟨(a, b, c, p), rfl⟩
 | _ => none
noncomputable def zjT (e : PySem.Expr) : Option {p : List PySem.Expr × Nat × Pos // e = .Tuple p.1 p.2.1 p.2.2} := match e with
 | .Tuple a b p => some ⟨(a, b, p), rfl⟩
 | _ => none
noncomputable def asSub (e : PySem.Expr) : Option {p : PySem.Expr × PySem.Expr × Pos // e = .Subscript p.1 p.2.1 p.2.2} := match e with
 | .Subscript a b p => some ⟨(a, b, p), rfl⟩
 | _ => none
noncomputable def asLC (e : PySem.Expr) : Option {p : PySem.Expr × List Comprehension × Scope × Pos // e = .ListComp p.1 p.2.1 p.2.2.1 p.2.2.2} := match e with
 | .ListComp a b c p => some ⟨(a, b, c, p), rfl⟩
 | _ => none
noncomputable def asLam (e : PySem.Expr) : Option {p : Arguments × PySem.Expr × Scope × Pos // e = .Lambda p.1 p.2.1 p.2.2.1 p.2.2.2} := match e with
 | .Lambda a b c p => some ⟨(a, b, c, p), rfl⟩
 | _ => none
noncomputable def asStr (e : PySem.Expr) : Option {p : Str × Nat × Pos // e = .Constant (.str p.1) p.2.1 p.2.2} := match e with
 | .Constant c k p => match c with
  | .str x => some ⟨(x, k, p), rfl⟩
  | _ => none
 | _ => none
noncomputable def zl6 (e : PySem.Expr) : Option {p : Const × Nat × Pos // e = .Constant p.1 p.2.1 p.2.2} := match e with
 | .Constant c k p => some ⟨(c, k, p), rfl⟩
 | _ => none
noncomputable def asFmt (e : PySem.Expr) : Option {p : PySem.Expr × Pos // e = .FormattedValue p.1 (-1) none p.2} := match e with
 | .FormattedValue v i o p => match o with
  | none => if h : i = -1 then some ⟨(v, p), by rw [h]⟩ else none
  | _ => none
 | _ => none
noncomputable def zki : X -> Bool
 | .lam .. => true
 | _ => false
section
variable (S : Sta)
noncomputable def GX (cx : Cx) (e : PySem.Expr) (x : X) : Prop := ∀ nd, Hy S nd -> SndX S (zaD S.tab S.gc nd) nd false cx e x /\ SndT S (zaD S.tab S.gc nd) nd false cx e x
noncomputable def GXs (cx : Cx) (es : List PySem.Expr) (xs : List X) : Prop := ∀ nd, Hy S nd -> Sn2 S (zaD S.tab S.gc nd) nd false cx es xs
noncomputable def GAs (cx : Cx) (es : List PySem.Expr) (xs : List X) : Prop := ∀ nd, Hy S nd -> zeS S (zaD S.tab S.gc nd) nd false cx es xs /\ es.all (fun e => !zak e) = true /\ (es = [] -> xs = [])
noncomputable def GPs (cx : Cx) (es : List PySem.Expr) (xs : List X) : Prop := ∀ nd, Hy S nd -> Parts S (zaD S.tab S.gc nd) nd false cx es xs
noncomputable def GS (names : Names) (lam : Bool) (s : Stmt) (x : Mine.Lake.S) : Prop := ∀ nd, Hy S nd -> SndS S (zaD S.tab S.gc nd) nd false names lam s x
structure LcOk (fn : Names) (lam : Bool) (el te it : PySem.Expr) (ifs : List PySem.Expr) (sc : Scope) (t : Tg) (xe xi : X) (xc : Option X) : Prop where
 ok : zc1 fn sc = true
 se : zaX it ≠ 3
 tg : TgOk S sc.names te t
 it : GX S (S.at fn none lam) it xi
 el : GX S (S.at fn (some sc.names)) el xe
 cc : ∀ nd, Hy S nd -> IfsOk S (zaD S.tab S.gc nd) nd (S.at fn (some sc.names)) ifs xc
end
section
variable {S : Sta} {cx : Cx} {e : PySem.Expr} {x : X}
theorem GX.of (h : ∀ nd, Hy S nd -> SndX S (zaD S.tab S.gc nd) nd false cx e x) (ht : ∀ ev whole, isTrue e ev whole = (do let v ← whole; standAt e.pos; holding [v] (truthy v))) : GX S cx e x := fun nd y => ⟨h nd y, zkI (h nd y) ht⟩
theorem GAs.cons {es : List PySem.Expr} {xs : List X} (hs : (!zak e) = true) (hl : (!zki x) = true) (hx : GX S cx e x) (hr : GAs S cx es xs) : GAs S cx (e :: es) (x :: xs) := fun nd y =>
 ⟨zi4 (hx nd y).1 (hr nd y).1 (ze5 hs) (by rintro b v rfl; cases hl), by rw [List.all_cons, (hr nd y).2.1, hs]; rfl, nofun⟩
theorem GX.dct (ok : StaOk S) {ks : List (Option PySem.Expr)} {es : List PySem.Expr} {k : List Str} {xs : List X} {b : Bool} {pos : Pos} (h1 : zhE ks = some k) (h2 : GXs S cx es xs) (hl : decide (k.length = xs.length /\ k.length <= 15 /\ 0 < k.length) = true) : GX S cx (.Dict ks es pos) (.dct b (k.zip xs)) :=
 .of (fun nd y => by
  obtain ⟨l1, l2, l3⟩ := of_decide_eq_true hl
  have s2 := h2 nd y
  obtain ⟨i1, i2, i3⟩ := zoB h1 s2 l1
  exact zkP ok i2 (by rw [i3, l1, s2.plain.2.2]) (by rintro rfl; rw [← i3] at l3; exact absurd l3 (Nat.lt_irrefl 0)) (i3 ▸ l2) i1) fun _ _ => rfl
theorem GX.comp (ok : StaOk S) {fn : Names} {lam : Bool} {el te it : PySem.Expr} {ifs : List PySem.Expr} {sc : Scope} {t : Tg} {xe xi : X} {xc : Option X} {b : Bool} {p : Pos} (h : LcOk S fn lam el te it ifs sc t xe xi xc) : GX S (S.at fn none lam) (.ListComp el [⟨te, it, ifs, 0⟩] sc p) (.comp b xe t xi xc) :=
 .of (fun nd y => zfu ok rfl h.ok (fun ev w => zcc h.se ev w) h.tg (h.it nd y).1 (h.el nd y).1 (h.cc nd y)) fun _ _ => rfl
theorem ziH {i : PySem.Expr} (h : zaX i ≠ 5) : ∀ o j, subscripted i false o j = operate [o, j] (getItem o j) := by
 intro o j
 cases i <;> first | rfl | exact absurd rfl h
theorem zfK {m : Nm} (h : isG m = true) : m = Nm.g := by cases m <;> first | rfl | cases h
theorem zau {a b : Nat} (h : (a != b) = true) : a ≠ b := by simpa using h
end
section
variable {S : Sta} {cx : Cx}
noncomputable def xsOf (f : ∀ e, Option {x : X // GX S cx e x}) : ∀ es, Option {xs : List X // GXs S cx es xs}
 | [] => some ⟨[], fun _ _ => .nil⟩
 | e :: r => chk (!zak e) fun hs => bnd (f e) fun x hx => bnd (xsOf f r) fun xs hr => some ⟨x :: xs, fun nd y => .cons (hx nd y).1 (hx nd y).2 (ze5 hs) (hr nd y)⟩
noncomputable def zmP (f : ∀ e, Option {x : X // GX S cx e x}) : ∀ es, Option {xs : List X // GPs S cx es xs}
 | [] => some ⟨[], fun _ _ => .nil⟩
 | e :: r => bnd (zmP f r) fun xs hr => alt
  (bnd (asStr e) fun p hp => some ⟨.c (.str p.1) :: xs, fun nd y => hp ▸ .cons zgo (hr nd y)⟩)
  (bnd (asFmt e) fun p hp => bnd (f p.1) fun x hx => some ⟨x :: xs, fun nd y => hp ▸ .cons (zjg (hx nd y).1) (hr nd y)⟩)
noncomputable def asOf (ok : StaOk S) {fn : Names} {cs : Option Names} {lam : Bool} (f : ∀ e, Option {x : X // GX S (S.at fn cs lam) e x}) : ∀ es, Option {xs : List X // GAs S (S.at fn cs lam) es xs}
 | [] => some ⟨[], fun _ _ => ⟨zk0, rfl, fun _ => rfl⟩⟩
 | e :: r => bnd (asOf ok f r) fun xs hr => alt
  (bnd (asLam e) fun p hp => match cs, lam, xs, hr with
   | none, true, xs, hr => chk (zfF p.1) fun h1 => chk (zlA fn p.2.2.1) fun h2 => opt (lamX (S.at (zaW fn p.2.2.1.names) none) p.2.1) fun x h3 =>
    some ⟨.lam x (zmd fn p.2.2.1.names 0) :: xs, fun nd y => hp ▸ ⟨zk1 ok h1 h2 h3 (hr nd y).1, by rw [List.all_cons, (hr nd y).2.1]; rfl, nofun⟩⟩
   | _, _, _, _ => none)
  (chk (!zak e) fun hs => bnd (f e) fun x hx => chk (!zki x) fun hl => some ⟨x :: xs, .cons hs hl hx hr⟩)
end
section
variable {S : Sta} (ok : StaOk3 S) (k2 : KOk2 S)
noncomputable abbrev FX (S : Sta) := ∀ (fn : Names) (cs : Option Names) (lam : Bool) (e : PySem.Expr), Option {x : X // GX S (S.at fn cs lam) e x}
structure Lc (S : Sta) (fn : Names) (lam : Bool) (el : PySem.Expr) (gs : List Comprehension) (sc : Scope) where
 te : PySem.Expr
 it : PySem.Expr
 ifs : List PySem.Expr
 t : Tg
 xe : X
 xi : X
 xc : Option X
 e : gs = [⟨te, it, ifs, 0⟩]
 h : LcOk S fn lam el te it ifs sc t xe xi xc
noncomputable def ifsX (f : FX S) (fn : Names) (ns : Names) (ifs : List PySem.Expr) : Option {xc : Option X // ∀ nd, Hy S nd -> IfsOk S (zaD S.tab S.gc nd) nd (S.at fn (some ns)) ifs xc} := alt
 (bnd (nil? ifs) fun _ h => some ⟨none, h ▸ fun _ _ => .no⟩)
 (bnd (one? ifs) fun c hc => bnd (f fn (some ns) false c) fun q hq => some ⟨some q, hc ▸ fun nd y => .yes (hq nd y).2⟩)
noncomputable def lcOf (f : FX S) (fn : Names) (lam : Bool) (el : PySem.Expr) (gs : List Comprehension) (sc : Scope) : Option (Lc S fn lam el gs sc) :=
 bnd (one? gs) fun g hg => match g, hg with
  | ⟨te, it, ifs, 0⟩, hg => chk (zc1 fn sc) fun h1 => chk (zaX it != 3) fun h2 => bnd (tgX S sc.names 9 te) fun t h3 => bnd (f fn none lam it) fun xi h4 => bnd (f fn (some sc.names) false el) fun xe h5 => bnd (ifsX f fn sc.names ifs) fun xc h6 =>
   some ⟨te, it, ifs, t, xe, xi, xc, hg, ⟨h1, zau h2, h3, h4, h5, h6⟩⟩
  | _, _ => none
noncomputable def callX (f : FX S) (fn : Names) (cs : Option Names) (lam : Bool) (y : Str) (q : Pos) (args : List PySem.Expr) (p : Pos) : Option {x : X // GX S (S.at fn cs lam) (.Call (.Name y q) args [] p) x} :=
 opt (nmOf (S.at fn cs lam) y) fun m hm => match m, hm with
  | .v i, hi => bnd (nil? args) fun _ h0 => some ⟨.lcall i, h0 ▸ .of (fun nd y => zgX y.co hi) fun _ _ => rfl⟩
  | .g, hg => alt (opt (za6 S.cx.funs y) fun f0 hf => bnd (asOf ok.toStaOk (f fn cs lam) args) fun xs hx => some ⟨.call f0 xs, .of (fun nd y => ziQ ok k2 y.co hf hg (hx nd y).2.1 (hx nd y).1 (hx nd y).2.2) fun _ _ => rfl⟩)
   (alt (chk (decide (y = Str.ofString "Evaluator")) fun he => bnd (one? args) fun a ha => chk (!zak a) fun hs => bnd (f fn cs lam a) fun x hx => some ⟨.new x, ha ▸ .of (fun nd w => by
     have he := of_decide_eq_true he
     subst he
     exact zgW ok k2 w.no hg (ze5 hs) (hx nd w).1) fun _ _ => rfl⟩)
   (alt (chk (decide (y = Str.ofString "isinstance")) fun he => bnd (two? args) fun a ha => bnd (zbv a.2) fun t ht => opt (tyOf t.1) fun n hn => opt (nmOf (S.at fn cs lam) t.1) fun mt hmt => chk (isG mt) fun hgt => chk (!zak a.1) fun hs => bnd (f fn cs lam a.1) fun x hx => some ⟨.prim .isi [x, .ty n], ha ▸ ht ▸ .of (fun nd w => by
     have he := of_decide_eq_true he
     subst he
     exact zkO ok hg hn (zfK hgt ▸ hmt) (ze5 hs) (hx nd w).1) fun _ _ => rfl⟩)
    (opt (zhi y) fun q0 hq => bnd (xsOf (f fn cs lam) args) fun xs hx => some ⟨.prim (mutP (zhM S.cx p) q0) xs, .of (fun nd w => ziN ok hq hg (hx nd w).plain.1 (hx nd w).xs (hx nd w).plain.2.1) fun _ _ => rfl⟩)))
  | .w _, _ => none
noncomputable def zou (f : FX S) (fn : Names) (cs : Option Names) (lam : Bool) (o : PySem.Expr) (a : Str) (ap : Pos) (args : List PySem.Expr) (p : Pos) : Option {x : X // GX S (S.at fn cs lam) (.Call (.Attribute o a ap) args [] p) x} :=
 chk (zdp o) fun h1 => chk (ap.endLine == p.line) fun h2 => chk (decide (args.length < 20)) fun h3 => bnd (f fn cs lam o) fun x hx => bnd (xsOf (f fn cs lam) args) fun xs hs =>
  alt (alt (opt (za6 S.cx.meths a) fun f0 hf => some ⟨.meth f0 x xs, .of (fun nd w => zft ok k2 w.co hf h1 h2 (of_decide_eq_true h3) (hs nd w).plain.1 (hx nd w).1 (hs nd w).xs (hs nd w).plain.2.1) fun _ _ => rfl⟩)
   (opt (lmOf a) fun q hq => some ⟨.lm q x xs, .of (fun nd w => zmr ok.toStaOk hq h1 h2 (of_decide_eq_true h3) (hs nd w).plain.1 (hx nd w).1 (hs nd w).xs (hs nd w).plain.2.1) fun _ _ => rfl⟩))
   (chk (decide (a = Str.ofString "join")) fun hj => bnd (one? args) fun e he => chk (!zak e) fun hs => bnd (f fn cs lam e) fun y hy => some ⟨.join x y, he ▸ .of (fun nd w => by
    have hj := of_decide_eq_true hj
    subst hj
    exact ziO h1 h2 (ze5 hs) (hx nd w).1 (hy nd w).1) fun _ _ => rfl⟩)
noncomputable def zn6 (f : FX S) (fn : Names) (cs : Option Names) (lam : Bool) (e : PySem.Expr) : Option {x : X // GX S (S.at fn cs lam) e x} := match e with
 | .Constant c k p => opt (zfZ c) fun x h => some ⟨x, .of (fun _ _ => zcG h) fun _ _ => rfl⟩
 | .Name y p => opt (zhy (S.at fn cs lam) y) fun x h => some ⟨x, .of (fun _ _ => zdy ok.toStaOk2 h) fun _ _ => rfl⟩
 | .Tuple es c p => bnd (xsOf (f fn cs lam) es) fun xs h => some ⟨.tup xs, .of (fun nd y => zdx (h nd y).xs) fun _ _ => rfl⟩
 | .List es p => bnd (xsOf (f fn cs lam) es) fun xs h => some ⟨.lst (zhM S.cx p) xs, .of (fun nd y => zkM ok.sm (h nd y).xs) fun _ _ => rfl⟩
 | .Dict ks vs p => opt (zhE ks) fun k h1 => bnd (xsOf (f fn cs lam) vs) fun xs h2 => chk (decide (k.length = xs.length /\ k.length <= 15 /\ 0 < k.length)) fun hl => some ⟨.dct (zhM S.cx p) (k.zip xs), .dct ok.toStaOk h1 h2 hl⟩
 | .BinOp l o r p => opt (opOf o) fun o h => bnd (f fn cs lam l) fun a ha => bnd (f fn cs lam r) fun b hb => some ⟨.op o a b, .of (fun nd y => zkR (zlk ok.toStaOk) h (ha nd y).1 (hb nd y).1) fun _ _ => rfl⟩
 | .UnaryOp o a p => bnd (f fn cs lam a) fun x h => match o with
  | .Not => some ⟨.not x, fun nd y => ⟨zkK (h nd y).1, ziL (h nd y).2⟩⟩
  | .USub => some ⟨.neg x, .of (fun nd y => zkL (h nd y).1) fun _ _ => rfl⟩
  | _ => none
 | .BoolOp o es p => bnd (xsOf (f fn cs lam) es) fun xs h => opt (zgs o xs) fun x hj => some ⟨x, fun nd y => ⟨zgg (h nd y) hj, zeX (h nd y) hj⟩⟩
 | .Compare l os rs p => bnd (f fn cs lam l) fun a ha =>
  (bnd (one? os) fun o ho => bnd (one? rs) fun r hr => chk (zaX r != 3) fun hk => bnd (f fn cs lam r) fun b hb => some ⟨.op (ziv o) a b, ho ▸ hr ▸ fun nd y => ⟨zkQ (zlk ok.toStaOk) (zeF (zau hk) _) (ha nd y).1 (hb nd y).1, ziM (zlk ok.toStaOk) (zeF (zau hk) _) (ha nd y).1 (hb nd y).1⟩⟩)
 | .IfExp t a b p => bnd (f fn cs lam t) fun xt ht => bnd (f fn cs lam a) fun xa ha => bnd (f fn cs lam b) fun xb hb => some ⟨.ite xt xa xb, fun nd y => ⟨zgY (ht nd y).2 (ha nd y).1 (hb nd y).1, zgf (ht nd y).2 (ha nd y).2 (hb nd y).2⟩⟩
 | .JoinedStr ps p => bnd (zmP (f fn cs lam) ps) fun xs h => some ⟨.fstr xs, .of (fun nd y => ziP (h nd y)) fun _ _ => rfl⟩
 | .Subscript v i p => bnd (f fn cs lam v) fun a ha => alt
  (bnd (zl3 i) fun q hq =>
   (opt (intC q.1) fun lo h1 => opt (intC q.2.1) fun hi h2 => chk q.2.2.1.isNone fun h3 => some ⟨.slice a lo hi, hq ▸ .of (fun nd y => by
    rw [Option.isNone_iff_eq_none] at h3
    rw [h3]
    exact zgU (zgL ok.toStaOk ok.ko) h1 h2 (ha nd y).1) fun _ _ => rfl⟩))
  (chk (zaX i != 5) fun hk => bnd (f fn cs lam i) fun b hb => some ⟨.sub a b, .of (fun nd y => zkJ (zgL ok.toStaOk ok.ko) (ziH (zau hk)) (ha nd y).1 (hb nd y).1) fun _ _ => rfl⟩)
 | .Attribute o a p => bnd (zbv o) fun q hq => alt
  (chk (decide (a = Str.ofString "scope")) fun he => opt (zhy (S.at fn cs lam) q.1) fun x h => some ⟨.scope x, hq ▸ .of (fun nd y => by
   have he := of_decide_eq_true he
   subst he
   exact zgV (zgL ok.toStaOk ok.ko) (zdy ok.toStaOk2 h)) fun _ _ => rfl⟩)
  (opt (zcW a) fun b h1 => opt (nmOf (S.at fn cs lam) q.1) fun m hm => match m, hm with
   | .v i, hi => some ⟨.fault i b, hq ▸ .of (fun nd y => zd5 (zgL ok.toStaOk ok.ko) hi h1) fun _ _ => rfl⟩
   | _, _ => none)
 | .ListComp el gs sc p => match cs with
  | none => match lcOf f fn lam el gs sc with
   | some ⟨te, it, ifs, t, xe, xi, xc, he, h⟩ => some ⟨.comp (zhM S.cx p) xe t xi xc, he ▸ .comp ok.toStaOk h⟩
   | none => none
  | some _ => none
 | .Call g args kws p => bnd (nil? kws) fun _ h0 => alt
  (bnd (zbv g) fun q hq => bnd (callX ok k2 f fn cs lam q.1 q.2 args p) fun x h => some ⟨x, h0 ▸ hq ▸ h⟩)
  (bnd (ziy g) fun q hq => bnd (zou ok k2 f fn cs lam q.1 q.2.1 q.2.2 args p) fun x h => some ⟨x, h0 ▸ hq ▸ h⟩)
 | _ => none
noncomputable def toX : Nat -> FX S
 | 0 => fun _ _ _ _ => none
 | n + 1 => zn6 ok k2 (toX n)
end
noncomputable def znT (s : Stmt) : Option {p : PySem.Expr × Pos // s = .Return (some p.1) p.2} := match s with
 | .Return e p => match e with
  | some e => some ⟨(e, p), rfl⟩
  | none => none
 | _ => none
noncomputable def znU (s : Stmt) : Option {p : PySem.Expr × PySem.Expr × Pos // s = .Assign [p.1] p.2.1 p.2.2} := match s with
 | .Assign ts e p => bnd (one? ts) fun t ht => some ⟨(t, e, p), ht ▸ rfl⟩
 | _ => none
section
variable {S : Sta} (ok : StaOk3 S) (k2 : KOk2 S)
noncomputable def simX (fn : Names) (lam : Bool) (e : PySem.Expr) : Option {x : X // ∀ nd, SndX S (zaD S.tab S.gc nd) nd true (S.at fn none lam) e x} := alt
 (bnd (zl6 e) fun p hp => opt (zfZ p.1) fun x h => some ⟨x, hp ▸ fun _ => zcG h⟩)
 (bnd (ziy e) fun a ha => bnd (zbv a.1) fun q hq => opt (zcW a.2.1) fun b h1 => opt (nmOf (S.at fn none lam) q.1) fun m hm => match m, hm with
  | .v i, hi => some ⟨.fault i b, by rw [ha, hq]; exact fun _ => zd5 (zgL ok.toStaOk ok.ko) hi h1⟩
  | _, _ => none)
noncomputable def zkS (fn : Names) (lam : Bool) : ∀ es, Option {xs : List X // ∀ nd, zb0 S (zaD S.tab S.gc nd) nd true (S.at fn none lam) es xs}
 | [] => some ⟨[], fun _ => zb2⟩
 | e :: r => chk (!zak e) fun hs => bnd (simX ok fn lam e) fun x hx => bnd (zkS fn lam r) fun xs hr => some ⟨x :: xs, fun nd => za4 (hx nd) (hr nd) (ze5 hs)⟩
noncomputable def bodyX (fn : Names) (lam : Bool) (b : Stmt) : Option {x : Mine.Lake.S // ∀ nd, zc4 S (zaD S.tab S.gc nd) nd true fn lam [b] [x]} := alt
 (bnd (znT b) fun p hp => bnd (zjT p.1) fun q hq => bnd (zkS ok fn lam q.1) fun xs hx => some ⟨.ret (.tup xs), by rw [hp, hq]; exact fun nd => zdw (zmz (zdx (hx nd))) zgN⟩)
 (bnd (znU b) fun p hp => bnd (zbv p.1) fun y hy => bnd (zjT p.2.1) fun q hq => opt (zbE (S.at fn none lam) (.Name y.1 y.2)) fun i hi => bnd (zkS ok fn lam q.1) fun xs hx =>
  some ⟨.asg i (.tup xs), by rw [hp, hy, hq]; exact fun nd => zdw (zmC (show (2 : Nat) ≠ 1 by decide) hi (zdx (hx nd))) zgN⟩)
noncomputable def zm4 (x : Str) : Option {b : Bool // x = Str.ofString (if b then "LimitFault" else "EvalFault")} :=
 if h : x = Str.ofString "EvalFault" then some ⟨false, h⟩ else if h : x = Str.ofString "LimitFault" then some ⟨true, h⟩ else none
noncomputable def zl4 (e : Option PySem.Expr) : Option {p : Str × Pos // e = some (.Name p.1 p.2)} := match e with
 | some e => bnd (zbv e) fun p hp => some ⟨p, by rw [hp]⟩
 | none => none
noncomputable def zl5 (e : Option PySem.Expr) : Option {p : PySem.Expr × List PySem.Expr × Pos // e = some (.Call p.1 p.2.1 [] p.2.2)} := match e with
 | some e => bnd (zix e) fun p hp => some ⟨p, by rw [hp]⟩
 | none => none
noncomputable def hsOf (fn : Names) (lam : Bool) : ∀ hs, Option {xs : List (Bool × Option Nat × List Mine.Lake.S) // ∀ nd, HsOk S (zaD S.tab S.gc nd) nd fn lam hs xs}
 | [] => some ⟨[], fun _ => .nil⟩
 | .ExceptHandler t nm bs p :: r => bnd (hsOf fn lam r) fun xs hr => bnd (zl4 t) fun y hy => bnd (one? bs) fun b hb => bnd (zm4 y.1) fun lim hl => opt (nmOf (S.at fn none lam) y.1) fun m hm => chk (isG m) fun hg => bnd (bodyX ok fn lam b) fun xb hx => match nm with
  | none => some ⟨(lim, none, [xb]) :: xs, by rw [hy, hb]; exact fun nd => .no hl (zfK hg ▸ hm) (hx nd) (hr nd)⟩
  | some z => opt (zah fn z 0) fun k hk => match k, hk with
   | (i, .local), hk => some ⟨(lim, some i, [xb]) :: xs, by rw [hy, hb]; exact fun nd => .as hl (zfK hg ▸ hm) hk (hx nd) (hr nd)⟩
   | _, _ => none
noncomputable abbrev FS (S : Sta) := ∀ (names : Names) (lam : Bool) (s : Stmt), Option {x : Mine.Lake.S // GS S names lam s x}
noncomputable def ssOf (f : FS S) (names : Names) (lam : Bool) : ∀ b, Option {xs : List Mine.Lake.S // GSs S names lam b xs}
 | [] => some ⟨[], fun _ _ => zgN⟩
 | s :: r => bnd (ssOf f names lam r) fun xs hr => alt (bnd (f names lam s) fun x hx => some ⟨x :: xs, fun nd y => zdw (hx nd y) (hr nd y)⟩) (some ⟨.bad :: xs, fun nd y => zdw zoj (hr nd y)⟩)
noncomputable def tryE (fx : FX S) (names : Names) (lam : Bool) (s : Stmt) : Option {x : Mine.Lake.S // ∀ nd, Hy S nd -> SndE S (zaD S.tab S.gc nd) nd names lam s x} := alt
 (bnd (znT s) fun p hp => bnd (fx names none lam p.1) fun x hx => some ⟨.ret x, hp ▸ fun nd y => e_ret (hx nd y).1⟩)
 (bnd (znU s) fun p hp => bnd (zbv p.1) fun q hq => chk (zaX p.2.1 != 1) fun hk => opt (zbE (S.at names none lam) (.Name q.1 q.2)) fun i hi => bnd (fx names none lam p.2.1) fun x hx => some ⟨.asg i x, by rw [hp, hq]; exact fun nd y => e_asg (zau hk) hi (hx nd y).1⟩)
noncomputable def asgX (fx : FX S) (names : Names) (lam : Bool) (t e : PySem.Expr) (p : Pos) : Option {x : Mine.Lake.S // GS S names lam (.Assign [t] e p) x} := alt
 (bnd (zbv t) fun q hq => opt (zbE (S.at names none lam) (.Name q.1 q.2)) fun i hi => alt
  (chk (zaX e != 1) fun hk => bnd (fx names none lam e) fun x hx => some ⟨.asg i x, hq ▸ fun nd y => zmC (zau hk) hi (hx nd y).1⟩)
  (bnd (asLC e) fun c hc => match lcOf fx names lam c.1 c.2.1 c.2.2.1 with
   | some ⟨te, it, ifs, t, xe, xi, xc, he, h⟩ => some ⟨.asg i (.comp (zhM S.cx c.2.2.2) xe t xi xc), by
     rw [hq, hc, he]
     exact fun nd y => zgh ok.toStaOk hi h.ok (fun ev w => zcc h.se ev w) h.tg (h.it nd y).1 (h.el nd y).1 (h.cc nd y)⟩
   | none => none))
 (alt (bnd (zjT t) fun q hq => opt (zb3 (S.at names none lam) q.1) fun l hl => alt
  (bnd (zjT e) fun r hr => bnd (xsOf (fx names none lam) r.1) fun xs hx => chk (decide (l.length = r.1.length /\ l.Nodup /\ r.1.length <= 8 /\ r.1.all (constantsAlone 8) = false)) fun hh => some ⟨.asgs l xs, by
   rw [hq, hr]
   have hh := of_decide_eq_true hh
   exact fun nd y => zmB hl hh.1 hh.2.1 hh.2.2.1 hh.2.2.2 (hx nd y).xs⟩)
  (chk (zaX e != 2) fun h2 => chk (zaX e != 1) fun h1 => bnd (fx names none lam e) fun x hx => some ⟨.unp l x, hq ▸ fun nd y => zof (zau h2) (zau h1) hl (hx nd y).1⟩))
 (bnd (asSub t) fun q hq => chk (zaX e != 1) fun hk => bnd (fx names none lam q.1) fun o ho => bnd (fx names none lam q.2.1) fun k hk' => bnd (fx names none lam e) fun x hx => some ⟨.seti o k x, hq ▸ fun nd y => zmy ok.toStaOk (zau hk) (ho nd y).1 (hk' nd y).1 (hx nd y).1⟩))
noncomputable def zn7 (fx : FX S) (f : FS S) (names : Names) (lam : Bool) (s : Stmt) : Option {x : Mine.Lake.S // GS S names lam s x} := match s with
 | .Assign ts e p => bnd (one? ts) fun t ht => bnd (asgX ok fx names lam t e p) fun x hx => some ⟨x, ht ▸ hx⟩
 | .Expr e p => chk (zaX e != 1) fun hk => bnd (fx names none lam e) fun x hx => some ⟨.ex x, fun nd y => s_ex (zau hk) (hx nd y).1⟩
 | .Return e p => match e with
  | some e => bnd (fx names none lam e) fun x hx => some ⟨.ret x, fun nd y => zmz (hx nd y).1⟩
  | none => none
 | .If t a b p => bnd (fx names none lam t) fun x hx => bnd (ssOf f names lam a) fun xa ha => bnd (ssOf f names lam b) fun xb hb => some ⟨.ite x xa xb, fun nd y => zoh (hx nd y).2 (ha nd y) (hb nd y)⟩
 | .For t it b e p => bnd (nil? e) fun _ h0 => bnd (tgX S names 9 t) fun tg htg => bnd (ssOf f names lam b) fun xb hb =>
  (chk (zaX it != 3) fun hk => bnd (fx names none lam it) fun x hx => some ⟨.for tg x xb, h0 ▸ fun nd y => zoi (fun ev w => zcc (zau hk) ev w) htg (hx nd y).1 (hb nd y)⟩)
 | .While t b e p => bnd (nil? e) fun _ h0 => bnd (fx names none lam t) fun x hx => bnd (ssOf f names lam b) fun xb hb => some ⟨.while x xb, h0 ▸ fun nd y => zk2 (hx nd y).2 (hb nd y)⟩
 | .Continue p => some ⟨.cont, fun nd y => zmA⟩
 | .Raise e c p => match c with
  | none => bnd (zl5 e) fun q hq => bnd (zbv q.1) fun z hz => bnd (zm4 z.1) fun lim hl => opt (nmOf (S.at names none lam) z.1) fun m hm => chk (isG m) fun hg => bnd (xsOf (fx names none lam) q.2.1) fun xs hx => some ⟨.raise lim xs, by
    rw [hq, hz]
    exact fun nd y => zk3 ok k2 y.xm hl (zfK hg ▸ hm) (hx nd y).plain.1 (hx nd y).xs (hx nd y).plain.2.1⟩
  | some _ => none
 | .Try b hs e g p => bnd (one? b) fun b hb => bnd (nil? e) fun _ h0 => bnd (nil? g) fun _ h1 => bnd (tryE fx names lam b) fun x hx => match hs with
  | [] => none
  | h :: hs => bnd (hsOf ok names lam (h :: hs)) fun xs ho => some ⟨.try [x] xs, by
    rw [hb, h0, h1]
    exact fun nd y => zog ok k2 (hx nd y) (ho nd)⟩
 | _ => none
noncomputable def toS (fx : FX S) : Nat -> FS S
 | 0 => fun _ _ _ => none
 | n + 1 => zn7 ok k2 fx (toS fx n)
noncomputable def toSs (names : Names) (lam : Bool) (b : List Stmt) : Option {xs : List Mine.Lake.S // GSs S names lam b xs} := ssOf (toS ok k2 (toX ok k2 20) 12) names lam b
theorem zae {names : Names} {lam : Bool} {b : List Stmt} {xs : List Mine.Lake.S} (h : (toSs ok k2 names lam b).map (·.1) = some xs) : GSs S names lam b xs := by
 obtain ⟨a, _, rfl⟩ := Option.map_eq_some_iff.mp h
 exact a.2
end
set_option backward.match.sparseCases true
section
variable {prog : Program} {w : World} {A : Around} {s : Shared} {K : Frag} {x C dx : Addr} {R : Result -> Shared -> Prop}
open PySem.Builtin PySem.Builtin.ObjectAttr
theorem zho {ox od od' : Obj} {name : Str} {tk : Tok} {v : Value} {es : List DictEntry} {n : Nat} (X : K.In s.heap) (I : InstAt s.heap x ox C (some od)) (hd : ox.dict = some dx) (D : s.heap.get? dx = some od) (hp : plainOver K C = true) (ht : takerIn K C name = some none) (hh : (clsIn K C).any (·.hasDict) = true)
  (hl : (lookIn name od).isSome = true) (e : Obj.putName name (PyData.keyHash w.params name) (.str name s.toks) v od = od') (e' : od'.data = .dict es.toArray n) (hz : es.length <= 1000)
  (h : ∀ h', h'.get? dx = some od' -> (∀ b, b ≠ dx -> h'.get? b = s.heap.get? b) -> R (.ok (.ret .none)) { s with heap := h', toks := s.toks + 1 }) :
  codeAny (model prog w) A (.call (.builtin "object.__setattr__") ⟨[.ref x, .str name tk, v], []⟩) R s := by
 refine osa_open X I hp ht fun b => ?_
 obtain ⟨cd, hc, hd'⟩ := any_some hh
 have D' : (s.heap.update dx (Obj.putName name (PyData.keyHash w.params name) (.str name s.toks) v)).get? dx = some od' := e ▸ Heap.get?_update_self _ D (by rw [e]; obtain ⟨_, _, dd, _⟩ := od'; cases e'; rfl)
 have U2 : ∀ b, b ≠ dx -> (s.heap.update dx (Obj.putName name (PyData.keyHash w.params name) (.str name s.toks) v)).get? b = s.heap.get? b := fun b q => Heap.get?_update_ne _ _ _ _ q
 obtain ⟨hx, hcl, hn, -⟩ := I
 obtain ⟨oc, odi, oda, osl⟩ := ox
 dsimp only at hcl hd
 subst hcl hd
 refine wpAny_bind (wpAny_pure (wpAny_bind (wpAny_bind (wpAny_loadPart hx (wpAny_bind ((looks_clsIn X hc).here ?_))))))
 rw [hd']
 refine wpAny_pure (a := some dx) (wpAny_bind (wpAny_pure (wpAny_bind ?_)))
 unfold nsSet
 refine wpAny_bind (wpAny_bind (wpAny_askSetting (wpAny_pure (wpAny_bind (wpAny_mkText (wpAny_bind (wpAny_loadPart D ?_)))))))
 unfold lookIn at hl
 split at hl
 ·rename_i es₀ n₀ q
  rw [q]
  dsimp only
  have c : (!es₀.any (·.key.isStr name) && es₀.any (·.refKey)) = false := by
   rw [← Array.any_toList, ← Array.any_toList]
   split at hl
   ·rename_i en he
    rw [List.any_eq_true.mpr ⟨en, List.mem_of_find?_eq_some he, List.find?_some he⟩]; rfl
   ·split at hl
    ·cases hl
    ·rename_i z; rw [Bool.not_eq_true] at z; rw [z, Bool.and_false]
  rw [aRefKeyMayBeTheName_at, c]
  refine wpAny_updatePart D ?_
  refine wpAny_bind (wpAny_lookBehind D' (by rw [e']; exact pastItsLine_dict (by rw [List.size_toArray, sizeLine_eq]; omega)) ?_)
  exact wpAny_pure (h _ D' U2)
 ·cases hl
end
inductive NewIn (S : Sta) : Prop
 | mk (f : Addr) (oc : Value) (od : Option Addr) (fd : FuncData) (osl : Array (Option Value)) (a b : Str) (q1 q2 q3 q4 : Pos) (h1 : makesIn S.K S.cev = true) (h2 : plainOver S.K S.cev = true) (h3 : (clsIn S.K S.cev).any (·.hasDict) = true) (h4 : takerIn S.K S.cev (Str.ofString "scope") = some none) (h5 : findIn S.K (.ref S.cev) "__setattr__" = some (some (.builtin "object.__setattr__")))
  (k1 : findIn S.K (.ref S.cev) "__init__" = some (some (.ref f))) (k2 : typeIn S.K (.ref f) = some (.type "function")) (k3 : S.K.lookup f = some ⟨oc, od, .func fd, osl⟩) (k4 : fd.scope.kind = .function) (k5 : fd.scope.isCoroutine = false) (k6 : fd.scope.isGenerator = false) (k7 : codeIn S.K fd.code fd.qualname = true)
  (k8 : zb6 fd.params = true) (k9 : fd.closure = []) (k10 : fd.defaults = .none) (k11 : fd.params.args.map (·.arg) = [a, b]) (k12 : fd.body = .stmts [.Assign [.Attribute (.Name a q1) (Str.ofString "scope") q2] (.Name b q3) q4]) (k13 : a ≠ b) (k14 : fd.scope.names.lookup a = some .local) (k15 : fd.scope.names.lookup b = some .local) (k16 : badN a = false) (k17 : badN b = false)
section
variable {S : Sta} {nd : Nat}
theorem zgb (A : Around) (C : Addr) (l : List Value) : A.under (.builtin "type.__call__" ⟨.ref C :: l, []⟩) = { A with depth := A.depth + 1, units := A.units + 1 } := by
 obtain ⟨a, b, c, d, e⟩ := A
 rfl
theorem zhv (ok : StaOk S) (hn : NewIn S) : NewOk S nd := by
 obtain ⟨f, oc, od, fd, osl, na, nb, q1, q2, q3, q4, h1, h2, h3, h4, h5, k1, k2, k3, k4, k5, k6, k7, k8, k9, k10, k11, k12, k13, k14, k15, k16, k17⟩ := hn
 refine ⟨fun {A env outer L g σ s sc v Ev} c I r hk => ?_⟩
 have X := kIn ok I
 obtain ⟨h, gs, d, t, os⟩ := s
 refine wpAny_call ?_
 refine make_core (makes_of X h1) (looks_findIn X k1) (fun self => bind_fn X self k2) (.inl rfl) ?_
 rw [zgb]
 have kp0 : ∀ b o, h.get? b = some o -> ((h.push emptyDict).push (instObj S.cev h.objs.size)).get? b = some o := fun b o e => Heap.get?_push_of_some _ (Heap.get?_push_of_some _ e)
 have gx : ((h.push emptyDict).push (instObj S.cev h.objs.size)).get? (h.objs.size + 1) = some (instObj S.cev h.objs.size) := by heap_get
 have gd : ((h.push emptyDict).push (instObj S.cev h.objs.size)).get? h.objs.size = some emptyDict := Heap.get?_push_of_some _ (Heap.get?_push_at rfl rfl)
 generalize hH : (h.push emptyDict).push (instObj S.cev h.objs.size) = H at kp0 gx gd ⊢
 have X1 : S.K.In H := fun b o e => kp0 b o (X b o e)
 have hlen : fd.params.args.length = 2 := by have := congrArg List.length k11; simpa using this
 have hbs : (fd.params.args.map (·.arg)).zip [Value.ref (h.objs.size + 1), v] = [(na, .ref (h.objs.size + 1)), (nb, v)] := by rw [k11]; rfl
 have hbind := zbB (vs := [.ref (h.objs.size + 1), v]) k8 k10 (by rw [k11]; simp [k13]) hlen
 rw [hbs] at hbind
 refine codeAny_call_cells (by have := c.depth; show A.depth + 1 < _; omega) (X1 _ _ k3) rfl (ok.nolimit.keeps fun b o e => kp0 _ _ (I.stays b o e)) (codeRec_of X1 k7) k12 hbind k9 (fun y hy => ?_) (fun s1 x => ?_) k5 k6 k4
 ·simp only [List.mem_cons, List.not_mem_nil, or_false] at hy
  rcases hy with rfl | rfl
  ·exact .inl k14
  ·exact .inl k15
 generalize hE : callEnvC fd H.objs.size f = ev at x ⊢
 have ekf : ev.scope.kind = .function := by rw [← hE]; exact k4
 have ea : ev.kindOf na = some .local := by rw [← hE]; exact k14
 have eb : ev.kindOf nb = some .local := by rw [← hE]; exact k15
 have X2 : S.K.In s1.heap := fun b o e => x.toInCall.keep b o (X1 b o e)
 have va : bindL ev.kindOf [(na, .ref (h.objs.size + 1)), (nb, v)] (fun _ => none) na = some (.ref (h.objs.size + 1)) := by
  simp only [bindL, ea, eb, if_true]
  rw [if_neg k13]
 have vb : bindL ev.kindOf [(na, .ref (h.objs.size + 1)), (nb, v)] (fun _ => none) nb = some v := by
  simp only [bindL, ea, eb, if_true]
 refine wpAny_execs_cons (plainObj_wpAny_Assign_Attribute (NameLC x ekf eb vb (NameLC x ekf ea va ?_ (by unfold badN at k16; exact (Bool.or_eq_false_iff.mp k16).1)) (by unfold badN at k17; exact (Bool.or_eq_false_iff.mp k17).1)))
 have gx2 := x.toInCall.keep _ _ gx
 have gd2 := x.toInCall.keep _ _ gd
 have II : InstAt s1.heap (h.objs.size + 1) (instObj S.cev h.objs.size) S.cev (some emptyDict) := ⟨gx2, rfl, rfl, gd2⟩
 refine set_plain X2 II h5 (zho (s := { s1 with toks := s1.toks + 1 }) (od' := dictOf [⟨PyData.keyHash S.w.params (Str.ofString "scope"), .str (Str.ofString "scope") (s1.toks + 1), v⟩] 1) X2 II rfl gd2 h2 h4 h3 rfl rfl rfl (by show 1 <= 1000; decide) fun h' g1 g2 => ?_)
 refine wpAny_execs_nil ⟨rfl, ?_⟩
 obtain ⟨hs, ts, es⟩ := x.toInCall.same
 have ndx : h.get? h.objs.size = none := Heap.get?_none_of_le (Nat.le_refl _)
 have nx : h.get? (h.objs.size + 1) = none := Heap.get?_none_of_le (Nat.le_succ _)
 have kp : ∀ b o, h.get? b = some o -> h'.get? b = some o := fun b o e => (g2 b (Nat.ne_of_lt (Heap.lt_size e))).trans (x.toInCall.keep b o (kp0 b o e))
 obtain ⟨I1, E1⟩ := I.keeps kp
 obtain ⟨I2, E2, U2⟩ := Inv.seal (k := .fz) E1 I1 ndx (I.ot _ ndx) (fun _ _ _ e => e) g1
 have gx3 : h'.get? (h.objs.size + 1) = some (instObj S.cev h.objs.size) := (g2 _ (Nat.succ_ne_self _)).trans gx2
 obtain ⟨I3, E3, U3⟩ := Inv.seal (k := .fz) E2 I2 nx ((if_neg (Nat.succ_ne_self _)).trans (I.ot _ nx)) (fun _ _ _ e => e) gx3
 refine ⟨.evr sc, σ, _, ⟨rfl, rfl⟩, E3, I3, ?_, ?_⟩
 ·exact .evr (if_pos rfl) ((if_neg (Nat.ne_of_lt (Nat.lt_succ_self _))).trans (if_pos rfl)) gx3 g1 rfl rfl (r.mono E3.up)
 ·rw [es]; exact ⟨rfl, rfl, rfl⟩
end
theorem slot_wd_get : Slot "wrapper_descriptor" "__get__" "wrapper_descriptor.__get__" := .of (owner := "wrapper_descriptor") (n := "__get__") (by rw [typeLookup_type, builtinLookup_eq_fast]; kernel_rfl) (by decide +kernel) (by decide +kernel) (by decide +kernel)
 (by first | exact .inl (by decide +kernel) | exact .inr (by decide +kernel)) (by rw [isSubtype_type]; kernel_rfl)
theorem zeB : entryFor table "wrapper_descriptor.__get__" = some Builtin.«wrapper_descriptor.__get__» := entryFor_of_tree (by kernel_rfl)
theorem zfn (a b c : Value) : argsOk "wrapper_descriptor.__get__" ⟨[a, b, c], []⟩ := by unfold argsOk; kernel_rfl
theorem zdt : typeOf (.builtin "Exception.__init__") = pure (.type "wrapper_descriptor") := by kernel_rfl
section
variable {prog : Program} {w : World} {A : Around} {E : Value -> Shared -> Prop} {h : Heap} {g : Array GenState} {d : Drawn} {t : Nat} {os : OsState}
theorem zlh : ".".intercalate ("Exception.__init__".cutAt '.').dropLast = "Exception" := by decide +kernel
theorem zl9 {x C C' : Addr} {ox : Obj} {Q : Fin -> Shared -> Prop} (hx : h.get? x = some ox) (hc : ox.cls = .ref C) (hs : Looks (model prog w) h (isSubtype (.ref C) (.type "Exception")) true)
  (hq : Q (.done (.ret (.ref h.objs.size))) ⟨h.push { cls := .type "method-wrapper", data := .fields #[.builtin "Exception.__init__", .ref x] }, g, d, t, os⟩) :
  wpAny (model prog w) A (Builtin.«wrapper_descriptor.__get__» ⟨[.builtin "Exception.__init__", .ref x, .ref C'], []⟩) Q E ⟨h, g, d, t, os⟩ := by
 have e := zlh
 unfold Builtin.«wrapper_descriptor.__get__»
 repeat (first | (with_reducible refine wpAny_loadPart_at hx ?_; rw [hc]) | (with_reducible refine Looks.at hs ?_) | rw [e] | wp_step)
 all_goals exact hq
theorem zd3 {ox : Obj} {so D x C : Addr} {l₀ l : List Value} {K : Frag} {name : Str} {tk : Tok} {Q : Fin -> Shared -> Prop}
  (hso : h.get? so = some { cls := .type "super", dict := none, data := .fields #[.ref D, .ref x, .ref C], slots := #[] }) (hno : Looks (model prog w) h (opaqueClassAbove (.ref C)) none)
  (hC : Looks (model prog w) h (mroOf (.ref C)) l₀) (hl : (l₀.dropWhile (· != .ref D)).drop 1 = l) (X : K.In h)
  (hf : alongIn K name l = some (some (.builtin "Exception.__init__"))) (hx : h.get? x = some ox) (hc : ox.cls = .ref C) (hs : Looks (model prog w) h (isSubtype (.ref C) (.type "Exception")) true) (hxC : x ≠ C) (hn : (name == ("__class__" : Str)) = false)
  (hq : Q (.done (.ret (.ref h.objs.size))) ⟨h.push { cls := .type "method-wrapper", data := .fields #[.builtin "Exception.__init__", .ref x] }, g, d, t, os⟩) :
  wpAny (model prog w) A (Builtin.«super.__getattribute__» ⟨[.ref so, .str name tk], []⟩) Q E ⟨h, g, d, t, os⟩ := by
 have hlk := slot_wd_get.lookup
 have hty := zdt
 have hne : (Value.ref x == Value.ref C) = false := by simp [hxC]
 have hT : (⟨h, g, d, t, os⟩ : Shared).TypeIs (.builtin "Exception.__init__") "wrapper_descriptor" := hty
 have hdt : ({ cls := .type "super", dict := none, data := .fields #[.ref D, .ref x, .ref C], slots := #[] } : Obj).data = .fields #[.ref D, .ref x, .ref C] := rfl
 have f0 : (#[.ref D, .ref x, .ref C] : Array Value)[0]? = some (.ref D) := rfl
 have f1 : (#[.ref D, .ref x, .ref C] : Array Value)[1]? = some (.ref x) := rfl
 have f2 : (#[.ref D, .ref x, .ref C] : Array Value)[2]? = some (.ref C) := rfl
 unfold Builtin.«super.__getattribute__»
 repeat (first
  | (with_reducible refine wpAny_field hso hdt f0 ?_) | (with_reducible refine wpAny_field hso hdt f1 ?_) | (with_reducible refine wpAny_field hso hdt f2 ?_)
  | (with_reducible refine ks_wpAny_notOpaque hno ?_)
  | (with_reducible refine Looks.at hC ?_; rw [hl])
  | (refine ks_forIn_along X (fun _ _ => rfl) rfl ?_ hf)
  | (with_reducible refine wpAny_typeOf hT ?_)
  | (with_reducible refine wpAny_call_entry slot_wd_get hT zeB ?_ (zfn _ _ _))
  | (with_reducible refine ⟨_, rfl, ?_⟩)
  | (with_reducible refine zl9 hx hc hs ?_)
  | (simp only [hn, hne, Bool.or_false, Bool.false_eq_true, if_false])
  | wp_step
  | dsimp only)
 all_goals exact hq
end
section
variable {prog : Program} {w : World} {A : Around} {E : Value -> Shared -> Prop} {h : Heap} {g : Array GenState} {d : Drawn} {t : Nat} {os : OsState}
theorem zdN {ox : Obj} {so D x C : Addr} {l₀ l : List Value} {K : Frag} {name : Str} {pl : Sem Bool} {Q : Value × List Value -> Shared -> Prop}
  (hso : h.get? so = some { cls := .type "super", dict := none, data := .fields #[.ref D, .ref x, .ref C], slots := #[] }) (hno : Looks (model prog w) h (opaqueClassAbove (.ref C)) none)
  (hC : Looks (model prog w) h (mroOf (.ref C)) l₀) (hl : (l₀.dropWhile (· != .ref D)).drop 1 = l) (X : K.In h)
  (hf : alongIn K name l = some (some (.builtin "Exception.__init__"))) (hx : h.get? x = some ox) (hc : ox.cls = .ref C) (hs : Looks (model prog w) h (isSubtype (.ref C) (.type "Exception")) true) (hxC : x ≠ C) (hn : (name == ("__class__" : Str)) = false)
  (hq : Q (.ref h.objs.size, []) ⟨h.push { cls := .type "method-wrapper", data := .fields #[.builtin "Exception.__init__", .ref x] }, g, d, t + 1, os⟩) :
  wpAny (model prog w) A (getMethod (.ref so) name pl) Q E ⟨h, g, d, t, os⟩ := by
 have hlk := F.ks_slot_super_ga.lookup
 have hcan := F.ks_canon_super_ga
 have hT : ∀ t', (⟨h, g, d, t', os⟩ : Shared).TypeIs (.ref so) "super" := fun _ => ⟨_, hso, rfl⟩
 unfold getMethod
 refine wpAny_bind (wpAny_specialOf (hT _) hlk ?_)
 show wpAny _ _ (if (Manifest.canonical "super.__getattribute__" != "object.__getattribute__") = true then _ else _) _ _ _
 rw [if_pos hcan]
 unfold getAttr getAttrBy
 refine wpAny_bind (wpAny_bind (wpAny_mkText (wpAny_holding (wpAny_bind (wpAny_typeOf (hT _) (wpAny_bind (wpAny_of_eq hlk ?_)))))))
 show wpAny _ _ (getAttrByItsOwn (.ref so) (.str name t) (.type "super") (.builtin "super.__getattribute__") true false) _ _ _
 unfold getAttrByItsOwn hookBefore callGetattribute boundAndCalled
 refine wpAny_bind (wpAny_of_eq (show (if onTheHeap (.type "super") then typeLookup (.type "super") "__getattr__" else pure none) = pure none from rfl) ?_)
 refine wpAny_bind (wpAny_attempt (wpAny_holding ?_))
 show wpAny _ _ (bindSpecial (.builtin "super.__getattribute__") (.ref so) >>= _) _ _ _
 refine wpAny_bind (wpAny_of_eq (F.ks_slot_super_ga.bind _) ?_)
 refine wpAny_mono (Q := fun v s' => v = .ref h.objs.size /\ s' = ⟨h.push { cls := .type "method-wrapper", data := .fields #[.builtin "Exception.__init__", .ref x] }, g, d, t + 1, os⟩) (E := fun _ _ => False)
  (wpAny_call_entry F.ks_slot_super_ga (hT _) F.ks_entry_super_ga (zd3 hso hno hC hl X hf hx hc hs hxC hn ⟨_, rfl, rfl, rfl⟩) (F.ks_gaArgs_super _ _)) (fun v s' hv => ?_) fun _ _ z => z.elim
 obtain ⟨rfl, rfl⟩ := hv
 exact wpAny_pure (wpAny_pure hq)
theorem ziw {M : Model} {x C : Addr} {b : Value} {ox oC : Obj} {cd : ClassData} {Q : Unit -> Shared -> Prop} (hx : h.get? x = some ox) (hc : ox.cls = .ref C) (hC : h.get? C = some oC) (hcd : oC.data = .cls cd) (hq : Q () ⟨h, g, d, t, os⟩) : wpAny M A (checkBoundCall "Exception.__init__" ⟨[.ref x, b], []⟩) Q E ⟨h, g, d, t, os⟩ := by
 have F := PySem.F.excCall_Exception
 obtain ⟨oc, od, oda, osl⟩ := oC
 dsimp only at hcd
 subst hcd
 simp only [checkBoundCall, F.initKind, F.initRow]
 repeat (first | (with_reducible refine wpAny_loadPart_at hx ?_; rw [hc]) | (with_reducible refine wpAny_loadPart_at hC ?_) | wp_step)
 all_goals exact hq
theorem zlS {x t0 : Addr} {ox : Obj} {vs : Array Value} {v : Value} {Q : Fin -> Shared -> Prop} (hx : h.get? x = some ox) (hd : ox.data = .fields vs) (h0 : vs[0]? = some (.ref t0))
  (hq : ∀ h', h'.get? x = some { ox with data := .fields (vs.setIfInBounds 0 (.ref h.objs.size)) } -> (∀ b o, b ≠ x -> h.get? b = some o -> h'.get? b = some o) -> Q (.done (.ret .none)) ⟨h', g, d, t, os⟩) :
  wpAny (model prog w) A (Builtin.«BaseException.__init__» ⟨[.ref x, v], []⟩) Q E ⟨h, g, d, t, os⟩ := by
 unfold Builtin.«BaseException.__init__»
 dsimp only
 rw [if_neg (by simp)]
 unfold newTuple Builtin.BaseException.bexcPut
 have hsz : 0 < vs.size := (Array.getElem?_eq_some_iff.mp h0).1
 have hx₁ := Heap.get?_push_of_some (h := h) { cls := .type "tuple", data := .seq #[v] } hx
 refine wpAny_bind (wpAny_newObj_type (wpAny_bind (wpAny_bind (wpAny_field hx₁ hd h0 (wpAny_bind (wpAny_setField hx₁ hd hsz ?_))))) (by size_fits))
 refine wpAny_letGo (wpAny_pure (hq _ ?_ fun b o hb e => ?_))
 ·rw [Heap.get?_update_self _ hx₁ (Obj.isFreed_of_fields (Obj.data_mapFields hd _)), zcm hd]
 ·rw [Heap.get?_update_other _ _ (Ne.symm hb)]
  exact Heap.get?_push_of_some _ e
theorem zjQ {x t0 m C : Addr} {ox oC : Obj} {cd : ClassData} {vs : Array Value} {v : Value} {Q : Value -> Shared -> Prop} (hm : h.get? m = some { cls := .type "method-wrapper", data := .fields #[.builtin "Exception.__init__", .ref x] }) (hx : h.get? x = some ox) (hc : ox.cls = .ref C) (hC : h.get? C = some oC) (hcd : oC.data = .cls cd) (hd : ox.data = .fields vs) (h0 : vs[0]? = some (.ref t0))
  (hq : ∀ h', h'.get? x = some { ox with data := .fields (vs.setIfInBounds 0 (.ref h.objs.size)) } -> (∀ b o, b ≠ x -> h.get? b = some o -> h'.get? b = some o) -> Q .none ⟨h', g, d, t, os⟩) :
  wpAny (model prog w) A (call (.ref m) [v]) Q E ⟨h, g, d, t, os⟩ := by
 have F := PySem.F.excCall_Exception
 refine wpAny_call (codeAny_of_tree ?_)
 show wpAny _ _ (callAny (.ref m) ⟨[v], []⟩) _ _ _
 unfold callAny
 refine wpAny_bind (wpAny_load hm ?_)
 dsimp only
 rw [if_pos (by decide)]
 refine wpAny_bind (ziw hx hc hC hcd (wpAny_pure ⟨Code.quiet_builtin _ (by decide +kernel), ?_⟩))
 exact codeAny_builtin F.initEntry (zlS hx hd h0 hq)
theorem zgr {M : Model} {m x : Addr} (hm : h.get? m = some { cls := .type "method-wrapper", data := .fields #[.builtin "Exception.__init__", .ref x] }) : Looks M h (keeperOf (.ref m)) .machine := by
 unfold keeperOf
 exact (Looks.ld hm).andThen .now
end
set_option backward.match.sparseCases false
noncomputable def refB : Value -> Bool
 | .ref _ => true
 | _ => false
noncomputable def zaz : List Value -> Bool
 | [] => false
 | v :: r => if refB v then zaz r else decide (v :: r = [.type "Exception", .type "BaseException", .type "object"])
theorem zcY {P : List Value -> Prop} (h0 : P [.type "Exception", .type "BaseException", .type "object"]) (hs : ∀ c r, P r -> P (.ref c :: r)) {l : List Value} (e : zaz l = true) : P l := by
 induction l with
 | nil => cases e
 | cons v r ih =>
  cases q : refB v with
  | true => cases v <;> first | (cases q; done) | exact hs _ _ (ih e)
  | false => exact (of_decide_eq_true ((if_neg (by rw [q]; decide)).symm.trans e)) ▸ h0
theorem zbA (self : Value) {l : List Value} (h : zaz l = true) : refuseLoop self "__setattr__" l = pure () /\ l.contains (.type "object") = true /\ l.contains (.type "Exception") = true /\ l.isEmpty = false :=
 zcY (P := fun l => refuseLoop self "__setattr__" l = pure () /\ l.contains (.type "object") = true /\ l.contains (.type "Exception") = true /\ l.isEmpty = false)
  ⟨PySem.F.store_Exception.passes self, by decide, by decide, rfl⟩
  (fun c r ⟨h1, h2, h3, h4⟩ => ⟨(refuseLoop_ref _ _ _ _).trans h1, by rw [List.contains_cons, h2, Bool.or_true], by rw [List.contains_cons, h3, Bool.or_true], rfl⟩) h
section
variable {prog : Program} {w : World} {A : Around} {s : Shared} {K : Frag} {x C dx : Addr} {R : Result -> Shared -> Prop}
open PySem.Builtin PySem.Builtin.ObjectAttr
theorem zck {ox : Obj} {name : Str} {tk : Tok} {v : Value} {cd : ClassData} (X : K.In s.heap) (hx : s.heap.get? x = some ox) (hcl : ox.cls = .ref C) (hc : clsIn K C = some cd) (hp : zaz cd.mro = true) (ht : takerIn K C name = some none)
  (h : ∀ b, wpAny (model prog w) A.in1 (storeInOwnDict (.ref x) (.ref C) (.str name tk) name v b)
   (fun fin s' => match fin with | .done f => R (.ok f) s' | .again c' => c'.quiet = true /\ codeAny (model prog w) A c' R s') (fun e s' => R (.error e) s') s) :
  codeAny (model prog w) A (.call (.builtin "object.__setattr__") ⟨[.ref x, .str name tk, v], []⟩) R s := by
 have SF := PySem.F.store_object
 obtain ⟨ho, ho2, _, ne⟩ := zbA (.ref x) hp
 have ty : Looks (model prog w) s.heap (typeOf (.ref x)) (.ref C) := hcl ▸ (Looks.ld hx).andThen .now
 have sub : Looks (model prog w) s.heap (isInstance (.ref x) (.type "object")) true := ty.andThen (looks_mroIn X (by unfold mroIn; rw [hc, Option.bind_some, if_neg (by rw [ne]; decide), ho2]))
 refine codeAny_call_builtin SF.slot.plain SF.entry (@check_slot (model prog w) _ _ s "object.__setattr__" "object" "__setattr__" (.ref x) [.str name tk, v] [] _ SF.kind SF.split sub (SF.args (.ref x) (.str name tk) v) ?_)
 obtain ⟨attr, ha, hr⟩ := Option.bind_eq_some_iff.mp ht
 have hm : Looks (model prog w) s.heap (mroOf (.ref C)) cd.mro := (looks_clsIn X hc).andThen .now
 have L3 : Looks (model prog w) s.heap (storeTaker? attr) none := by
  cases attr with
  | none => cases hr; exact .now
  | some a =>
   obtain ⟨b, hb, hr⟩ := Option.map_eq_some_iff.mp hr
   refine (looks_takesIn X hb).andThen ?_
   cases b <;> first | exact .now | cases hr
 rw [osa_eq, refuse_eq]
 refine wpAny_bind (wpAny_bind (ty.here (wpAny_bind (hm.here ?_))))
 rw [ho]
 refine wpAny_pure (wpAny_bind (ty.here (wpAny_bind ((looks_findIn X ha).here (wpAny_bind (L3.here ?_))))))
 exact h _
theorem zfz {A : Around} {E : Value -> Shared -> Prop} {od od' : Obj} {name : Str} {tk : Tok} {v : Value} {es : List DictEntry} {n : Nat} {Q : Fin -> Shared -> Prop} (D : s.heap.get? dx = some od) (hl : (lookIn name od).isSome = true) (e : Obj.putName name (PyData.keyHash w.params name) (.str name s.toks) v od = od') (e' : od'.data = .dict es.toArray n) (hz : es.length <= 1000)
  (h : ∀ h', h'.get? dx = some od' -> (∀ b, b ≠ dx -> h'.get? b = s.heap.get? b) -> Q (.done (.ret .none)) { s with heap := h', toks := s.toks + 1 }) : wpAny (model prog w) A (storeInDict dx (.str name tk) name v) Q E s := by
 have D' : (s.heap.update dx (Obj.putName name (PyData.keyHash w.params name) (.str name s.toks) v)).get? dx = some od' := e ▸ Heap.get?_update_self _ D (by rw [e]; obtain ⟨_, _, dd, _⟩ := od'; cases e'; rfl)
 have U2 : ∀ b, b ≠ dx -> (s.heap.update dx (Obj.putName name (PyData.keyHash w.params name) (.str name s.toks) v)).get? b = s.heap.get? b := fun b q => Heap.get?_update_ne _ _ _ _ q
 refine wpAny_bind (wpAny_pure (wpAny_bind ?_))
 unfold nsSet
 refine wpAny_bind (wpAny_bind (wpAny_askSetting (wpAny_pure (wpAny_bind (wpAny_mkText (wpAny_bind (wpAny_loadPart D ?_)))))))
 unfold lookIn at hl
 split at hl
 ·rename_i es₀ n₀ q
  rw [q]
  dsimp only
  have c : (!es₀.any (·.key.isStr name) && es₀.any (·.refKey)) = false := by
   rw [← Array.any_toList, ← Array.any_toList]
   split at hl
   ·rename_i en he
    rw [List.any_eq_true.mpr ⟨en, List.mem_of_find?_eq_some he, List.find?_some he⟩]; rfl
   ·split at hl
    ·cases hl
    ·rename_i z; rw [Bool.not_eq_true] at z; rw [z, Bool.and_false]
  rw [aRefKeyMayBeTheName_at, c]
  refine wpAny_updatePart D ?_
  refine wpAny_bind (wpAny_lookBehind D' (by rw [e']; exact pastItsLine_dict (by rw [List.size_toArray, sizeLine_eq]; omega)) ?_)
  exact wpAny_pure (h _ D' U2)
 ·cases hl
theorem zhp {vs : Array Value} {name : Str} {tk : Tok} {v : Value} {cd : ClassData} {od' : Obj} {es : List DictEntry} {n : Nat} (X : K.In s.heap) (hx : s.heap.get? x = some { cls := .ref C, data := .fields vs }) (hc : clsIn K C = some cd) (hp : zaz cd.mro = true) (ht : takerIn K C name = some none) (hh : cd.hasDict = true)
  (e : Obj.putName name (PyData.keyHash w.params name) (.str name s.toks) v emptyDict = od') (e' : od'.data = .dict es.toArray n) (hz : es.length <= 1000)
  (h : ∀ h', h'.get? x = some { cls := .ref C, dict := some s.heap.objs.size, data := .fields vs } -> h'.get? s.heap.objs.size = some od' -> (∀ b o, b ≠ x -> s.heap.get? b = some o -> h'.get? b = some o) -> R (.ok (.ret .none)) { s with heap := h', toks := s.toks + 1 }) :
  codeAny (model prog w) A (.call (.builtin "object.__setattr__") ⟨[.ref x, .str name tk, v], []⟩) R s := by
 refine zck X hx rfl hc hp ht fun b => ?_
 have hx₁ : (s.heap.push emptyDict).get? x = some { cls := .ref C, data := .fields vs } := Heap.get?_push_of_some _ hx
 have hxs : x ≠ s.heap.objs.size := Nat.ne_of_lt (Heap.lt_size hx)
 refine wpAny_bind (wpAny_pure (wpAny_bind (wpAny_bind (wpAny_loadPart hx (wpAny_bind ((looks_clsIn X hc).here ?_))))))
 rw [hh]
 show wpAny _ _ ((alloc emptyDict >>= fun d => update x (fun o => { cls := o.cls, dict := some d, data := o.data, slots := o.slots }) >>= fun _ => pure (some d) : Sem (Option Addr))) _ _ _
 refine wpAny_bind (wpAny_alloc' (wpAny_bind (wpAny_update' hx₁ (wpAny_pure ?_))))
 refine wpAny_bind (wpAny_pure ?_)
 have gx : ((s.heap.push emptyDict).update x fun o => { cls := o.cls, dict := some s.heap.objs.size, data := o.data, slots := o.slots }).get? x = some { cls := .ref C, dict := some s.heap.objs.size, data := .fields vs } := Heap.get?_update_self _ hx₁ rfl
 have gd : ((s.heap.push emptyDict).update x fun o => { cls := o.cls, dict := some s.heap.objs.size, data := o.data, slots := o.slots }).get? s.heap.objs.size = some emptyDict := (Heap.get?_update_ne _ _ _ _ hxs.symm).trans (Heap.get?_push_at rfl rfl)
 refine zfz (tk := tk) (s := { s with heap := _ }) gd rfl e e' hz fun h' g1 g2 => ?_
 exact h h' ((g2 x hxs).trans gx) g1 fun b o hb eo => (g2 b (Nat.ne_of_lt (Heap.lt_size eo))).trans ((Heap.get?_update_ne _ _ _ _ hb).trans (Heap.get?_push_of_some _ eo))
theorem zjh {ox od od' : Obj} {name : Str} {tk : Tok} {v : Value} {cd : ClassData} {es : List DictEntry} {n : Nat} (X : K.In s.heap) (hx : s.heap.get? x = some ox) (hcl : ox.cls = .ref C) (hd : ox.dict = some dx) (D : s.heap.get? dx = some od) (hc : clsIn K C = some cd) (hp : zaz cd.mro = true) (ht : takerIn K C name = some none) (hh : cd.hasDict = true)
  (hl : (lookIn name od).isSome = true) (e : Obj.putName name (PyData.keyHash w.params name) (.str name s.toks) v od = od') (e' : od'.data = .dict es.toArray n) (hz : es.length <= 1000)
  (h : ∀ h', h'.get? dx = some od' -> (∀ b, b ≠ dx -> h'.get? b = s.heap.get? b) -> R (.ok (.ret .none)) { s with heap := h', toks := s.toks + 1 }) :
  codeAny (model prog w) A (.call (.builtin "object.__setattr__") ⟨[.ref x, .str name tk, v], []⟩) R s := by
 refine zck X hx hcl hc hp ht fun b => ?_
 obtain ⟨oc, odi, oda, osl⟩ := ox
 dsimp only at hcl hd
 subst hcl hd
 refine wpAny_bind (wpAny_pure (wpAny_bind (wpAny_bind (wpAny_loadPart hx (wpAny_bind ((looks_clsIn X hc).here ?_))))))
 rw [hh]
 refine wpAny_pure (a := some dx) (wpAny_bind (wpAny_pure ?_))
 exact zfz (tk := tk) D hl e e' hz h
end
set_option backward.match.sparseCases true
theorem zdG {M : Model} {A : Around} {E : Value -> Shared -> Prop} {s : Shared} {env : Env} {x : Str} {Q : Value -> Shared -> Prop} (hk : env.scope.kind = .function) (hx : env.kindOf x = some .globalImplicit) (h : wpAny M A (loadGlobal env x) Q E s) : wpAny M A (loadName env x) Q E s := by
 unfold loadName
 simp only [Env.blockKind, hk, hx, ScopeKind.isAnnotationScope, Bool.false_and, Bool.false_eq_true, if_false]
 exact h
inductive InitFn (S : Sta) (f D : Addr) (ps : List Str) (body : List Stmt) : Prop
 | mk (od : Option Addr) (fd : FuncData) (osl : Array (Option Value)) (cc : Addr) (oc1 : Value) (od1 : Option Addr) (osl1 : Array (Option Value)) (co : Addr) (oc2 : Value) (od2 : Option Addr) (osl2 : Array (Option Value)) (vs : Array Value) (file : Str) (tf : Tok)
  (k1 : S.K.lookup f = some ⟨.type "function", od, .func fd, osl⟩) (k2 : fd.scope.kind = .function) (k3 : fd.scope.isCoroutine = false) (k4 : fd.scope.isGenerator = false) (k5 : codeIn S.K fd.code fd.qualname = true) (k6 : zb6 fd.params = true) (k7 : fd.defaults = .none)
  (k8 : fd.params.args.map (·.arg) = ps) (k9 : fd.body = .stmts body) (k10 : fd.globals = mainGlobals) (k11 : fd.builtins = builtinsNs) (k12 : ∀ p ∈ fd.scope.names, p.2 ≠ .cell) (k13 : ∀ p ∈ ps, fd.scope.names.lookup p = some .local /\ badN p = false) (k14 : fd.scope.names.lookup (Str.ofString "super") = some .globalImplicit) (k15 : fd.scope.names.lookup (Str.ofString "__class__") = some .free)
  (k16 : fd.closure.lookup (Str.ofString "__class__") = some cc) (k17 : S.K.lookup cc = some ⟨oc1, od1, .cell (some (.ref D)), osl1⟩) (k18 : fd.code = .ref co) (k19 : S.K.lookup co = some ⟨oc2, od2, .fields vs, osl2⟩) (k20 : vs[2]? = some (.str file tf)) (k21 : (S.prog.main.file == file) = true)
structure SupIn (S : Sta) : Prop where
 g : S.mg "super" = none
 t : (S.prog.main.scope.names.lookup ("super" : Str)).isSome = false
noncomputable def zbS (a b z u : Str) (p0 p1 p2 p3 p4 p5 p6 p7 p8 p9 : Pos) : List Stmt := [.Expr (.Call (.Attribute (.Call (.Name "super" p0) [] [] p1) "__init__" p2) [.Name b p3] [] p4) p5, .Assign [.Attribute (.Name a p6) z p7] (.Name u p8) p9]
noncomputable def But (x : Addr) (s s' : Shared) : Prop := (∀ b o, b ≠ x -> s.heap.get? b = some o -> s'.heap.get? b = some o) /\ ∃ hp tk, s' = { s with heap := hp, toks := tk }
theorem But.trans {x : Addr} {s s' s'' : Shared} (a : But x s s') (b : But x s' s'') : But x s s'' := by
 obtain ⟨a1, h1, t1, rfl⟩ := a
 obtain ⟨b1, h2, t2, rfl⟩ := b
 exact ⟨fun c o n e => b1 c o n (a1 c o n e), h2, t2, rfl⟩
theorem But.kin {x : Addr} {s s' : Shared} {K : Frag} (a : But x s s') (X : K.In s.heap) (k : K.lookup x = none) : K.In s'.heap := fun b o e => a.1 b o (fun q => by rw [q, k] at e; cases e) (X b o e)
theorem zjw {o : PySem.Expr} {name : Str} {ap pos : Pos} {args : List PySem.Expr} {env : Env} (hs : args.all (fun e => !zak e) = true) (hl : args.length < 20) (hp : (ap.endLine == pos.line) = true) :
  eval (.Call (.Attribute o name ap) args [] pos) env = (do
   let ov ← attributeBase o name env (eval o env)
   standAt ap.atName
   let fx ← holding [ov] (getMethod ov name (do return (← importBound o env).getD true))
   callWith pos fx.1 fx.2 (backTo pos (starEach args env)) []) := by
 have hf : methodCallForm (args.length + ([] : List Keyword).length) (backTo pos (starEach args env)) (backToKw pos (keywordEach [] env)) = true := by
  unfold methodCallForm
  have h1 := za0 (pos := pos) (ev := env) hs
  have h2 : (backTo pos (starEach args env)).all (fun p => !p.1) = true := by
   rw [List.all_eq_true]
   intro p hp
   have := List.any_eq_false.mp h1 p hp
   simpa using this
  have h3 : (backToKw pos (keywordEach [] env)) = [] := rfl
  rw [h2, h3]
  simp
  omega
 rw [arm_eval_Call]
 unfold methodCall calleeOf methodCallPos
 rw [hf, hp]
 rfl
section
variable {S : Sta} {A : Around} {E : Value -> Shared -> Prop} {s : Shared} {f D x C : Addr}
theorem zep (ok : StaOk S) (si : SupIn S) {a b z u : Str} {ps : List Str} {vals : List Value} {v vz : Value} {p0 p1 p2 p3 p4 p5 p6 p7 p8 p9 : Pos} (hpp : (p2.endLine == p4.line) = true) (hi : InitFn S f D ps (zbS a b z u p0 p1 p2 p3 p4 p5 p6 p7 p8 p9)) (hps : ∃ r, ps = a :: r) (hpb : b ∈ ps) (hpu : u ∈ ps) (hnd : ps.Nodup) (hlen : ps.length = vals.length)
  (ha : (ps.zip vals).reverse.lookup a = some (.ref x)) (hb : (ps.zip vals).reverse.lookup b = some v) (hu : (ps.zip vals).reverse.lookup u = some vz)
  (room : A.depth < recursionLimit) (st : S.B.StaysIn s.heap) {ox : Obj} (hx : s.heap.get? x = some ox) (hxc : ox.cls = .ref C) (hnc : ∀ c, ox.data ≠ .cls c) (kx : S.K.lookup x = none) (nx : S.B.get? x = none) {oD : Obj} {cdD : ClassData} (hD : S.K.lookup D = some oD) (hDt : oD.data = .cls cdD)
  (hsub : ∀ h, S.K.In h -> Looks S.M h (isSubtype (.ref C) (.ref D)) true) {Mid : Shared -> Prop} {R : Result -> Shared -> Prop}
  (hsup : ∀ ev s1 so pl, But x s s1 -> s1.heap.get? x = some ox -> s1.heap.get? so = some { cls := .type "super", dict := none, data := .fields #[.ref D, .ref x, .ref C], slots := #[] } -> (∀ {Q : Value -> Shared -> Prop} {s2}, But x s1 s2 -> Q v s2 -> wpAny S.M (A.deeper ev) (eval (.Name b p3) ev) Q (fun _ _ => False) s2) ->
   wpAny S.M (A.deeper ev) (getMethod (.ref so) "__init__" pl) (fun fx s₂ => wpAny S.M (A.deeper ev) (callWith p4 fx.1 fx.2 (backTo p4 (starEach [.Name b p3] ev)) []) (fun _ s3 => But x s1 s3 /\ Mid s3) (fun _ _ => False) s₂) (fun _ _ => False) s1)
  (hset : ∀ A' s3, But x s s3 -> Mid s3 -> wpAny S.M A' (setAttr (.ref x) z vz) (fun _ s4 => R (.ok (.ret .none)) s4) (fun _ _ => False) s3) :
  codeAny S.M A (.call (.ref f) ⟨vals, []⟩) R s := by
 obtain ⟨od, fd, osl, cc, oc1, od1, osl1, co, oc2, od2, osl2, vs, file, tf, k1, k2, k3, k4, k5, k6, k7, k8, k9, k10, k11, k12, k13, k14, k15, k16, k17, k18, k19, k20, k21⟩ := hi
 have X : S.K.In s.heap := fun b o e => st _ _ (ok.K b o e)
 have hbind := zbB (vs := vals) k6 k7 (by rw [k8]; exact hnd) (by have := congrArg List.length k8; simp at this; omega)
 rw [k8] at hbind
 refine ks_codeAny_call_defAt room (X _ _ k1) rfl (ok.nolimit.keeps fun b o e => st b o e) (codeRec_of X k5) k9 (BindsTo.of_eq hbind) k12 (fun y hy => (k13 y.1 (List.of_mem_zip hy).1).1) (fun h0 hns kp0 => ?_) k3 k4 k2
 generalize hE : callEnv fd s.heap.objs.size f = ev
 have ekf : ev.scope.kind = .function := by rw [← hE]; exact k2
 have eg : ev.globals = mainGlobals := by rw [← hE]; exact k10
 have eb : ev.builtins = builtinsNs := by rw [← hE]; exact k11
 have el : ev.locals = s.heap.objs.size := by rw [← hE]; rfl
 have ecl : ev.cells = fd.closure := by rw [← hE]; rfl
 have ek : ∀ y, ev.kindOf y = fd.scope.names.lookup y := fun y => by rw [← hE]; rfl
 obtain ⟨rr, hps⟩ := hps
 have hp : (fd.params.posonlyargs ++ fd.params.args).head?.map (·.arg) = some a := by
  have h0 : fd.params.posonlyargs = [] := congrArg (·.posonlyargs) (zdj k6)
  rw [h0, List.nil_append, ← List.head?_map, k8, hps]; rfl
 obtain ⟨ar, hp', rfl⟩ := Option.map_eq_some_iff.mp hp
 have loc : ∀ {y w} {A' : Around} {Q : Value -> Shared -> Prop} {Ev : Value -> Shared -> Prop} {s2 : Shared}, y ∈ ps -> (ps.zip vals).reverse.lookup y = some w -> (∀ b o, b ≠ x -> h0.get? b = some o -> s2.heap.get? b = some o) -> Q w s2 -> wpAny S.M A' (loadName ev y) Q Ev s2 := by
  intro y w A' Q Ev s2 hy hw hk hq
  obtain ⟨oL, es, ep, hoL, r⟩ := hns
  have ne : s.heap.objs.size ≠ x := Nat.ne_of_gt (Heap.lt_size hx)
  have hns2 : s2.heap.Ns s.heap.objs.size (fun y => (ps.zip vals).reverse.lookup y) := ⟨oL, es, ep, hk _ _ ne hoL, r⟩
  rw [← el] at hns2
  exact wpAny_loadName_local ekf ((ek y).trans (k13 y hy).1) hns2 hw hq
 have bad : ∀ y ∈ ps, (y == ("__debug__" : Str)) = false := fun y hy => by have := (k13 y hy).2; unfold badN at this; exact (Bool.or_eq_false_iff.mp this).1
 have X0 : S.K.In h0 := fun b o e => kp0 b o (X b o e)
 refine ks_wpAt_mono (Q := fun f s' => R (.ok (.ret (match f with | .ret v => v | _ => .none))) s') (E := fun _ _ => False) ?_ (fun _ _ h => h) (fun _ _ h => h.elim)
 refine ks_wpAt_execs_cons (ks_wpAt_Expr_any (ks_wpAt_MethodCall (ks_wpAt_super_base (f := f) (cc := co) ((ek _).trans k14) ((ek _).trans k15) (by decide) (by rw [← hE]; rfl) (X0 _ _ k1) rfl hp' (by rw [← hE]; exact k18) (X0 _ _ k19) rfl k20 k21 si.t ?_) (zjw rfl (by show 1 < 20; decide) hpp)) (by unfold interactive; rw [ekf]; rfl))
 have gns : h0.Ns ev.globals S.mg := eg ▸ zbd (fun o e => kp0 _ _ (st _ _ e)) ok.g
 have bns : h0.Ns ev.builtins S.mb := eb ▸ zbd (fun o e => kp0 _ _ (st _ _ e)) ok.b
 refine zdG ekf ((ek _).trans k14) ?_
 refine loadGlobal_builtin gns si.g bns (v := .type "super") ((ok.builtins _ (by decide)).trans (by decide +kernel)) ⟨rfl, ?_⟩
 have kcell := X0 _ _ k17
 have hcell : h0.IsCell cc (some (.ref D)) := ⟨_, kcell, rfl⟩
 refine wpAny_loadName_free (s := { s with heap := h0, toks := s.toks + (ps.zip vals).length }) ekf ((ek _).trans k15) (ecl ▸ k16) hcell ?_ (by decide)
 have hD0 := X0 _ _ hD
 have hx0 := kp0 _ _ hx
 refine loc (hps ▸ .head _) ha (fun b o _ e => e) ?_
 refine ks_wpAny_isType_cls hD0 hDt ⟨rfl, ?_⟩
 refine ks_wpAny_call_super hD0 hDt hx0 hxc hnc (hsub _ X0) fun h1 hso kp1 => ?_
 have b1 : But x s { s with heap := h1, toks := s.toks + (ps.zip vals).length } := ⟨fun b o _ e => kp1 b o (kp0 b o e), _, _, rfl⟩
 have hx1 := kp1 _ _ hx0
 refine wpAny_mono (hsup ev { s with heap := h1, toks := s.toks + (ps.zip vals).length } h0.objs.size _ b1 hx1 hso fun {Q s2} b2 hq => wpAny_Name (loc hpb hb (fun c o n e => b2.1 c o n (kp1 c o e)) hq) (bad _ hpb)) (fun fx s2 h2 => wpAny_mono h2 (fun _ s3 ⟨b3, m3⟩ => ?_) fun _ _ h => h.elim) fun _ _ h => h.elim
 refine wpAt_of_wpAny (wpAny_execs_cons (plainObj_wpAny_Assign_Attribute (wpAny_Name (loc hpu hu (fun c o n e => b3.1 c o n (kp1 c o e)) (wpAny_Name (loc (hps ▸ .head _) ha (fun c o n e => b3.1 c o n (kp1 c o e)) ?_) (bad _ (hps ▸ .head _)))) (bad _ hpu))))
 exact wpAny_mono (hset _ _ (b1.trans b3) m3) (fun _ s4 h4 => wpAny_execs_nil h4) fun _ _ h => h.elim
end
theorem zf7 {M : Model} {A : Around} {E : Value -> Shared -> Prop} {s : Shared} {f : Value} {pos : Pos} {ev : Env} {e : PySem.Expr} {Q : Args -> Shared -> Prop} (hs : zak e = false) (h : wpAny M A (eval e ev) (fun v s1 => Q ⟨[v], []⟩ s1) E s) :
  wpAny M A (evalArgs f true (backTo pos (starEach [e] ev)) []) Q E s := by
 have hq : wpAny M A (spliced (backTo pos (starEach [e] ev))) (fun vs s' => Q ⟨vs, []⟩ s') E s := spliced_more (wpAny_mono h (fun v s1 h1 => spliced_none h1) fun _ _ x => x) (by cases e <;> first | rfl | cases hs)
 rw [zcF hs] at hq ⊢
 exact evalArgs_plain hq
theorem zek {M : Model} {h : Heap} {m x f : Addr} {of : Obj} {fd : FuncData} (hm : h.get? m = some { cls := .type "method", data := .fields #[.ref f, .ref x] }) (hf : h.get? f = some of) (hd : of.data = .func fd) : Looks M h (keeperOf (.ref m)) .boundFrame := by
 obtain ⟨oc, od, oda, osl⟩ := of
 dsimp only at hd
 subst hd
 unfold keeperOf
 exact (Looks.ld hm).andThen ((Looks.ld hf).andThen .now)
section
variable {S : Sta} {A : Around} {s : Shared} {f x C D : Addr}
theorem zeh {M : Model} {h : Heap} {K : Frag} {C : Addr} {cd : ClassData} (X : K.In h) (hc : clsIn K C = some cd) : Looks M h (mroOf (.ref C)) cd.mro := (looks_clsIn X hc).andThen .now
noncomputable def FdDone (S : Sta) (C x : Addr) (vs : Array Value) (v : Value) (s s' : Shared) : Prop :=
 But x s s' /\ ∃ T dx tk, s'.heap.get? x = some { cls := .ref C, dict := some dx, data := .fields (vs.setIfInBounds 0 (.ref T)) } /\ s.heap.get? dx = none /\ dx ≠ x /\ s'.heap.get? dx = some (dictOf [⟨PyData.keyHash S.w.params (Str.ofString "what"), .str (Str.ofString "what") tk, v⟩] 1)
theorem zhY (ok : StaOk S) (si : SupIn S) {a b : Str} {v : Value} {p0 p1 p2 p3 p4 p5 p6 p7 p8 p9 : Pos} (hpp : (p2.endLine == p4.line) = true) (hab : a ≠ b) (hi : InitFn S f D [a, b] (zbS a b (Str.ofString "what") b p0 p1 p2 p3 p4 p5 p6 p7 p8 p9))
  (room : A.depth < recursionLimit) (st : S.B.StaysIn s.heap) {vs : Array Value} {t0 : Addr} (hx : s.heap.get? x = some { cls := .ref C, data := .fields vs }) (h0 : vs[0]? = some (.ref t0)) (nx : S.B.get? x = none)
  {oD oC : Obj} {cdD cd : ClassData} (hD : S.K.lookup D = some oD) (hDt : oD.data = .cls cdD) (hC : S.K.lookup C = some oC) (hCt : oC.data = .cls cd) (hD2 : mroIn S.K C (.ref D) = some true) (ht : zaz cd.mro = true) (hd : cd.hasDict = true) (hno : nsIn S.K cStatics "thirdparty.any" = some none)
  (hal : alongIn S.K "__init__" ((cd.mro.dropWhile (· != .ref D)).drop 1) = some (some (.builtin "Exception.__init__"))) (hsa : findIn S.K (.ref C) "__setattr__" = some (some (.builtin "object.__setattr__"))) (htk : takerIn S.K C (Str.ofString "what") = some none) {R : Result -> Shared -> Prop}
  (hR : ∀ s', FdDone S C x vs v s s' -> R (.ok (.ret .none)) s') : codeAny S.M A (.call (.ref f) ⟨[.ref x, v], []⟩) R s := by
 have kx : S.K.lookup x = none := by
  cases q : S.K.lookup x with
  | none => rfl
  | some o => have := ok.K _ _ q; rw [nx] at this; cases this
 have hc : clsIn S.K C = some cd := by unfold clsIn; rw [hC]; obtain ⟨_, _, _, _⟩ := oC; cases hCt; rfl
 have xC : x ≠ C := fun q => by rw [q, hC] at kx; cases kx
 obtain ⟨_, _, hE, ne⟩ := zbA (.ref x) ht
 have hExc : ∀ h, S.K.In h -> Looks S.M h (isSubtype (.ref C) (.type "Exception")) true := fun h X => looks_mroIn X (by unfold mroIn; rw [hc, Option.bind_some, if_neg (by rw [ne]; decide), hE])
 have X : S.K.In s.heap := fun b o e => st _ _ (ok.K b o e)
 have ha : ([a, b].zip [Value.ref x, v]).reverse.lookup a = some (.ref x) := by
  show List.lookup a [(b, v), (a, .ref x)] = _
  rw [List.lookup_cons, show (a == b) = false from beq_eq_false_iff_ne.mpr hab, List.lookup_cons, beq_self_eq_true]
 have hb : ([a, b].zip [Value.ref x, v]).reverse.lookup b = some v := by
  show List.lookup b [(b, v), (a, .ref x)] = _
  rw [List.lookup_cons, beq_self_eq_true]
 refine zep (Mid := fun s3 => ∃ T, s3.heap.get? x = some { cls := .ref C, data := .fields (vs.setIfInBounds 0 (.ref T)) }) ok si hpp hi ⟨_, rfl⟩ (.tail _ (.head _)) (.tail _ (.head _)) (by simp [hab]) rfl ha hb hb room st hx rfl (by nofun) kx nx hD hDt (fun h X => looks_mroIn X hD2) ?_ ?_
 ·intro ev s1 so pl b1 hx1 hso hload
  have X1 : S.K.In s1.heap := b1.kin X kx
  obtain ⟨h1, g1, d1, t1, os1⟩ := s1
  refine zdN hso (looks_opaque X1 hno) (zeh X1 hc) rfl X1 hal hx1 rfl (hExc _ X1) xC (by decide) ?_
  have up : ∀ c o, h1.get? c = some o -> (h1.push { cls := .type "method-wrapper", data := .fields #[.builtin "Exception.__init__", .ref x] }).get? c = some o := fun c o e => Heap.get?_push_of_some _ e
  have hbm : (h1.push { cls := .type "method-wrapper", data := .fields #[.builtin "Exception.__init__", .ref x] }).get? h1.objs.size = some { cls := .type "method-wrapper", data := .fields #[.builtin "Exception.__init__", .ref x] } := Heap.get?_push_at rfl rfl
  refine callWith_of (P := fun h => h.get? h1.objs.size = some { cls := .type "method-wrapper", data := .fields #[.builtin "Exception.__init__", .ref x] }) rfl (fun h hm => ⟨.machine, .inr (.inl rfl), zgr hm⟩) (zf7 rfl ?_)
  refine hload ⟨fun c o _ e => up c o e, _, _, rfl⟩ ⟨hbm, ?_⟩
  refine zjQ hbm (up _ _ hx1) rfl (up _ _ (X1 _ _ hC)) hCt rfl h0 fun h2 hx2 kp2 => ?_
  exact ⟨⟨fun c o n e => kp2 c o n (up c o e), _, _, rfl⟩, _, hx2⟩
 ·intro A' s3 b3 hT
  obtain ⟨T, hx3⟩ := hT
  have X3 : S.K.In s3.heap := b3.kin X kx
  refine set_plain X3 (od := none) ⟨hx3, rfl, rfl, trivial⟩ hsa (zhp (s := { s3 with toks := s3.toks + 1 }) (od' := dictOf [⟨PyData.keyHash S.w.params (Str.ofString "what"), .str (Str.ofString "what") (s3.toks + 1), v⟩] 1) X3 hx3 hc ht htk hd rfl rfl (by show 1 <= 1000; decide) fun h' g1 g2 g3 => hR _ ⟨b3.trans ⟨g3, _, _, rfl⟩, T, s3.heap.objs.size, s3.toks + 1, g1, ?_, Nat.ne_of_gt (Heap.lt_size hx3), g2⟩)
  cases q : s.heap.get? s3.heap.objs.size with
  | none => rfl
  | some o =>
   have := Heap.lt_size (b3.1 _ _ (Nat.ne_of_gt (Heap.lt_size hx3)) q)
   exact absurd this (Nat.lt_irrefl _)
theorem FdDone.pre {vs : Array Value} {v : Value} {s1 s' : Shared} (d : FdDone S C x vs v s1 s') (b : But x s s1) : FdDone S C x vs v s s' := by
 obtain ⟨b2, T, dx, tk, h1, h2, h3, h4⟩ := d
 refine ⟨b.trans b2, T, dx, tk, h1, ?_, h3, h4⟩
 cases q : s.heap.get? dx with
 | none => rfl
 | some o => have := b.1 _ _ h3 q; rw [h2] at this; cases this
noncomputable def znY (S : Sta) (C x : Addr) (vs : Array Value) (v u : Value) (s s' : Shared) : Prop :=
 But x s s' /\ ∃ T dx tk tk2, s'.heap.get? x = some { cls := .ref C, dict := some dx, data := .fields (vs.setIfInBounds 0 (.ref T)) } /\ s.heap.get? dx = none /\ dx ≠ x /\
  s'.heap.get? dx = some (dictOf [⟨PyData.keyHash S.w.params (Str.ofString "what"), .str (Str.ofString "what") tk, v⟩, ⟨PyData.keyHash S.w.params (Str.ofString "spot"), .str (Str.ofString "spot") tk2, u⟩] 2)
theorem zkH (ok : StaOk S) (si : SupIn S) {a b c : Str} {v u : Value} {p0 p1 p2 p3 p4 p5 p6 p7 p8 p9 : Pos} (hpp : (p2.endLine == p4.line) = true) (hab : a ≠ b) (hac : a ≠ c) (hbc : b ≠ c) (hi : InitFn S f D [a, b, c] (zbS a b (Str.ofString "spot") c p0 p1 p2 p3 p4 p5 p6 p7 p8 p9))
  (room : A.depth + 1 < recursionLimit) (st : S.B.StaysIn s.heap) {vs : Array Value} {t0 : Addr} (hx : s.heap.get? x = some { cls := .ref C, data := .fields vs }) (h0 : vs[0]? = some (.ref t0)) (nx : S.B.get? x = none)
  {oD oC of : Obj} {cdD cd : ClassData} {f2 : Addr} {fd : FuncData} (hD : S.K.lookup D = some oD) (hDt : oD.data = .cls cdD) (hC : S.K.lookup C = some oC) (hCt : oC.data = .cls cd) (hD2 : mroIn S.K C (.ref D) = some true) (ht : zaz cd.mro = true) (hd : cd.hasDict = true) (hno : nsIn S.K cStatics "thirdparty.any" = some none)
  (hal : alongIn S.K "__init__" ((cd.mro.dropWhile (· != .ref D)).drop 1) = some (some (.ref f2))) (hf2 : S.K.lookup f2 = some of) (hft : of.cls = .type "function") (hfd : of.data = .func fd) (hsa : findIn S.K (.ref C) "__setattr__" = some (some (.builtin "object.__setattr__"))) (htk : takerIn S.K C (Str.ofString "spot") = some none) {R : Result -> Shared -> Prop}
  (hrec : ∀ {A' s1} {R' : Result -> Shared -> Prop}, A'.depth <= A.depth + 1 -> S.B.StaysIn s1.heap -> s1.heap.get? x = some { cls := .ref C, data := .fields vs } -> (∀ s', FdDone S C x vs v s1 s' -> R' (.ok (.ret .none)) s') -> codeAny S.M A' (.call (.ref f2) ⟨[.ref x, v], []⟩) R' s1)
  (hR : ∀ s', znY S C x vs v u s s' -> R (.ok (.ret .none)) s') : codeAny S.M A (.call (.ref f) ⟨[.ref x, v, u], []⟩) R s := by
 have kx : S.K.lookup x = none := by
  cases q : S.K.lookup x with
  | none => rfl
  | some o => have := ok.K _ _ q; rw [nx] at this; cases this
 have hc : clsIn S.K C = some cd := by unfold clsIn; rw [hC]; obtain ⟨_, _, _, _⟩ := oC; cases hCt; rfl
 have xC : x ≠ C := fun q => by rw [q, hC] at kx; cases kx
 have X : S.K.In s.heap := fun b o e => st _ _ (ok.K b o e)
 have ha : ([a, b, c].zip [Value.ref x, v, u]).reverse.lookup a = some (.ref x) := by
  show List.lookup a [(c, u), (b, v), (a, .ref x)] = _
  rw [List.lookup_cons, show (a == c) = false from beq_eq_false_iff_ne.mpr hac, List.lookup_cons, show (a == b) = false from beq_eq_false_iff_ne.mpr hab, List.lookup_cons, beq_self_eq_true]
 have hb : ([a, b, c].zip [Value.ref x, v, u]).reverse.lookup b = some v := by
  show List.lookup b [(c, u), (b, v), (a, .ref x)] = _
  rw [List.lookup_cons, show (b == c) = false from beq_eq_false_iff_ne.mpr hbc, List.lookup_cons, beq_self_eq_true]
 have hu : ([a, b, c].zip [Value.ref x, v, u]).reverse.lookup c = some u := by
  show List.lookup c [(c, u), (b, v), (a, .ref x)] = _
  rw [List.lookup_cons, beq_self_eq_true]
 refine zep (Mid := fun s3 => FdDone S C x vs v s s3) ok si hpp hi ⟨_, rfl⟩ (.tail _ (.head _)) (.tail _ (.tail _ (.head _))) (by simp [hab, hac, hbc]) rfl ha hb hu (by omega) st hx rfl (by nofun) kx nx hD hDt (fun h X => looks_mroIn X hD2) ?_ ?_
 ·intro ev s1 so pl b1 hx1 hso hload
  have X1 : S.K.In s1.heap := b1.kin X kx
  obtain ⟨h1, g1, d1, t1, os1⟩ := s1
  refine ks_wpAny_getMethod_super hso (looks_opaque X1 hno) (zeh X1 hc) rfl X1 hal (X1 _ _ hf2) hft xC (by decide) ?_
  have up : ∀ c o, h1.get? c = some o -> (h1.push { cls := .type "method", data := .fields #[.ref f2, .ref x] }).get? c = some o := fun c o e => Heap.get?_push_of_some _ e
  have hbm : (h1.push { cls := .type "method", data := .fields #[.ref f2, .ref x] }).get? h1.objs.size = some { cls := .type "method", data := .fields #[.ref f2, .ref x] } := Heap.get?_push_at rfl rfl
  have ne : h1.objs.size ≠ x := Nat.ne_of_gt (Heap.lt_size hx1)
  refine callWith_of (P := fun h => h.get? h1.objs.size = some { cls := .type "method", data := .fields #[.ref f2, .ref x] } /\ h.get? f2 = some of) rfl (fun h hm => ⟨.boundFrame, .inr (.inr rfl), zek hm.1 hm.2 hfd⟩) (zf7 rfl ?_)
  refine hload ⟨fun c o _ e => up c o e, _, _, rfl⟩ ⟨⟨hbm, up _ _ (X1 _ _ hf2)⟩, ?_⟩
  refine wpAny_call (ks_codeAny_call_bound hbm ?_)
  have stx : S.B.StaysIn h1 := fun b o e => b1.1 b o (fun q => by rw [q, nx] at e; cases e) (st b o e)
  refine hrec (by show A.depth + 1 <= _; omega) (fun b o e => up _ _ (stx b o e)) (up _ _ hx1) fun s' hs' => ?_
  have b2 : But x ⟨h1, g1, d1, t1, os1⟩ ⟨h1.push { cls := .type "method", data := .fields #[.ref f2, .ref x] }, g1, d1, t1 + 1, os1⟩ := ⟨fun c o _ e => up c o e, _, _, rfl⟩
  exact ⟨b2.trans hs'.1, hs'.pre (b1.trans b2)⟩
 ·intro A' s3 b3 hm
  have X3 : S.K.In s3.heap := b3.kin X kx
  obtain ⟨_, T, dx, tk, hx3, hn, ne, hd3⟩ := hm
  refine set_plain X3 (od := some (dictOf [⟨PyData.keyHash S.w.params (Str.ofString "what"), .str (Str.ofString "what") tk, v⟩] 1)) ⟨hx3, rfl, rfl, hd3⟩ hsa (zjh (s := { s3 with toks := s3.toks + 1 }) (od' := dictOf [⟨PyData.keyHash S.w.params (Str.ofString "what"), .str (Str.ofString "what") tk, v⟩, ⟨PyData.keyHash S.w.params (Str.ofString "spot"), .str (Str.ofString "spot") (s3.toks + 1), u⟩] 2) X3 hx3 rfl rfl hd3 hc ht htk hd rfl rfl rfl (by show 2 <= 1000; decide) fun h' g1 g2 => hR _ ?_)
  refine ⟨⟨fun b o q e => ?_, by obtain ⟨_, _, rfl⟩ := b3.2; exact ⟨_, _, rfl⟩⟩, T, dx, tk, s3.toks + 1, (g2 x ne.symm).trans hx3, hn, ne, g1⟩
  have nd : b ≠ dx := fun q => by rw [q, hn] at e; cases e
  exact (g2 b nd).trans (b3.1 b o q e)
end
end Mine.Lake
namespace Mine.Lake
open PySem PySem.W PySem.Calls
theorem zlU {l : List Value} (h : zaz l = true) : l.contains (.type "AttributeError") = false /\ l.contains (.type "NameError") = false :=
 zcY (P := fun l => l.contains (.type "AttributeError") = false /\ l.contains (.type "NameError") = false) ⟨by decide, by decide⟩
  (fun c r ⟨h1, h2⟩ => ⟨by rw [List.contains_cons, h1]; rfl, by rw [List.contains_cons, h2]; rfl⟩) h
section
variable {prog : Program} {w : World} {A : Around} {h : Heap} {g : Array GenState} {d : Drawn} {t : Nat} {os : OsState}
variable {nm q : Str} {C N : Addr} {bs bm : List Value} {hdct : Bool} {sn : List Str} {sub : List Value} {ab : Bool} {col : Option Bool} {dd : Option Addr} {k0 k1 k2 k3 k5 : Option Value}
theorem zdZ {M : Model} {E : Value -> Shared -> Prop} (ht : zaz (.ref C :: bm) = true) {rest : List Value} {Q : Unit -> Shared -> Prop} (hC : h.get? C = some (excClassObj nm q C N bs bm hdct sn sub ab col dd k0 k1 k2 k3 k5 "Exception.__new__"))
  (hq : Q () ⟨h, g, d, t, os⟩) : wpAny M A (checkBuiltinCall "Exception.__new__" ⟨.ref C :: rest, []⟩) Q E ⟨h, g, d, t, os⟩ := by
 have Fn := PySem.F.excBase_Exception
 have hcont := (zbA (.ref C) ht).2.2.1
 have hstar := Fn.noStar
 simp only [checkBuiltinCall, Fn.newKind, Fn.newSplit, Fn.newRow]
 repeat (first | refine wpAny_loadPart_at hC ?_ | (refine wpAny_isSubtype_exc hC ?_; rw [hcont]) | refine wpAny_staticBase_exc hC ?_ | refine wpAny_madeBy_exc hC ?_ | simp only [bne_self_eq_false, Bool.false_eq_true, if_false] | wp_step)
 exact hq
theorem zln {R : Result -> Shared -> Prop} (ht : zaz (.ref C :: bm) = true) {rest : List Value} (hC : h.get? C = some (excClassObj nm q C N bs bm hdct sn sub ab col dd k0 k1 k2 k3 k5 "Exception.__new__"))
  (hq : R (.ok (.ret (.ref (h.objs.size + 1)))) ⟨(h.push { cls := .type "tuple", data := .seq rest.toArray }).push { cls := .ref C, data := .fields #[.ref h.objs.size, .none, .none, .none, .bool false, .none] }, g, d, t, os⟩) (hrest : rest.length <= sizeLine) :
  codeAny (model prog w) A (.builtin "Exception.__new__" ⟨.ref C :: rest, []⟩) R ⟨h, g, d, t, os⟩ := by
 have Fn := PySem.F.excBase_Exception
 have hends := Fn.ends
 have hcB := (zbA (.ref C) ht).2.2.1
 obtain ⟨hcA, hcN⟩ := zlU ht
 refine codeAny_builtinAt Fn.entry ?_
 unfold Builtin.«BaseException.__new__»
 refine wpAt_bind ?_
 show wpAt _ _ _ (stack >>= _) _ _ _
 refine wpAt_bind (wpAt_stack fun p below => wpAt_of_wpAny ?_)
 wp_walk
 refine wpAt_of_wpAny ?_
 rw [Fn.owner]
 repeat (first | with_reducible refine wpAny_madeHere_exc Fn.canon hC ?_ | with_reducible refine wpAny_loadPart_at hC ?_ | (with_reducible refine wpAny_isSubtype_exc hC ?_; first | rw [hcB] | rw [hcA] | rw [hcN]) | wp_step)
 show R _ _
 rw [Heap.size_push]
 exact hq
theorem zdu {E : Value -> Shared -> Prop} {K : Frag} {f : Addr} (ht : zaz (.ref C :: bm) = true) {rest : List Value} {Q : Fin -> Shared -> Prop} (hC : h.get? C = some (excClassObj nm q C N bs bm hdct sn sub ab col dd k0 k1 k2 k3 k5 "Exception.__new__")) (X : K.In h) (hf : findIn K (.ref C) "__init__" = some (some (.ref f))) (hft : typeIn K (.ref f) = some (.type "function")) (hrest : rest.length <= sizeLine)
  (hq : codeAny (model prog w) A (.call (.ref f) ⟨.ref (h.objs.size + 1) :: rest, []⟩) (fun r s' => r = .ok (.ret .none) /\ Q (.done (.ret (.ref (h.objs.size + 1)))) s') ⟨(h.push { cls := .type "tuple", data := .seq rest.toArray }).push { cls := .ref C, data := .fields #[.ref h.objs.size, .none, .none, .none, .bool false, .none] }, g, d, t, os⟩) :
  wpAny (model prog w) A (Builtin.«type.__call__» ⟨.ref C :: rest, []⟩) Q E ⟨h, g, d, t, os⟩ := by
 have Fn := PySem.F.excBase_Exception
 repeat (first | with_reducible refine wpAny_loadPart_at hC ?_ | with_reducible refine wpAny_madeBy_exc hC ?_ | wp_step)
 refine codeAny_call_builtin_code (Code.quiet_builtin _ Fn.quiet) (zdZ ht hC ?_)
 refine zln ht hC ?_ hrest
 show wpAny _ _ _ _ _ _
 have up : ∀ b o, h.get? b = some o -> ((h.push { cls := .type "tuple", data := .seq rest.toArray }).push { cls := .ref C, data := .fields #[.ref h.objs.size, .none, .none, .none, .bool false, .none] }).get? b = some o := fun b o e => Heap.get?_push_of_some _ (Heap.get?_push_of_some _ e)
 have hC₁ := up _ _ hC
 have hget : ((h.push { cls := .type "tuple", data := .seq rest.toArray }).push
   { cls := .ref C, data := .fields #[.ref h.objs.size, .none, .none, .none, .bool false, .none] }).get? (h.objs.size + 1) = some
   { cls := .ref C, data := .fields #[.ref h.objs.size, .none, .none, .none, .bool false, .none] } := by heap_get
 have hcC : (Value.ref C :: bm).contains (.ref C) = true := by simp
 have X1 : K.In ((h.push { cls := .type "tuple", data := .seq rest.toArray }).push { cls := .ref C, data := .fields #[.ref h.objs.size, .none, .none, .none, .bool false, .none] }) := fun b o e => up _ _ (X b o e)
 unfold isInstance
 repeat (first | with_reducible refine wpAny_loadPart_at hget ?_ | (with_reducible refine wpAny_isSubtype_exc hC₁ ?_; rw [hcC]) | wp_step)
 show wpAny _ _ (typeLookup (.ref C) _) _ _ _
 refine Looks.at (looks_findIn X1 hf) ?_
 refine wpAny_holding (wpAny_bind (Looks.at (bind_fn X1 _ hft) ?_))
 refine wpAny_bind (wpAny_call (codeAny_mono hq fun r s' hr => ?_))
 obtain ⟨rfl, hr⟩ := hr
 wp_walk
 exact hr
theorem zco {E : Value -> Shared -> Prop} {K : Frag} {f : Addr} (ht : zaz (.ref C :: bm) = true) {rest : List Value} {Q : Value -> Shared -> Prop} (hC : h.get? C = some (excClassObj nm q C N bs bm hdct sn sub ab col dd k0 k1 k2 k3 k5 "Exception.__new__")) (X : K.In h) (hf : findIn K (.ref C) "__init__" = some (some (.ref f))) (hft : typeIn K (.ref f) = some (.type "function")) (hrest : rest.length <= sizeLine)
  (hq : ∀ A', A'.depth <= A.depth + 1 -> codeAny (model prog w) A' (.call (.ref f) ⟨.ref (h.objs.size + 1) :: rest, []⟩) (fun r s' => r = .ok (.ret .none) /\ Q (.ref (h.objs.size + 1)) s') ⟨(h.push { cls := .type "tuple", data := .seq rest.toArray }).push { cls := .ref C, data := .fields #[.ref h.objs.size, .none, .none, .none, .bool false, .none] }, g, d, t, os⟩) :
  wpAny (model prog w) A (call (.ref C) rest) Q E ⟨h, g, d, t, os⟩ := by
 have f1 := tc_lookup
 have f2 := tc_bind (.ref C)
 have hT : (⟨h, g, d, t, os⟩ : Shared).TypeIs (.ref C) "type" := ⟨_, hC, rfl⟩
 refine wpAny_call (codeAny_of_tree ?_)
 show wpAny _ _ (callAny (.ref C) _) _ _ _
 repeat (any_goals (first | assumption | with_reducible refine wpAny_loadPart_at hC ?_ | wp_step))
 refine ⟨rfl, ?_⟩
 refine codeAny_call_builtin_at (Code.quiet_builtin _ (by decide +kernel)) entry_typeCall (wpAny_check_type_call_sub hC (zdu ht hC X hf hft hrest (hq _ ?_)))
 exact Nat.le_refl _
end
end Mine.Lake
namespace Mine.Lake
open PySem PySem.W PySem.Calls PySem.SeqAt
inductive IniD (S : Sta) (f D : Addr) : Prop
 | mk (a b : Str) (p0 p1 p2 p3 p4 p5 p6 p7 p8 p9 : Pos) (hab : a ≠ b) (hpp : (p2.endLine == p4.line) = true) (hi : InitFn S f D [a, b] (zbS a b (Str.ofString "what") b p0 p1 p2 p3 p4 p5 p6 p7 p8 p9))
inductive IniP (S : Sta) (f D : Addr) : Prop
 | mk (a b c : Str) (p0 p1 p2 p3 p4 p5 p6 p7 p8 p9 : Pos) (hab : a ≠ b) (hac : a ≠ c) (hbc : b ≠ c) (hpp : (p2.endLine == p4.line) = true) (hi : InitFn S f D [a, b, c] (zbS a b (Str.ofString "spot") c p0 p1 p2 p3 p4 p5 p6 p7 p8 p9))
inductive ClsExc (S : Sta) (C : Addr) : Prop
 | mk (nm q : Str) (N : Addr) (bs bm : List Value) (sn : List Str) (sub : List Value) (ab : Bool) (col : Option Bool) (dd : Option Addr) (k0 k1 k2 k3 k5 : Option Value) (h : S.K.lookup C = some (excClassObj nm q C N bs bm true sn sub ab col dd k0 k1 k2 k3 k5 "Exception.__new__")) (t : zaz (.ref C :: bm) = true)
inductive ClsAt (K : Frag) (C : Addr) : Prop
 | mk (o : Obj) (cd : ClassData) (h : K.lookup C = some o) (d : o.data = .cls cd)
structure ExcK (S : Sta) (D P fD fP : Addr) : Prop where
 si : SupIn S
 cls : ∀ b, ClsExc S (S.ec b)
 f0 : findIn S.K (.ref (S.ec false)) "__init__" = some (some (.ref fP))
 f1 : findIn S.K (.ref (S.ec true)) "__init__" = some (some (.ref fD))
 tP : typeIn S.K (.ref fP) = some (.type "function")
 tD : typeIn S.K (.ref fD) = some (.type "function")
 iD : IniD S fD D
 iP : IniP S fP P
 cD : ClsAt S.K D
 cP : ClsAt S.K P
 mD : ∀ b, mroIn S.K (S.ec b) (.ref D) = some true
 mP : mroIn S.K (S.ec false) (.ref P) = some true
 aD : ∀ b, (clsIn S.K (S.ec b)).bind (fun cd => alongIn S.K "__init__" ((cd.mro.dropWhile (· != .ref D)).drop 1)) = some (some (.builtin "Exception.__init__"))
 aP : (clsIn S.K (S.ec false)).bind (fun cd => alongIn S.K "__init__" ((cd.mro.dropWhile (· != .ref P)).drop 1)) = some (some (.ref fD))
 no : nsIn S.K cStatics "thirdparty.any" = some none
 sa : ∀ b, findIn S.K (.ref (S.ec b)) "__setattr__" = some (some (.builtin "object.__setattr__"))
 tw : ∀ b, takerIn S.K (S.ec b) (Str.ofString "what") = some none
 ts : takerIn S.K (S.ec false) (Str.ofString "spot") = some none
section
variable {S : Sta} {nd : Nat} {D P fD fP : Addr}
theorem zer {P : Prop} {lim : Bool} {ds : List V} {exc : Exc} (he : zes lim ds = some exc) (k1 : ∀ a w, ds = [a] -> a = .pd (.str w) -> lim = true -> exc = ⟨true, w, .none⟩ -> P) (k2 : ∀ a b w d, ds = [a, b] -> a = .pd (.str w) -> b = .pd d -> lim = false -> exc = ⟨false, w, d⟩ -> P) : P := by
 cases ds with
 | nil => cases he
 | cons a r =>
  cases r with
  | nil => exact bd_e he fun w hw he => gd_e he fun hl e => k1 a w rfl (zch hw) hl e.symm
  | cons b r =>
   cases r with
   | nil => exact bd_e he fun w hw he => bd_e he fun d hd he => gd_e he fun hl e => k2 a b w d rfl (zch hw) (zbm hd) hl e.symm
   | cons => cases he
theorem zlT {h : Heap} {g : Gh} {vs : List Value} {ds : List V} {exc : Exc} (he : zes true ds = some exc) (r : VRs S h g vs ds) : ∃ v w, vs = [v] /\ exc = ⟨true, w, .none⟩ /\ PV S.w.params h g.κ v (.str w) := by
 refine zer he (fun a w e1 e2 _ e => ?_) fun a b w d _ _ _ q => by cases q
 obtain ⟨v, q, r1⟩ := vrs1 (e1 ▸ r)
 exact ⟨v, w, q, e, zbN (e2 ▸ r1)⟩
theorem zlR {h : Heap} {g : Gh} {vs : List Value} {ds : List V} {exc : Exc} (he : zes false ds = some exc) (r : VRs S h g vs ds) : ∃ v u w d, vs = [v, u] /\ exc = ⟨false, w, d⟩ /\ PV S.w.params h g.κ v (.str w) /\ PV S.w.params h g.κ u d := by
 refine zer he (fun a w _ _ q => by cases q) fun a b w d e1 e2 e3 _ e => ?_
 obtain ⟨v, u, q, r1, r2⟩ := vrs2 (e1 ▸ r)
 exact ⟨v, u, w, d, q, e, zbN (e2 ▸ r1), zbN (e3 ▸ r2)⟩
theorem zfR {fr : List Env} {g : Gh} {σ : Hp} {s s0 s' : Shared} {x T dx : Addr} {exc : Exc} {es : List DictEntry} {n : Nat} {mp : Str -> Option Value} (I : Inv S fr g σ s.heap) (up : ∀ b o, s.heap.get? b = some o -> s0.heap.get? b = some o) (b : But x s0 s') (r0 : Rest s s0)
  (nx : s.heap.get? x = none) (hdn : s0.heap.get? dx = none) (ne : dx ≠ x) (hx : s'.heap.get? x = some { cls := .ref (S.ec exc.lim), dict := some dx, data := .fields #[.ref T, .none, .none, .none, .bool false, .none] }) (hd : s'.heap.get? dx = some (dictOf es n)) (hns : s'.heap.Ns dx mp)
  (hw : ∃ v, mp (Str.ofString "what") = some v /\ PV S.w.params s.heap g.κ v (.str exc.what)) (hsp : exc.lim = false -> ∃ v, mp (Str.ofString "spot") = some v /\ PV S.w.params s.heap g.κ v exc.spot) :
  ExcNew S fr g σ s exc (.ref x) s' := by
 have kp : ∀ c o, s.heap.get? c = some o -> s'.heap.get? c = some o := fun c o e => b.1 c o (fun z => by rw [z, nx] at e; cases e) (up _ _ e)
 have ndx : s.heap.get? dx = none := by
  cases z : s.heap.get? dx with
  | none => rfl
  | some o => rw [up _ _ z] at hdn; cases hdn
 obtain ⟨I1, E1⟩ := I.keeps kp
 obtain ⟨I2, E2, U2⟩ := Inv.seal (k := .fz) E1 I1 ndx (I.ot _ ndx) (fun _ _ _ e => e) hd
 obtain ⟨I3, E3, U3⟩ := Inv.seal (k := .ex) E2 I2 nx ((if_neg ne.symm).trans (I.ot _ nx)) (fun _ _ _ e => e) hx
 refine ⟨x, _, rfl, E3, I3, ⟨if_pos rfl, _, _, dx, mp, hx, rfl, rfl, rfl, (by show 1 < 6; decide), (if_neg ne).trans (if_pos rfl), hns, ?_, fun q => ?_, .inl ⟨rfl, rfl⟩⟩, ?_⟩
 ·obtain ⟨v, h1, h2⟩ := hw; exact ⟨v, h1, h2.mono E3.fz⟩
 ·obtain ⟨v, h1, h2⟩ := hsp q; exact ⟨v, h1, h2.mono E3.fz⟩
 ·obtain ⟨_, _, _, rfl⟩ := b; exact r0.trans ⟨rfl, rfl, rfl⟩
theorem zll {h : Heap} {dx : Addr} {hs : Int} {tk : Tok} {v : Value} (e : h.get? dx = some (dictOf [⟨hs, .str (Str.ofString "what") tk, v⟩] 1)) : ∃ mp, h.Ns dx mp /\ mp (Str.ofString "what") = some v :=
 ⟨_, ⟨_, _, _, e, rfl, fun a ha => by simp at ha; subst ha; exact ⟨_, _, rfl⟩, fun _ => rfl⟩, rfl⟩
theorem zlm {h : Heap} {dx : Addr} {hs hs2 : Int} {tk tk2 : Tok} {v u : Value} (e : h.get? dx = some (dictOf [⟨hs, .str (Str.ofString "what") tk, v⟩, ⟨hs2, .str (Str.ofString "spot") tk2, u⟩] 2)) : ∃ mp, h.Ns dx mp /\ mp (Str.ofString "what") = some v /\ mp (Str.ofString "spot") = some u :=
 ⟨_, ⟨_, _, _, e, rfl, fun a ha => by simp at ha; rcases ha with rfl | rfl <;> exact ⟨_, _, rfl⟩, fun _ => rfl⟩, rfl, rfl⟩
noncomputable abbrev newX (h : Heap) (C : Addr) (vs : List Value) : Heap := (h.push { cls := .type "tuple", data := .seq vs.toArray }).push { cls := .ref C, data := .fields #[.ref h.objs.size, .none, .none, .none, .bool false, .none] }
theorem zhZ (ok : StaOk S) (k : ExcK S D P fD fP) : ExcMk S nd := by
 refine ⟨fun {A env outer L g σ s vs ds lim exc Ev} c I r he => ?_⟩
 have X := kIn ok I
 obtain ⟨nm, q, N, bs, bm, sn, sub, ab, col, dd, k0, k1, k2, k3, k5, hC, ht⟩ := k.cls lim
 obtain ⟨oD, cdD, hD, hDt⟩ := k.cD
 obtain ⟨a, b, p0, p1, p2, p3, p4, p5, p6, p7, p8, p9, hab, hpp, hi⟩ := k.iD
 obtain ⟨h, gs, d, t, os⟩ := s
 have nx0 : h.get? (h.objs.size + 1) = none := Heap.get?_none_of_le (Nat.le_succ _)
 have nB : S.B.get? (h.objs.size + 1) = none := by
  cases z : S.B.get? (h.objs.size + 1) with
  | none => rfl
  | some o => have := I.stays _ _ z; rw [nx0] at this; cases this
 have up : ∀ b o, h.get? b = some o -> (newX h (S.ec lim) vs).get? b = some o := fun b o e => Heap.get?_push_of_some _ (Heap.get?_push_of_some _ e)
 have hget : (newX h (S.ec lim) vs).get? (h.objs.size + 1) = some { cls := .ref (S.ec lim), data := .fields #[.ref h.objs.size, .none, .none, .none, .bool false, .none] } := by heap_get
 have st : S.B.StaysIn (newX h (S.ec lim) vs) := fun b o e => up _ _ (I.stays b o e)
 have dp := c.depth
 have hC1 := X _ _ hC
 obtain ⟨cd, oC, hc, hm, hh, hC', hCt⟩ : ∃ cd oC, clsIn S.K (S.ec lim) = some cd /\ cd.mro = .ref (S.ec lim) :: bm /\ cd.hasDict = true /\ S.K.lookup (S.ec lim) = some oC /\ oC.data = .cls cd := ⟨_, _, by unfold clsIn; rw [hC], rfl, rfl, hC, rfl⟩
 have ht' : zaz cd.mro = true := by rw [hm]; exact ht
 have hal := k.aD lim
 rw [hc, Option.bind_some] at hal
 cases lim with
 | true =>
  obtain ⟨v, w0, rfl, rfl, rv⟩ := zlT he r
  refine zco ht hC1 X k.f1 k.tD (by show 1 <= sizeLine; rw [sizeLine_eq]; omega) fun A' hA => ?_
  refine zhY ok k.si hpp hab hi (by omega) st hget rfl nB hD hDt hC' hCt (k.mD true) ht' hh k.no hal (k.sa true) (k.tw true) fun s' hs' => ⟨rfl, ?_⟩
  obtain ⟨b1, T, dx, tk, q1, q2, q3, q4⟩ := hs'
  obtain ⟨mp, n1, n2⟩ := zll q4
  exact zfR I up b1 ⟨rfl, rfl, rfl⟩ nx0 q2 q3 q1 q4 n1 ⟨_, n2, rv⟩ nofun
 | false =>
  obtain ⟨v, u, w0, d0, rfl, rfl, rv, ru⟩ := zlR he r
  obtain ⟨oP, cdP, hP, hPt⟩ := k.cP
  have hal2 := k.aP
  rw [hc, Option.bind_some] at hal2
  obtain ⟨a', b', c', p0', p1', p2', p3', p4', p5', p6', p7', p8', p9', hab', hac', hbc', hpp', hi'⟩ := k.iP
  obtain ⟨od, fd, osl, cc, oc1, od1, osl1, co, oc2, od2, osl2, vs2, file, tf, z1⟩ := id hi
  refine zco ht hC1 X k.f0 k.tP (by show 2 <= sizeLine; rw [sizeLine_eq]; omega) fun A' hA => ?_
  refine zkH ok k.si hpp' hab' hac' hbc' hi' (by omega) st hget rfl nB hP hPt hC' hCt k.mP ht' hh k.no hal2 z1 rfl rfl (k.sa false) k.ts (fun {A2 s1 R'} hA2 st1 hx1 hR1 => ?_) fun s' hs' => ⟨rfl, ?_⟩
  ·exact zhY ok k.si hpp hab hi (by omega) st1 hx1 rfl nB hD hDt hC' hCt (k.mD false) ht' hh k.no hal (k.sa false) (k.tw false) hR1
  ·obtain ⟨b1, T, dx, tk, tk2, q1, q2, q3, q4⟩ := hs'
   obtain ⟨mp, n1, n2, n3⟩ := zlm q4
   exact zfR I up b1 ⟨rfl, rfl, rfl⟩ nx0 q2 q3 q1 q4 n1 ⟨_, n2, rv⟩ fun _ => ⟨_, n3, ru⟩
end
end Mine.Lake
namespace Mine.Lake
open PySem PySem.W PyProof.Rows PySem.Calls PySem.SeqAt
theorem zfj {S : Sta} {D P fD fP : Addr} (ok : StaOk3 S) (k2 : KOk2 S) (hn : NewIn S) (xk : ExcK S D P fD fP) (tabs : ∀ f fn, S.tab f = some fn -> FnOk S f fn) : ∀ nd, CallOk S (zaD S.tab S.gc nd) nd
 | 0 => ⟨fun _ _ _ _ h => False.elim h, fun _ _ _ h => False.elim h⟩
 | nd + 1 => ⟨fun c I r f0 h => zl0 ok tabs ⟨zfj ok k2 hn xk tabs nd, zhv ok.toStaOk hn, zhZ ok.toStaOk xk⟩ c I r f0 h, fun c I r h => zjP ok k2 ⟨zfj ok k2 hn xk tabs nd, zhv ok.toStaOk hn, zhZ ok.toStaOk xk⟩ c I r h⟩
noncomputable def zno (S : Sta) (fd : FuncData) (fn : Fn) (lam : Bool) : Bool := decide (fd.globals = mainGlobals) && decide (fd.builtins = builtinsNs) && fd.closure.isEmpty && (fd.scope.kind == .function) && !fd.scope.isCoroutine && !fd.scope.isGenerator && codeIn S.K fd.code fd.qualname && zb6 fd.params && (match fd.defaults with | .none => true | _ => false) &&
 decide ((fd.params.args.map (·.arg)).Nodup) && (psOf fd.scope.names (fd.params.args.map (·.arg)) == some fn.ps) && decide (fn.size = fd.scope.names.length) && fd.scope.names.all (fun p => p.2 != .free) && (!lam || ((match fd.code with | .ref c => decide (c = S.lc) | _ => false) && decide ((fd.qualname ++ ".<locals>.") ++ "<lambda>" = S.lq)))
noncomputable def zf4 (fd : FuncData) : List Stmt := match fd.body with | .stmts b => b | _ => []
noncomputable def fnIn (S : Sta) (f : Nat) (fn : Fn) (lam : Bool) : Bool := match S.K.lookup (S.fa f) with
 | some ⟨_, _, .func fd, _⟩ => (match fd.body with | .stmts _ => true | _ => false) && zno S fd fn lam
 | _ => false
noncomputable def fdOf (S : Sta) (f : Nat) : Option FuncData := match S.K.lookup (S.fa f) with
 | some ⟨_, _, .func fd, _⟩ => some fd
 | _ => none
theorem zas {S : Sta} (ok : StaOk S) {f : Nat} {fn : Fn} {lam : Bool} {fd : FuncData} (h : fnIn S f fn lam = true) (hd : fdOf S f = some fd) (hc : GSs S fd.scope.names lam (zf4 fd) fn.body) : FnOk S f fn := by
 unfold fnIn at h
 unfold fdOf at hd
 split at h
 ·rename_i oc od fd' osl hl
  rw [hl] at hd
  cases hd
  simp only [Bool.and_eq_true] at h
  obtain ⟨h1, h⟩ := h
  unfold zno at h
  simp only [Bool.and_eq_true, beq_iff_eq, Bool.not_eq_true', decide_eq_true_eq, List.isEmpty_iff] at h
  obtain ⟨⟨⟨⟨⟨⟨⟨⟨⟨⟨⟨⟨⟨k1, k2⟩, k3⟩, k4⟩, k5⟩, k6⟩, k7⟩, k8⟩, k9⟩, k10⟩, k11⟩, k12⟩, k13⟩, k14⟩ := h
  have hb : fd.body = .stmts (zf4 fd) := by
   unfold zf4
   split at h1
   ·rename_i q; rw [q]
   ·cases h1
  refine ⟨oc, od, fd, osl, zf4 fd, lam, ok.K _ _ hl, hb, ⟨k1, k2, k3, by revert k4; cases fd.scope.kind <;> decide, k5, k6, codeRec_of ok.K k7, k8, ?_, k10, k11, k12, fun x i q => ?_, fun hlam => ?_⟩, hc⟩
  ·split at k9
   ·assumption
   ·cases k9
  ·have := List.all_eq_true.mp k13 _ (zcT q)
   exact absurd (show (NameKind.free != NameKind.free) = true from this) (by decide)
  ·rw [hlam] at k14
   simp only [Bool.not_true, Bool.false_or, Bool.and_eq_true, decide_eq_true_eq] at k14
   obtain ⟨m1, m2⟩ := k14
   refine ⟨?_, m2⟩
   split at m1
   ·rename_i c hc; rw [hc, of_decide_eq_true m1]
   ·cases m1
 ·cases h
theorem zke {K : Frag} {h : Heap} {mg : Str -> Option Value} {n : Str} (X : K.In h) (G : h.Ns mainGlobals mg) (e : nsIn K mainGlobals n = some none) : mg n = none := by
 obtain ⟨o, es, ep, ho, hd, _, hf⟩ := G
 unfold nsIn at e
 split at e
 ·rename_i c d es' n' sl q
  have := X _ _ q
  rw [ho] at this
  cases this
  cases hd
  split at e
  ·cases e
  ·rename_i hn
   rw [← hf]
   simp only [nsFind, findBy, Option.map_eq_none_iff]
   rw [← Array.find?_toList]
   exact hn
 ·cases e
noncomputable def znk (S : Sta) : Bool := S.cx.funs.all fun p => (p.2 != 0) && keepIn S.K (.ref (S.fa p.2)) && (nsIn S.K mainGlobals p.1 == some (some (.ref (S.fa p.2))))
noncomputable def zlp (S : Sta) : Bool := S.cx.meths.all fun p => (p.2 != 0) && keepIn S.K (.ref (S.fa p.2)) && decide (p.1 ≠ Str.ofString "scope") && (findIn S.K (.ref S.cev) p.1 == some (some (.ref (S.fa p.2)))) && (typeIn S.K (.ref (S.fa p.2)) == some (.type "function"))
structure KSeen (S : Sta) : Prop where
 fu : znk S = true
 me : zlp S = true
 ek : keepIn S.K (.ref S.cev) = true
 eg : nsIn S.K mainGlobals (Str.ofString "Evaluator") = some (some (.ref S.cev))
 xCl : ∀ b, isClsIn S.K (S.ec b) = true
 xTy : ∀ b, typeIn S.K (.ref (S.ec b)) = some (.type "type")
 xTu : ∀ b, instIn S.K (.ref (S.ec b)) (.type "tuple") = some false
 xEq : ∀ a b, mroIn S.K (S.ec a) (.ref (S.ec b)) = some (a == b)
 xKp : ∀ b, keepIn S.K (.ref (S.ec b)) = true
 xF : nsIn S.K mainGlobals (Str.ofString "EvalFault") = some (some (.ref (S.ec false)))
 xL : nsIn S.K mainGlobals (Str.ofString "LimitFault") = some (some (.ref (S.ec true)))
 fr : ownNames.all (fun x => nsIn S.K mainGlobals x == some none) = true
theorem zoC {S : Sta} (ok : StaOk S) (k : KSeen S) : KOk2 S where
 fk := fun x f h => by
  have := List.all_eq_true.mp k.fu _ (zaB h)
  simp only [Bool.and_eq_true, bne_iff_ne, ne_eq] at this
  exact ⟨this.1.1, this.1.2⟩
 mt := fun x f h => by
  have := List.all_eq_true.mp k.me _ (zaB h)
  simp only [Bool.and_eq_true, bne_iff_ne, ne_eq, decide_eq_true_eq, beq_iff_eq] at this
  obtain ⟨⟨⟨⟨h1, h2⟩, h3⟩, h4⟩, h5⟩ := this
  exact ⟨h1, h2, h3, h4, h5⟩
 ek := k.ek
 eg := mg_of ok.K ok.g k.eg
 xCl := k.xCl
 xTy := k.xTy
 xTu := k.xTu
 xEq := k.xEq
 xKp := k.xKp
 xF := mg_of ok.K ok.g k.xF
 xL := mg_of ok.K ok.g k.xL
theorem sta3 {S : Sta} (ok : StaOk S) (k : KSeen S) (ko : KOk S) (cons : ∀ x i, za6 S.cx.cons x = some i -> ∃ v, S.mg x = some v /\ PV S.w.params S.B (fun _ => .fz) v (S.gc i)) : StaOk3 S where
 toStaOk := ok
 cons := cons
 funs := fun x f h => by
  have := List.all_eq_true.mp k.fu _ (zaB h)
  simp only [Bool.and_eq_true, beq_iff_eq] at this
  exact mg_of ok.K ok.g this.2
 free := fun x hx => zke ok.K ok.g (beq_iff_eq.mp (List.all_eq_true.mp k.fr x hx))
 ko := ko
end Mine.Lake
namespace Mine.Lake
open PySem PySem.W PyProof.Rows
noncomputable abbrev ci (i : Int) : X := .c (.int i)
noncomputable abbrev cz (x : Str) : X := .c (.str x)
noncomputable def fn1 : Fn := ⟨2, [0, 1], [
 .ret (.ite (.op .le (.v 0) (.v 1)) (.tup [.tup [.v 0, .v 1]]) (.tup []))]⟩
noncomputable def fn2 : Fn := ⟨4, [0, 1, 2], [
 .ite (.and (.op .gt (.prim .len [.v 0]) (ci 0)) (.op .le (.v 1) (.op .add (.sub (.sub (.v 0) (.neg (ci 1))) (ci 1)) (ci 1)))) [.ite (.op .gt (.v 2) (.sub (.sub (.v 0) (.neg (ci 1))) (ci 1))) [.seti (.v 0) (.neg (ci 1)) (.tup [.sub (.sub (.v 0) (.neg (ci 1))) (ci 0), .v 2])] []] [.ex (.lm .append (.v 0) [.tup [.v 1, .v 2]])]]⟩
noncomputable def fn3 : Fn := ⟨6, [0], [
 .asg 1 (.lst true []), .for (.n 2) (.prim .sorted [.v 0]) [.ex (.call 2 [.v 1, .v 2, .v 2])], .ret (.prim .tuple [.v 1])]⟩
noncomputable def fn4 : Fn := ⟨5, [0, 1], [
 .for (.t [.n 2, .n 3]) (.v 0) [.ite (.op .le (.v 1) (.v 3)) [.ret (.prim .max [.v 2, .v 1])] []], .ret (.c .none)]⟩
noncomputable def fn5 : Fn := ⟨3, [0, 1], [
 .ret (.op .eq (.call 4 [.v 0, .v 1]) (.v 1))]⟩
noncomputable def fn6 : Fn := ⟨5, [0], [
 .ret (.and (.prim .isi [.v 0, .ty "tuple"]) (.and (.op .eq (.prim .len [.v 0]) (ci 2)) (.prim .isi [.sub (.v 0) (ci 1), .ty "list"])))]⟩
noncomputable def fn7 : Fn := ⟨4, [0], [
 .ret (.and (.prim .isi [.v 0, .ty "tuple"]) (.not (.call 6 [.v 0])))]⟩
noncomputable def fn8 : Fn := ⟨5, [0, 1], [
 .ite (.prim .isi [.v 0, .ty "int"]) [.ret (.prim .int [.v 0])] [], .raise false [cz ⟨#[97,32,110,117,109,98,101,114,32,105,115,32,119,97,110,116,101,100]⟩, .v 1]]⟩
noncomputable def fn9 : Fn := ⟨5, [0, 1], [
 .ite (.prim .isi [.v 0, .ty "bool"]) [.ret (.v 0)] [], .raise false [cz ⟨#[116,114,117,101,32,111,114,32,102,97,108,115,101,32,105,115,32,119,97,110,116,101,100]⟩, .v 1]]⟩
noncomputable def fn10 : Fn := ⟨5, [0, 1], [
 .ite (.prim .isi [.v 0, .ty "str"]) [.ret (.v 0)] [], .raise false [cz ⟨#[97,32,116,101,120,116,32,105,115,32,119,97,110,116,101,100]⟩, .v 1]]⟩
noncomputable def fn11 : Fn := ⟨4, [0, 1], [
 .ite (.call 7 [.v 0]) [.ret (.v 0)] [], .raise false [cz ⟨#[97,32,115,101,116,32,105,115,32,119,97,110,116,101,100]⟩, .v 1]]⟩
noncomputable def fn12 : Fn := ⟨4, [0, 1], [
 .ite (.call 6 [.v 0]) [.ret (.sub (.v 0) (ci 1))] [], .raise false [cz ⟨#[97,110,32,97,114,114,97,121,32,105,115,32,119,97,110,116,101,100]⟩, .v 1]]⟩
noncomputable def fn13 : Fn := ⟨6, [0, 1], [
 .ite (.op .ge (.op .sub (.v 1) (.v 0)) (.g 0)) [.raise true [.fstr [cz ⟨#[97,32,115,101,116,32,104,97,115,32,97,116,32,109,111,115,116,32]⟩, .g 0, cz ⟨#[32,110,117,109,98,101,114,115]⟩]]] [], .ret (.prim .tuple [.prim .range [.v 0, .op .add (.v 1) (ci 1)]])]⟩
noncomputable def fn14 : Fn := ⟨4, [0], [
 .ite (.op .ge (.prim .abs [.v 0]) (.op .pow (ci 10) (.g 1))) [.raise true [.fstr [cz ⟨#[97,32,110,117,109,98,101,114,32,104,97,115,32,97,116,32,109,111,115,116,32]⟩, .g 1, cz ⟨#[32,102,105,103,117,114,101,115]⟩]]] [], .ret (.v 0)]⟩
noncomputable def fn15 : Fn := ⟨9, [0, 1, 2, 3], [
 .ite (.op .isin (.v 0) (.tup [cz ⟨#[61]⟩, cz ⟨#[61,61]⟩])) [.bad] [], .ite (.op .eq (.v 0) (cz ⟨#[33,61]⟩)) [.bad] [], .ite (.not (.or (.and (.prim .isi [.v 1, .ty "int"]) (.prim .isi [.v 2, .ty "int"])) (.and (.prim .isi [.v 1, .ty "str"]) (.prim .isi [.v 2, .ty "str"])))) [.asgs [1, 2] [.call 11 [.v 1, .v 3], .call 11 [.v 2, .v 3]]] [], .ite (.op .eq (.v 0) (cz ⟨#[60]⟩)) [.ret (.op .lt (.v 1) (.v 2))] [], .ite (.op .eq (.v 0) (cz ⟨#[60,61]⟩)) [.ret (.op .le (.v 1) (.v 2))] [], .ret (.ite (.op .eq (.v 0) (cz ⟨#[62]⟩)) (.op .gt (.v 1) (.v 2)) (.op .ge (.v 1) (.v 2)))]⟩
noncomputable def fn16 : Fn := ⟨7, [0, 1, 2, 3], [
 .ite (.op .eq (.v 0) (cz ⟨#[43]⟩)) [.ret (.call 14 [.op .add (.v 1) (.v 2)])] [], .ite (.op .eq (.v 0) (cz ⟨#[45]⟩)) [.ret (.call 14 [.op .sub (.v 1) (.v 2)])] [], .ite (.op .eq (.v 0) (cz ⟨#[42]⟩)) [.ret (.call 14 [.op .mul (.v 1) (.v 2)])] [], .ite (.op .eq (.v 0) (cz ⟨#[100,105,118]⟩)) [.bad] [], .ite (.op .eq (.v 0) (cz ⟨#[109,111,100]⟩)) [.bad] [], .bad]⟩
noncomputable def fn17 : Fn := ⟨7, [0], [
 .ite (.prim .isi [.v 0, .ty "bool"]) [.ret (.ite (.v 0) (cz ⟨#[116,114,117,101]⟩) (cz ⟨#[102,97,108,115,101]⟩))] [], .ite (.prim .isi [.v 0, .ty "int"]) [.ret (.prim .str [.v 0])] [], .ite (.prim .isi [.v 0, .ty "str"]) [.ret (.v 0)] [], .ite (.call 6 [.v 0]) [.ret (.op .add (.op .add (cz ⟨#[91]⟩) (.join (cz ⟨#[44,32]⟩) (.comp false (.call 17 [.w 1]) (.n 1) (.sub (.v 0) (ci 1)) none))) (cz ⟨#[93]⟩))] [], .ite (.and (.op .gt (.prim .len [.v 0]) (ci 1)) (.op .eq (.op .sub (.sub (.v 0) (.neg (ci 1))) (.sub (.v 0) (ci 0))) (.op .sub (.prim .len [.v 0]) (ci 1)))) [.ret (.fstr [.sub (.v 0) (ci 0), cz ⟨#[46,46]⟩, .sub (.v 0) (.neg (ci 1))])] [], .ret (.op .add (.op .add (cz ⟨#[123]⟩) (.join (cz ⟨#[44]⟩) (.comp false (.prim .str [.w 1]) (.n 1) (.v 0) none))) (cz ⟨#[125]⟩))]⟩
noncomputable def fn18 : Fn := ⟨11, [0, 1, 2, 3], [
 .ite (.op .eq (.v 0) (cz ⟨#[98,111,111,108]⟩)) [.ret (.call 9 [.v 2, .v 3])] [], .ite (.op .eq (.v 0) (cz ⟨#[115,116,114]⟩)) [.ret (.call 10 [.v 2, .v 3])] [], .asg 4 (.ite (.op .eq (.v 0) (cz ⟨#[115,101,116]⟩)) (.call 11 [.v 2, .v 3]) (.call 8 [.v 2, .v 3])), .ite (.and (.op .isnot (.v 1) (.c .none)) (.op .ne (.comp false (.w 1) (.n 1) (.ite (.op .eq (.v 0) (cz ⟨#[115,101,116]⟩)) (.v 4) (.lst false [.v 4])) (some (.not (.call 5 [.v 1, .w 1])))) (.lst false []))) [.raise false [.fstr [.call 17 [.v 4], cz ⟨#[32,105,115,32,110,111,116,32,119,105,116,104,105,110,32,105,116,115,32,98,111,117,110,100,115]⟩], .v 3]] [], .ret (.v 4)]⟩
noncomputable def fn19 : Fn := ⟨4, [0, 1], [
 .asg 2 (.sub (.v 0) (cz ⟨#[107]⟩)), .seti (.v 0) (cz ⟨#[107]⟩) (.op .add (.v 2) (ci 1)), .ite (.op .lt (.v 2) (.prim .len [.sub (.v 0) (cz ⟨#[99,101,108,108,115]⟩)])) [.ret (.op .mod (.sub (.sub (.v 0) (cz ⟨#[99,101,108,108,115]⟩)) (.v 2)) (.v 1))] [], .ret (.op .mod (.op .mod (.op .add (.op .add (.op .add (.op .mul (.op .mul (ci 5) (.v 2)) (.v 2)) (.op .mul (ci 3) (.v 2))) (.op .mul (ci 4) (.prim .len [.sub (.v 0) (cz ⟨#[99,101,108,108,115]⟩)]))) (ci 2)) (ci 89)) (.v 1))]⟩
noncomputable def fn20 : Fn := ⟨1, [0], [
 .seti (.v 0) (cz ⟨#[115,112,111,116]⟩) (.op .add (.sub (.v 0) (cz ⟨#[115,112,111,116]⟩)) (ci 1)), .ret (.sub (.v 0) (cz ⟨#[115,112,111,116]⟩))]⟩
noncomputable def fn21 : Fn := ⟨9, [0, 1, 2, 3], [
 .asgs [4, 5] [.call 19 [.v 0, ci 10], .comp false (.w 1) (.t [.n 1, .n 2]) (.v 2) (some (.op .eq (.w 2) (.v 1)))], .ite (.op .eq (.v 4) (ci 9)) [.ret (.tup [cz ⟨#[110,97,109,101]⟩, .v 3, cz ⟨#[122]⟩])] [], .ite (.and (.op .lt (.v 4) (ci 4)) (.op .ne (.v 5) (.lst false []))) [.ret (.tup [cz ⟨#[110,97,109,101]⟩, .v 3, .sub (.v 5) (.call 19 [.v 0, .prim .len [.v 5]])])] [], .ite (.op .eq (.v 1) (cz ⟨#[105,110,116]⟩)) [.ret (.tup [cz ⟨#[105,110,116]⟩, .v 3, .call 19 [.v 0, ci 6]])] [], .ite (.op .eq (.v 1) (cz ⟨#[98,111,111,108]⟩)) [.ret (.tup [cz ⟨#[98,111,111,108]⟩, .v 3, .op .ne (.v 4) (ci 8)])] [], .ite (.op .eq (.v 1) (cz ⟨#[115,116,114]⟩)) [.ret (.tup [cz ⟨#[115,116,114]⟩, .v 3, .op .add (cz ⟨#[119]⟩) (.prim .str [.v 3])])] [], .ret (.tup [cz ⟨#[114,97,110,103,101]⟩, .v 3, .tup [cz ⟨#[105,110,116]⟩, .v 3, .call 19 [.v 0, ci 3]], .tup [cz ⟨#[105,110,116]⟩, .v 3, .op .add (ci 1) (.call 19 [.v 0, ci 3])]])]⟩
noncomputable def fn22 : Fn := ⟨8, [0, 1], [
 .asgs [2, 3] [.call 19 [.v 0, ci 5], .call 20 [.v 0]], .ite (.op .lt (.v 2) (ci 3)) [.ret (.tup [cz ⟨#[114,97,110,103,101]⟩, .v 3, .tup [cz ⟨#[105,110,116]⟩, .v 3, .call 19 [.v 0, ci 2]], .tup [cz ⟨#[105,110,116]⟩, .v 3, .op .add (ci 3) (.call 19 [.v 0, ci 4])]])] [], .ite (.op .eq (.v 2) (ci 3)) [.asg 4 (.call 21 [.v 0, cz ⟨#[105,110,116]⟩, .v 1, .call 20 [.v 0]]), .ret (.tup [cz ⟨#[115,101,116]⟩, .v 3, .tup [.tup [cz ⟨#[105,110,116]⟩, .v 3, ci 0], .v 4, .tup [cz ⟨#[105,110,116]⟩, .v 3, ci 3], .tup [cz ⟨#[105,110,116]⟩, .v 3, ci 1]]])] [], .ret (.call 21 [.v 0, .sub (.tup [cz ⟨#[115,101,116]⟩, cz ⟨#[115,101,116]⟩, cz ⟨#[105,110,116]⟩]) (.call 19 [.v 0, ci 3]), .v 1, .v 3])]⟩
noncomputable def fn23 : Fn := ⟨21, [0, 1, 2, 3, 4], [
 .asgs [5, 6] [.lst true [], .prim .mlist [.v 2]], .for (.n 7) (.prim .range [.op .add (ci 1) (.call 19 [.v 0, ci 3])]) [.asg 8 (.call 20 [.v 0]), .ite (.op .eq (.call 19 [.v 0, ci 3]) (ci 2)) [.ex (.lm .append (.v 5) [.tup [cz ⟨#[99,111,110,115,116,114,97,105,110,116]⟩, .v 8, .call 24 [.v 0, cz ⟨#[98,111,111,108]⟩, .v 6, .op .sub (.v 3) (ci 1)]]]), .cont] [], .asgs [9, 10] [.sub (.g 2) (.call 19 [.v 0, ci 4]), .c .none], .ite (.and (.op .eq (.call 19 [.v 0, ci 2]) (ci 0)) (.op .isin (.v 9) (.tup [cz ⟨#[105,110,116]⟩, cz ⟨#[115,101,116]⟩]))) [.asg 10 (.call 22 [.v 0, .v 6])] [], .asg 11 (.sub (.tup [cz ⟨#[97]⟩, cz ⟨#[98]⟩, cz ⟨#[99]⟩]) (.call 19 [.v 0, ci 3])), .asg 12 (.ite (.op .lt (.call 19 [.v 0, ci 16]) (ci 15)) (.call 24 [.v 0, .v 9, .v 6, .op .sub (.v 3) (ci 1)]) (.c .none)), .ex (.lm .append (.v 5) [.tup [cz ⟨#[100,101,99,108]⟩, .v 8, .tup [.v 9, .c (.bool false), .tup [], .v 10], .v 11, .v 12]]), .ex (.lm .append (.v 6) [.tup [.v 11, .v 9]])], .ret (.tup [cz ⟨#[108,101,116]⟩, .v 4, .prim .tuple [.v 5], .call 24 [.v 0, .v 1, .v 6, .op .sub (.v 3) (ci 1)]])]⟩
noncomputable def fn24 : Fn := ⟨15, [0, 1, 2, 3], [
 .asgs [4, 5] [.call 20 [.v 0], .call 19 [.v 0, ci 7]], .ite (.op .eq (.v 5) (ci 6)) [.asg 1 (.sub (.g 2) (.call 19 [.v 0, ci 4]))] [], .ite (.or (.op .eq (.v 3) (ci 0)) (.or (.op .gt (.op .sub (.v 4) (.sub (.v 0) (cz ⟨#[98,97,115,101]⟩))) (ci 25)) (.op .gt (.v 5) (ci 3)))) [.ret (.call 21 [.v 0, .v 1, .v 2, .v 4])] [], .ite (.or (.op .lt (.v 5) (ci 2)) (.op .eq (.v 1) (cz ⟨#[115,116,114]⟩))) [.ret (.call 23 [.v 0, .v 1, .v 2, .v 3, .v 4])] [], .asg 6 (.ite (.and (.op .eq (.v 1) (cz ⟨#[98,111,111,108]⟩)) (.op .eq (.v 5) (ci 3))) (cz ⟨#[115,101,116]⟩) (cz ⟨#[105,110,116]⟩)), .asg 7 (.call 24 [.v 0, .v 6, .v 2, .op .sub (.v 3) (ci 1)]), .asg 8 (.call 24 [.v 0, .v 6, .v 2, .op .sub (.v 3) (ci 1)]), .ite (.op .eq (.v 1) (cz ⟨#[115,101,116]⟩)) [.ret (.tup [cz ⟨#[115,101,116]⟩, .v 4, .tup [.v 7, .v 8]])] [], .ret (.tup [cz ⟨#[98,105,110]⟩, .v 4, .ite (.op .eq (.v 1) (cz ⟨#[105,110,116]⟩)) (cz ⟨#[43]⟩) (cz ⟨#[60]⟩), .v 7, .v 8])]⟩
noncomputable def fn25 : Fn := ⟨7, [0], [
 .ite (.prim .isi [.v 0, .ty "int"]) [.ret (.prim .str [.v 0])] [], .ite (.and (.op .gt (.prim .len [.v 0]) (ci 1)) (.op .eq (.prim .list [.v 0]) (.prim .list [.prim .range [.sub (.v 0) (ci 0), .op .add (.sub (.v 0) (.neg (ci 1))) (ci 1)]]))) [.ret (.op .add (.op .add (.prim .str [.sub (.v 0) (ci 0)]) (cz ⟨#[46,46]⟩)) (.prim .str [.sub (.v 0) (.neg (ci 1))]))] [], .ret (.op .add (.op .add (cz ⟨#[123]⟩) (.join (cz ⟨#[44]⟩) (.comp false (.prim .str [.w 1]) (.n 1) (.v 0) none))) (cz ⟨#[125]⟩))]⟩
noncomputable def fn26 : Fn := ⟨5, [0], [
 .ite (.prim .isi [.v 0, .ty "bool"]) [.ret (cz ⟨#[98,111,111,108]⟩)] [], .ite (.prim .isi [.v 0, .ty "int"]) [.ret (cz ⟨#[105,110,116]⟩)] [], .ret (.ite (.prim .isi [.v 0, .ty "str"]) (cz ⟨#[115,116,114]⟩) (cz ⟨#[115,101,116]⟩))]⟩
noncomputable def fn27 : Fn := ⟨10, [0, 1, 2, 3], [
 .asg 4 (.call 26 [.v 1]), .ite (.and (.op .ne (.v 4) (.v 0)) (.op .ne (.tup [.v 4, .v 0]) (.tup [cz ⟨#[98,111,111,108]⟩, cz ⟨#[105,110,116]⟩]))) [.asg 5 (.sub (.dct false [(⟨#[105,110,116]⟩, (cz ⟨#[97,32,110,117,109,98,101,114]⟩)), (⟨#[98,111,111,108]⟩, (cz ⟨#[116,114,117,101,32,111,114,32,102,97,108,115,101]⟩)), (⟨#[115,116,114]⟩, (cz ⟨#[97,32,116,101,120,116]⟩)), (⟨#[115,101,116]⟩, (cz ⟨#[97,32,115,101,116]⟩))]) (.v 0)), .ret (.tup [cz ⟨#[98,97,100]⟩, .op .add (.v 5) (cz ⟨#[32,105,115,32,119,97,110,116,101,100]⟩), .v 3])] [], .asg 1 (.ite (.op .eq (.v 0) (cz ⟨#[105,110,116]⟩)) (.prim .int [.v 1]) (.v 1)), .ite (.and (.op .isnot (.v 2) (.c .none)) (.op .ne (.comp false (.w 1) (.n 1) (.ite (.op .eq (.v 0) (cz ⟨#[115,101,116]⟩)) (.prim .list [.v 1]) (.lst false [.v 1])) (some (.op .notin (.w 1) (.v 2)))) (.lst false []))) [.ret (.tup [cz ⟨#[98,97,100]⟩, .op .add (.call 25 [.v 1]) (cz ⟨#[32,105,115,32,110,111,116,32,119,105,116,104,105,110,32,105,116,115,32,98,111,117,110,100,115]⟩), .v 3])] [], .ret (.tup [cz ⟨#[111,107]⟩, .v 1])]⟩
noncomputable def fn28 : Fn := ⟨10, [0, 1], [
 .asg 2 (.ite (.op .eq (.sub (.v 0) (ci 0)) (cz ⟨#[99,111,110,115,116,114,97,105,110,116]⟩)) (.sub (.v 0) (ci 2)) (.sub (.v 0) (ci 4))), .ite (.op .is (.v 2) (.c .none)) [.ret (.tup [cz ⟨#[98,97,100]⟩, .op .add (.sub (.v 0) (ci 3)) (cz ⟨#[32,104,97,115,32,110,111,32,118,97,108,117,101]⟩), .sub (.v 0) (ci 1)])] [], .asg 3 (.call 29 [.v 2, .v 1]), .ite (.op .eq (.sub (.v 3) (ci 0)) (cz ⟨#[98,97,100]⟩)) [.ret (.v 3)] [], .ite (.op .eq (.sub (.v 0) (ci 0)) (cz ⟨#[99,111,110,115,116,114,97,105,110,116]⟩)) [.ite (.prim .isi [.sub (.v 3) (ci 1), .ty "bool"]) [.ret (.ite (.sub (.v 3) (ci 1)) (.v 3) (.tup [cz ⟨#[98,97,100]⟩, cz ⟨#[97,32,99,111,110,115,116,114,97,105,110,116,32,119,105,116,104,105,110,32,108,101,116,32,100,111,101,115,32,110,111,116,32,104,111,108,100]⟩, .sub (.v 0) (ci 1)]))] [], .ret (.tup [cz ⟨#[98,97,100]⟩, cz ⟨#[116,114,117,101,32,111,114,32,102,97,108,115,101,32,105,115,32,119,97,110,116,101,100]⟩, .sub (.v 0) (ci 1)])] [], .asg 4 (.ite (.op .is (.sub (.sub (.v 0) (ci 2)) (ci 3)) (.c .none)) (.c .none) (.call 29 [.sub (.sub (.v 0) (ci 2)) (ci 3), .v 1])), .ite (.and (.op .isnot (.v 4) (.c .none)) (.or (.op .eq (.sub (.v 4) (ci 0)) (cz ⟨#[98,97,100]⟩)) (.not (.prim .isi [.sub (.v 4) (ci 1), .ty "tuple"])))) [.ret (.ite (.op .eq (.sub (.v 4) (ci 0)) (cz ⟨#[98,97,100]⟩)) (.v 4) (.tup [cz ⟨#[98,97,100]⟩, cz ⟨#[97,32,115,101,116,32,105,115,32,119,97,110,116,101,100]⟩, .sub (.sub (.sub (.v 0) (ci 2)) (ci 3)) (ci 1)]))] [], .ret (.call 27 [.sub (.sub (.v 0) (ci 2)) (ci 0), .sub (.v 3) (ci 1), .ite (.op .is (.v 4) (.c .none)) (.c .none) (.sub (.v 4) (ci 1)), .sub (.v 0) (ci 1)])]⟩
noncomputable def fn29 : Fn := ⟨18, [0, 1], [
 .asgs [2, 3] [.sub (.v 0) (ci 0), .sub (.v 0) (ci 1)], .ite (.op .isin (.v 2) (.tup [cz ⟨#[105,110,116]⟩, cz ⟨#[98,111,111,108]⟩, cz ⟨#[115,116,114]⟩])) [.ret (.tup [cz ⟨#[111,107]⟩, .sub (.v 0) (ci 2)])] [], .ite (.op .eq (.v 2) (cz ⟨#[110,97,109,101]⟩)) [.asg 4 (.comp false (.w 2) (.t [.n 1, .n 2]) (.v 1) (some (.op .eq (.w 1) (.sub (.v 0) (ci 2))))), .ret (.ite (.op .ne (.v 4) (.lst false [])) (.tup [cz ⟨#[111,107]⟩, .sub (.v 4) (.neg (ci 1))]) (.tup [cz ⟨#[98,97,100]⟩, .op .add (.sub (.v 0) (ci 2)) (cz ⟨#[32,104,97,115,32,110,111,32,118,97,108,117,101]⟩), .v 3]))] [], .ite (.op .eq (.v 2) (cz ⟨#[108,101,116]⟩)) [.asgs [5, 6] [.prim .len [.v 1], .tup [cz ⟨#[111,107]⟩, .c (.bool true)]], .for (.n 7) (.sub (.v 0) (ci 2)) [.asg 6 (.ite (.op .eq (.sub (.v 6) (ci 0)) (cz ⟨#[111,107]⟩)) (.call 28 [.v 7, .v 1]) (.v 6)), .ite (.and (.op .eq (.sub (.v 6) (ci 0)) (cz ⟨#[111,107]⟩)) (.op .eq (.sub (.v 7) (ci 0)) (cz ⟨#[100,101,99,108]⟩))) [.ex (.lm .append (.v 1) [.tup [.sub (.v 7) (ci 3), .sub (.v 6) (ci 1)]])] []], .asg 6 (.ite (.op .eq (.sub (.v 6) (ci 0)) (cz ⟨#[111,107]⟩)) (.call 29 [.sub (.v 0) (ci 3), .v 1]) (.v 6)), .while (.op .gt (.prim .len [.v 1]) (.v 5)) [.ex (.lm .pop (.v 1) [])], .ret (.v 6)] [], .asg 8 (.lst true []), .for (.n 9) (.ite (.op .eq (.v 2) (cz ⟨#[115,101,116]⟩)) (.sub (.v 0) (ci 2)) (.ite (.op .eq (.v 2) (cz ⟨#[114,97,110,103,101]⟩)) (.slice (.v 0) (some 2) (some 4)) (.slice (.v 0) (some 3) (some 5)))) [.asg 6 (.call 29 [.v 9, .v 1]), .ite (.op .eq (.sub (.v 6) (ci 0)) (cz ⟨#[98,97,100]⟩)) [.ret (.v 6)] [], .ex (.lm .append (.v 8) [.sub (.v 6) (ci 1)])], .ite (.and (.op .eq (.v 2) (cz ⟨#[98,105,110]⟩)) (.op .eq (.sub (.v 0) (ci 2)) (cz ⟨#[60]⟩))) [.asg 10 (.comp false (.ite (.op .eq (.call 26 [.w 1]) (cz ⟨#[98,111,111,108]⟩)) (cz ⟨#[105,110,116]⟩) (.call 26 [.w 1])) (.n 1) (.v 8) none), .ret (.ite (.op .eq (.sub (.v 10) (ci 0)) (.sub (.v 10) (ci 1))) (.tup [cz ⟨#[111,107]⟩, .op .lt (.sub (.v 8) (ci 0)) (.sub (.v 8) (ci 1))]) (.tup [cz ⟨#[98,97,100]⟩, cz ⟨#[97,32,115,101,116,32,105,115,32,119,97,110,116,101,100]⟩, .v 3]))] [], .ite (.op .ne (.comp false (.w 1) (.n 1) (.v 8) (some (.not (.prim .isi [.w 1, .ty "int"])))) (.lst false [])) [.ret (.tup [cz ⟨#[98,97,100]⟩, cz ⟨#[97,32,110,117,109,98,101,114,32,105,115,32,119,97,110,116,101,100]⟩, .v 3])] [], .asg 8 (.comp true (.prim .int [.w 1]) (.n 1) (.v 8) none), .ite (.op .eq (.v 2) (cz ⟨#[98,105,110]⟩)) [.ret (.tup [cz ⟨#[111,107]⟩, .op .add (.sub (.v 8) (ci 0)) (.sub (.v 8) (ci 1))])] [], .ret (.tup [cz ⟨#[111,107]⟩, .ite (.op .eq (.v 2) (cz ⟨#[114,97,110,103,101]⟩)) (.prim .tuple [.prim .range [.sub (.v 8) (ci 0), .op .add (.sub (.v 8) (ci 1)) (ci 1)]]) (.prim .tuple [.prim .sorted [.prim .set [.v 8]]])])]⟩
noncomputable def fn30 : Fn := ⟨3, [0], [
 .try [.ret (.tup [cz ⟨#[111,107]⟩, .lcall 0])] [(false, ((some 1), [.ret (.tup [cz ⟨#[98,97,100]⟩, .fault 1 false, .fault 1 true])]))]]⟩
noncomputable def fn31 : Fn := ⟨20, [0], [
 .asg 1 (.dct true [(⟨#[99,101,108,108,115]⟩, (.comp false (.op .mod (.prim .int [.w 1]) (ci 1000003)) (.n 1) (.slice (.v 0) none (some 60)) none)), (⟨#[107]⟩, (ci 0)), (⟨#[115,112,111,116]⟩, (ci 0)), (⟨#[98,97,115,101]⟩, (ci 0))]), .asg 9 (.dct false [(⟨#[97]⟩, (ci 2)), (⟨#[98]⟩, (.c (.bool true))), (⟨#[99]⟩, (cz ⟨#[116,111,108,100]⟩)), (⟨#[115]⟩, (.tup [ci 0, ci 1, ci 2, ci 4]))]), .asgs [2, 3] [.lst false [.tup [cz ⟨#[97]⟩, cz ⟨#[105,110,116]⟩], .tup [cz ⟨#[98]⟩, cz ⟨#[98,111,111,108]⟩], .tup [cz ⟨#[99]⟩, cz ⟨#[115,116,114]⟩], .tup [cz ⟨#[115]⟩, cz ⟨#[115,101,116]⟩]], .prim .repr [.v 9]], .for (.n 4) (.prim .range [ci 3]) [.seti (.v 1) (cz ⟨#[98,97,115,101]⟩) (.call 20 [.v 1]), .asg 8 (.call 23 [.v 1, .sub (.g 2) (.call 19 [.v 1, ci 4]), .v 2, ci 3, .sub (.v 1) (cz ⟨#[98,97,115,101]⟩)]), .asg 5 (.prim .repr [.call 29 [.v 8, .comp true (.tup [.w 1, .sub (.v 9) (.w 1)]) (.n 1) (.tup [cz ⟨#[97]⟩, cz ⟨#[98]⟩, cz ⟨#[99]⟩, cz ⟨#[115]⟩]) none]]), .try [.asg 6 (.tup [cz ⟨#[111,107]⟩, .meth 36 (.new (.v 9)) [.v 8]])] [(false, ((some 7), [.asg 6 (.tup [cz ⟨#[98,97,100]⟩, .fault 7 false, .fault 7 true])]))], .ite (.or (.op .ne (.prim .repr [.v 6]) (.v 5)) (.op .ne (.prim .repr [.v 9]) (.v 3))) [.ret (.c (.bool false))] [], .ite (.or (.op .ne (.prim .repr [.call 30 [.lam (.meth 32 (.new (.v 9)) [.v 8]) [8, 9]]]) (.v 5)) (.op .ne (.prim .repr [.v 9]) (.v 3))) [.ret (.c (.bool false))] []], .ret (.c (.bool true))]⟩
noncomputable def fn32 : Fn := ⟨7, [0, 1], [
 .asgs [2, 3] [.sub (.v 1) (ci 0), .sub (.v 1) (ci 1)], .ite (.op .isin (.v 2) (.tup [cz ⟨#[105,110,116]⟩, cz ⟨#[98,111,111,108]⟩, cz ⟨#[115,116,114]⟩])) [.ret (.sub (.v 1) (ci 2))] [], .ite (.op .eq (.v 2) (cz ⟨#[110,97,109,101]⟩)) [.ite (.op .notin (.sub (.v 1) (ci 2)) (.scope (.v 0))) [.raise false [.fstr [.sub (.v 1) (ci 2), cz ⟨#[32,104,97,115,32,110,111,32,118,97,108,117,101]⟩], .v 3]] [], .ret (.sub (.scope (.v 0)) (.sub (.v 1) (ci 2)))] [], .ite (.op .eq (.v 2) (cz ⟨#[98,105,110]⟩)) [.ret (.meth 35 (.v 0) [.sub (.v 1) (ci 2), .sub (.v 1) (ci 3), .sub (.v 1) (ci 4), .v 3])] [], .ite (.op .eq (.v 2) (cz ⟨#[117,110]⟩)) [.bad] [], .ite (.and (.op .eq (.v 2) (cz ⟨#[99,97,108,108]⟩)) (.and (.op .eq (.sub (.v 1) (ci 2)) (cz ⟨#[97,115,115,101,114,116]⟩)) (.op .isin (.prim .len [.sub (.v 1) (ci 3)]) (.tup [ci 2, ci 3])))) [.bad] [], .ite (.op .eq (.v 2) (cz ⟨#[99,97,108,108]⟩)) [.bad] [], .ite (.op .eq (.v 2) (cz ⟨#[103,101,110]⟩)) [.bad] [], .ite (.op .eq (.v 2) (cz ⟨#[105,110,100,101,120]⟩)) [.bad] [], .ite (.op .eq (.v 2) (cz ⟨#[105,102]⟩)) [.bad] [], .ite (.op .eq (.v 2) (cz ⟨#[108,101,116]⟩)) [.ret (.meth 36 (.v 0) [.v 1])] [], .ret (.meth 34 (.v 0) [.v 2, .v 1, .v 3])]⟩
noncomputable def fn33 : Fn := ⟨2, [0, 1], [
 .ret (.comp false (.meth 32 (.v 0) [.w 1]) (.n 1) (.v 1) none)]⟩
noncomputable def fn34 : Fn := ⟨18, [0, 1, 2, 3], [
 .ite (.op .eq (.v 1) (cz ⟨#[97,114,114,97,121]⟩)) [.bad] [], .ite (.op .eq (.v 1) (cz ⟨#[97,114,114,97,121,50]⟩)) [.asg 4 (.comp false (.meth 33 (.v 0) [.w 1]) (.n 1) (.sub (.v 2) (ci 2)) none), .asg 5 (.ite (.op .gt (.prim .len [.v 4]) (ci 0)) (.prim .len [.sub (.v 4) (ci 0)]) (ci 0)), .ite (.op .ne (.comp false (.w 1) (.n 1) (.v 4) (some (.op .ne (.prim .len [.w 1]) (.v 5)))) (.lst false [])) [.raise false [cz ⟨#[116,104,101,32,114,111,119,115,32,111,102,32,97,110,32,97,114,114,97,121,32,97,114,101,32,111,102,32,117,110,108,105,107,101,32,108,101,110,103,116,104,115]⟩, .v 3]] [], .bad] [], .ite (.op .eq (.v 1) (cz ⟨#[114,97,110,103,101]⟩)) [.unp [6, 7] (.meth 33 (.v 0) [.slice (.v 2) (some 2) (some 4)]), .ret (.call 13 [.call 8 [.v 6, .v 3], .call 8 [.v 7, .v 3]])] [], .ite (.op .eq (.v 1) (cz ⟨#[115,101,116]⟩)) [.ret (.prim .tuple [.prim .sorted [.prim .set [.comp false (.call 8 [.w 1, .v 3]) (.n 1) (.meth 33 (.v 0) [.sub (.v 2) (ci 2)]) none]]])] [], .ite (.op .ne (.v 1) (cz ⟨#[99,111,109,112]⟩)) [.raise false [.fstr [cz ⟨#[97,32]⟩, .v 1, cz ⟨#[32,104,97,115,32,110,111,32,118,97,108,117,101]⟩], .v 3]] [], .bad, .ite (.op .eq (.sub (.v 2) (ci 2)) (cz ⟨#[97,114,114,97,121]⟩)) [.bad] [], .ret (.prim .tuple [.prim .sorted [.prim .set [.comp false (.call 8 [.w 1, .v 3]) (.n 1) (.v 8) none]]])]⟩
noncomputable def fn35 : Fn := ⟨23, [0, 1, 2, 3, 4], [
 .asg 5 (.meth 32 (.v 0) [.v 2]), .ite (.op .isin (.v 1) (.tup [cz ⟨#[47,92]⟩, cz ⟨#[92,47]⟩, cz ⟨#[45,62]⟩])) [.ite (.op .eq (.call 9 [.v 5, .v 4]) (.op .eq (.v 1) (cz ⟨#[92,47]⟩))) [.ret (.op .ne (.v 1) (cz ⟨#[47,92]⟩))] [], .ret (.call 9 [.meth 32 (.v 0) [.v 3], .v 4])] [], .ite (.and (.op .eq (.v 1) (cz ⟨#[105,110]⟩)) (.op .eq (.sub (.v 3) (ci 0)) (cz ⟨#[114,97,110,103,101]⟩))) [.ret (.call 5 [.meth 37 (.v 0) [.v 3], .call 8 [.v 5, .v 4]])] [], .asg 6 (.meth 32 (.v 0) [.v 3]), .ite (.op .isin (.v 1) (.tup [cz ⟨#[60]⟩, cz ⟨#[60,61]⟩, cz ⟨#[62]⟩, cz ⟨#[62,61]⟩, cz ⟨#[61]⟩, cz ⟨#[61,61]⟩, cz ⟨#[33,61]⟩])) [.ret (.call 15 [.v 1, .v 5, .v 6, .v 4])] [], .ite (.op .isin (.v 1) (.tup [cz ⟨#[60,45,62]⟩, cz ⟨#[120,111,114]⟩])) [.ret (.op .eq (.op .eq (.call 9 [.v 5, .v 4]) (.call 9 [.v 6, .v 4])) (.op .eq (.v 1) (cz ⟨#[60,45,62]⟩)))] [], .ite (.op .eq (.v 1) (cz ⟨#[60,45]⟩)) [.ret (.or (.call 9 [.v 5, .v 4]) (.not (.call 9 [.v 6, .v 4])))] [], .ite (.op .eq (.v 1) (cz ⟨#[105,110]⟩)) [.ret (.op .isin (.call 8 [.v 5, .v 4]) (.call 11 [.v 6, .v 4]))] [], .ite (.op .isin (.v 1) (.tup [cz ⟨#[115,117,98,115,101,116]⟩, cz ⟨#[115,117,112,101,114,115,101,116]⟩])) [.unp [7, 8] (.ite (.op .eq (.v 1) (cz ⟨#[115,117,98,115,101,116]⟩)) (.tup [.v 5, .v 6]) (.tup [.v 6, .v 5])), .bad] [], .ite (.op .isin (.v 1) (.tup [cz ⟨#[117,110,105,111,110]⟩, cz ⟨#[100,105,102,102]⟩, cz ⟨#[115,121,109,100,105,102,102]⟩, cz ⟨#[105,110,116,101,114,115,101,99,116]⟩])) [.bad] [], .ite (.op .eq (.v 1) (cz ⟨#[43,43]⟩)) [.bad] [], .ite (.op .notin (.v 1) (.tup [cz ⟨#[43]⟩, cz ⟨#[45]⟩, cz ⟨#[42]⟩, cz ⟨#[100,105,118]⟩, cz ⟨#[109,111,100]⟩, cz ⟨#[94]⟩])) [.raise false [.fstr [.v 1, cz ⟨#[32,104,97,115,32,110,111,32,118,97,108,117,101,32,104,101,114,101]⟩], .v 4]] [], .ret (.call 16 [.v 1, .call 8 [.v 5, .v 4], .call 8 [.v 6, .v 4], .v 4])]⟩
noncomputable def fn36 : Fn := ⟨8, [0, 1], [
 .asg 2 (.new (.prim .mdict [.scope (.v 0)])), .for (.n 3) (.sub (.v 1) (ci 2)) [.ite (.op .eq (.sub (.v 3) (ci 0)) (cz ⟨#[99,111,110,115,116,114,97,105,110,116]⟩)) [.ite (.not (.call 9 [.meth 32 (.v 2) [.sub (.v 3) (ci 2)], .sub (.v 3) (ci 1)])) [.raise false [cz ⟨#[97,32,99,111,110,115,116,114,97,105,110,116,32,119,105,116,104,105,110,32,108,101,116,32,100,111,101,115,32,110,111,116,32,104,111,108,100]⟩, .sub (.v 3) (ci 1)]] []] [.ite (.op .is (.sub (.v 3) (ci 4)) (.c .none)) [.raise false [.fstr [.sub (.v 3) (ci 3), cz ⟨#[32,104,97,115,32,110,111,32,118,97,108,117,101]⟩], .sub (.v 3) (ci 1)]] [], .seti (.scope (.v 2)) (.sub (.v 3) (ci 3)) (.meth 38 (.v 2) [.sub (.v 3) (ci 2), .meth 32 (.v 2) [.sub (.v 3) (ci 4)], .sub (.v 3) (ci 1)])]], .ret (.meth 32 (.v 2) [.sub (.v 1) (ci 3)])]⟩
noncomputable def fn37 : Fn := ⟨8, [0, 1], [
 .ite (.op .eq (.sub (.v 1) (ci 0)) (cz ⟨#[114,97,110,103,101]⟩)) [.unp [2, 3] (.meth 33 (.v 0) [.slice (.v 1) (some 2) (some 4)]), .ret (.call 1 [.call 8 [.v 2, .sub (.v 1) (ci 1)], .call 8 [.v 3, .sub (.v 1) (ci 1)]])] [], .ret (.call 3 [.call 11 [.meth 32 (.v 0) [.v 1], .sub (.v 1) (ci 1)]])]⟩
noncomputable def fn38 : Fn := ⟨13, [0, 1, 2, 3], [
 .unp [4, 5, 6, 7] (.v 1), .asg 8 (.ite (.op .is (.v 7) (.c .none)) (.c .none) (.meth 37 (.v 0) [.v 7])), .ite (.op .eq (.prim .len [.v 6]) (ci 0)) [.ret (.call 18 [.v 4, .v 8, .v 2, .v 3])] [], .asg 9 (.comp false (.call 18 [.v 4, .v 8, .w 1, .v 3]) (.n 1) (.call 12 [.v 2, .v 3]) none), .bad]⟩
noncomputable def zmm : List Fn := [fn1, fn2, fn3, fn4, fn5, fn6, fn7, fn8, fn9, fn10, fn11, fn12, fn13, fn14, fn15, fn16, fn17, fn18, fn19, fn20, fn21, fn22, fn23, fn24, fn25, fn26, fn27, fn28, fn29, fn30, fn31, fn32, fn33, fn34, fn35, fn36, fn37, fn38]
noncomputable def tab1 (f : Nat) : Option Fn := Nat.casesOn f none fun n => zmm[n]?
noncomputable def gc1 : Nat -> PyData
 | 0 => .int 100000
 | 1 => .int 1000
 | 2 => .tuple [.str (Str.ofString "int"), .str (Str.ofString "bool"), .str (Str.ofString "str"), .str (Str.ofString "set")]
 | _ => .none
noncomputable def zoF : List (PySem.Str × Nat) := [(Str.ofString "range_of", 1), (Str.ofString "put_behind", 2), (Str.ofString "from_values", 3), (Str.ofString "next_from", 4), (Str.ofString "has", 5), (Str.ofString "is_array", 6), (Str.ofString "is_set", 7), (Str.ofString "number_of", 8), (Str.ofString "truth_of", 9), (Str.ofString "text_of", 10), (Str.ofString "set_of", 11), (Str.ofString "list_of", 12), (Str.ofString "span", 13), (Str.ofString "within_figures", 14), (Str.ofString "are_compared", 15), (Str.ofString "reckoned", 16), (Str.ofString "show_text", 17), (Str.ofString "fitted_one", 18), (Str.ofString "_law_draw", 19), (Str.ofString "_law_spot", 20), (Str.ofString "_law_leaf", 21), (Str.ofString "_law_bound", 22), (Str.ofString "_law_let", 23), (Str.ofString "_law_node", 24), (Str.ofString "_law_shown", 25), (Str.ofString "_law_sort", 26), (Str.ofString "_law_kept", 27), (Str.ofString "_law_item", 28), (Str.ofString "_law_read", 29), (Str.ofString "_law_heard", 30), (Str.ofString "law", 31)]
noncomputable def zm0 : List (PySem.Str × Nat) := [(Str.ofString "value_of", 32), (Str.ofString "values_of", 33), (Str.ofString "built", 34), (Str.ofString "of_two", 35), (Str.ofString "within", 36), (Str.ofString "domain_of", 37), (Str.ofString "fitted", 38)]
noncomputable def consL : List (PySem.Str × Nat) := [(Str.ofString "MOST_VALUES", 0), (Str.ofString "MOST_SHOWN", 1), (Str.ofString "_law_kinds", 2)]
noncomputable def zot : List (Nat × Nat) := [(11, 12), (465, 20), (465, 24), (465, 29), (546, 12), (557, 12), (567, 11), (573, 14), (573, 19), (573, 29), (573, 35), (308, 16), (308, 26), (308, 31)]
noncomputable def cx1 : Cx := ⟨[], none, zoF, zm0, consL, zot, false⟩
noncomputable def fa1 : Nat -> Addr
 | 1 => 21
 | 2 => 28
 | 3 => 35
 | 4 => 42
 | 5 => 49
 | 6 => 137
 | 7 => 144
 | 8 => 151
 | 9 => 158
 | 10 => 165
 | 11 => 172
 | 12 => 179
 | 13 => 200
 | 14 => 214
 | 15 => 233
 | 16 => 245
 | 17 => 250
 | 18 => 372
 | 19 => 416
 | 20 => 423
 | 21 => 428
 | 22 => 435
 | 23 => 442
 | 24 => 449
 | 25 => 454
 | 26 => 461
 | 27 => 466
 | 28 => 473
 | 29 => 478
 | 30 => 485
 | 31 => 490
 | 32 => 282
 | 33 => 287
 | 34 => 292
 | 35 => 313
 | 36 => 341
 | 37 => 355
 | 38 => 360
 | _ => 0
noncomputable abbrev mkS (w : World) (s0 : Shared) (mg mb : Str -> Option Value) : Sta :=
 { prog := pw, w := w, s0 := s0, K := K w.params, mg := mg, mb := mb, cev := 363, ec := fun b => if b then 128 else 116, fa := fa1, cx := cx1, gc := gc1, tab := tab1, lc := 489, tp := 487, lq := Str.ofString "law.<locals>.<lambda>" }
section
variable (w : World) (s0 : Shared) (mg mb : Str -> Option Value)
noncomputable abbrev cF (ok : StaOk3 (mkS w s0 mg mb)) (k2 : KOk2 (mkS w s0 mg mb)) (s : Stmt) (b : Bool) := (toSs ok k2 (fs s).names b (fb s)).map (·.1)
theorem i1 : fnIn (mkS w s0 mg mb) 1 fn1 false = true := by kernel_rfl
theorem c1 (ok) (k2) : cF w s0 mg mb ok k2 (st 1) false = some fn1.body := by kernel_rfl
theorem i2 : fnIn (mkS w s0 mg mb) 2 fn2 false = true := by kernel_rfl
theorem c2 (ok) (k2) : cF w s0 mg mb ok k2 (st 2) false = some fn2.body := by kernel_rfl
theorem i3 : fnIn (mkS w s0 mg mb) 3 fn3 false = true := by kernel_rfl
theorem c3 (ok) (k2) : cF w s0 mg mb ok k2 (st 3) false = some fn3.body := by kernel_rfl
theorem i4 : fnIn (mkS w s0 mg mb) 4 fn4 false = true := by kernel_rfl
theorem c4 (ok) (k2) : cF w s0 mg mb ok k2 (st 4) false = some fn4.body := by kernel_rfl
theorem i5 : fnIn (mkS w s0 mg mb) 5 fn5 false = true := by kernel_rfl
theorem c5 (ok) (k2) : cF w s0 mg mb ok k2 (st 5) false = some fn5.body := by kernel_rfl
theorem i6 : fnIn (mkS w s0 mg mb) 6 fn6 false = true := by kernel_rfl
theorem c6 (ok) (k2) : cF w s0 mg mb ok k2 (st 15) false = some fn6.body := by kernel_rfl
theorem i7 : fnIn (mkS w s0 mg mb) 7 fn7 false = true := by kernel_rfl
theorem c7 (ok) (k2) : cF w s0 mg mb ok k2 (st 16) false = some fn7.body := by kernel_rfl
theorem i8 : fnIn (mkS w s0 mg mb) 8 fn8 false = true := by kernel_rfl
theorem c8 (ok) (k2) : cF w s0 mg mb ok k2 (st 17) false = some fn8.body := by kernel_rfl
theorem i9 : fnIn (mkS w s0 mg mb) 9 fn9 false = true := by kernel_rfl
theorem c9 (ok) (k2) : cF w s0 mg mb ok k2 (st 18) false = some fn9.body := by kernel_rfl
theorem i10 : fnIn (mkS w s0 mg mb) 10 fn10 false = true := by kernel_rfl
theorem c10 (ok) (k2) : cF w s0 mg mb ok k2 (st 19) false = some fn10.body := by kernel_rfl
theorem i11 : fnIn (mkS w s0 mg mb) 11 fn11 false = true := by kernel_rfl
theorem c11 (ok) (k2) : cF w s0 mg mb ok k2 (st 20) false = some fn11.body := by kernel_rfl
theorem i12 : fnIn (mkS w s0 mg mb) 12 fn12 false = true := by kernel_rfl
theorem c12 (ok) (k2) : cF w s0 mg mb ok k2 (st 21) false = some fn12.body := by kernel_rfl
theorem i13 : fnIn (mkS w s0 mg mb) 13 fn13 false = true := by kernel_rfl
theorem c13 (ok) (k2) : cF w s0 mg mb ok k2 (st 24) false = some fn13.body := by kernel_rfl
theorem i14 : fnIn (mkS w s0 mg mb) 14 fn14 false = true := by kernel_rfl
theorem c14 (ok) (k2) : cF w s0 mg mb ok k2 (st 26) false = some fn14.body := by kernel_rfl
theorem i15 : fnIn (mkS w s0 mg mb) 15 fn15 false = true := by kernel_rfl
theorem c15 (ok) (k2) : cF w s0 mg mb ok k2 (st 29) false = some fn15.body := by kernel_rfl
theorem i16 : fnIn (mkS w s0 mg mb) 16 fn16 false = true := by kernel_rfl
theorem c16 (ok) (k2) : cF w s0 mg mb ok k2 (st 31) false = some fn16.body := by kernel_rfl
theorem i17 : fnIn (mkS w s0 mg mb) 17 fn17 false = true := by kernel_rfl
theorem c17 (ok) (k2) : cF w s0 mg mb ok k2 (st 32) false = some fn17.body := by kernel_rfl
theorem i18 : fnIn (mkS w s0 mg mb) 18 fn18 false = true := by kernel_rfl
theorem c18 (ok) (k2) : cF w s0 mg mb ok k2 (st 37) false = some fn18.body := by kernel_rfl
theorem i19 : fnIn (mkS w s0 mg mb) 19 fn19 false = true := by kernel_rfl
theorem c19 (ok) (k2) : cF w s0 mg mb ok k2 (st 46) false = some fn19.body := by kernel_rfl
theorem i20 : fnIn (mkS w s0 mg mb) 20 fn20 false = true := by kernel_rfl
theorem c20 (ok) (k2) : cF w s0 mg mb ok k2 (st 47) false = some fn20.body := by kernel_rfl
theorem i21 : fnIn (mkS w s0 mg mb) 21 fn21 false = true := by kernel_rfl
theorem c21 (ok) (k2) : cF w s0 mg mb ok k2 (st 48) false = some fn21.body := by kernel_rfl
theorem i22 : fnIn (mkS w s0 mg mb) 22 fn22 false = true := by kernel_rfl
theorem c22 (ok) (k2) : cF w s0 mg mb ok k2 (st 49) false = some fn22.body := by kernel_rfl
theorem i23 : fnIn (mkS w s0 mg mb) 23 fn23 false = true := by kernel_rfl
theorem c23 (ok) (k2) : cF w s0 mg mb ok k2 (st 50) false = some fn23.body := by kernel_rfl
theorem i24 : fnIn (mkS w s0 mg mb) 24 fn24 false = true := by kernel_rfl
theorem c24 (ok) (k2) : cF w s0 mg mb ok k2 (st 51) false = some fn24.body := by kernel_rfl
theorem i25 : fnIn (mkS w s0 mg mb) 25 fn25 false = true := by kernel_rfl
theorem c25 (ok) (k2) : cF w s0 mg mb ok k2 (st 52) false = some fn25.body := by kernel_rfl
theorem i26 : fnIn (mkS w s0 mg mb) 26 fn26 false = true := by kernel_rfl
theorem c26 (ok) (k2) : cF w s0 mg mb ok k2 (st 53) false = some fn26.body := by kernel_rfl
theorem i27 : fnIn (mkS w s0 mg mb) 27 fn27 false = true := by kernel_rfl
theorem c27 (ok) (k2) : cF w s0 mg mb ok k2 (st 54) false = some fn27.body := by kernel_rfl
theorem i28 : fnIn (mkS w s0 mg mb) 28 fn28 false = true := by kernel_rfl
theorem c28 (ok) (k2) : cF w s0 mg mb ok k2 (st 55) false = some fn28.body := by kernel_rfl
theorem i29 : fnIn (mkS w s0 mg mb) 29 fn29 false = true := by kernel_rfl
theorem c29 (ok) (k2) : cF w s0 mg mb ok k2 (st 56) false = some fn29.body := by kernel_rfl
theorem i30 : fnIn (mkS w s0 mg mb) 30 fn30 false = true := by kernel_rfl
theorem c30 (ok) (k2) : cF w s0 mg mb ok k2 (st 57) false = some fn30.body := by kernel_rfl
theorem i31 : fnIn (mkS w s0 mg mb) 31 fn31 true = true := by kernel_rfl
theorem c31 (ok) (k2) : cF w s0 mg mb ok k2 (st 58) true = some fn31.body := by kernel_rfl
theorem i32 : fnIn (mkS w s0 mg mb) 32 fn32 false = true := by kernel_rfl
theorem c32 (ok) (k2) : cF w s0 mg mb ok k2 (ms 36 1) false = some fn32.body := by kernel_rfl
theorem i33 : fnIn (mkS w s0 mg mb) 33 fn33 false = true := by kernel_rfl
theorem c33 (ok) (k2) : cF w s0 mg mb ok k2 (ms 36 2) false = some fn33.body := by kernel_rfl
theorem i34 : fnIn (mkS w s0 mg mb) 34 fn34 false = true := by kernel_rfl
theorem c34 (ok) (k2) : cF w s0 mg mb ok k2 (ms 36 3) false = some fn34.body := by kernel_rfl
theorem i35 : fnIn (mkS w s0 mg mb) 35 fn35 false = true := by kernel_rfl
theorem c35 (ok) (k2) : cF w s0 mg mb ok k2 (ms 36 6) false = some fn35.body := by kernel_rfl
theorem i36 : fnIn (mkS w s0 mg mb) 36 fn36 false = true := by kernel_rfl
theorem c36 (ok) (k2) : cF w s0 mg mb ok k2 (ms 36 10) false = some fn36.body := by kernel_rfl
theorem i37 : fnIn (mkS w s0 mg mb) 37 fn37 false = true := by kernel_rfl
theorem c37 (ok) (k2) : cF w s0 mg mb ok k2 (ms 36 12) false = some fn37.body := by kernel_rfl
theorem i38 : fnIn (mkS w s0 mg mb) 38 fn38 false = true := by kernel_rfl
theorem c38 (ok) (k2) : cF w s0 mg mb ok k2 (ms 36 13) false = some fn38.body := by kernel_rfl
theorem zoD : NewIn (mkS w s0 mg mb) := ⟨_, _, _, _, _, Str.ofString "self", Str.ofString "scope", _, _, _, _, by kernel_rfl, by kernel_rfl, by kernel_rfl, by kernel_rfl, by kernel_rfl, (by kernel_rfl : findIn (K w.params) (.ref 363) "__init__" = some (some (.ref 275))), by kernel_rfl, rfl, by kernel_rfl, by kernel_rfl, by kernel_rfl, by kernel_rfl, by kernel_rfl, by kernel_rfl, by kernel_rfl, by kernel_rfl, rfl, by decide, by kernel_rfl, by kernel_rfl, by kernel_rfl, by kernel_rfl⟩
theorem zaf {P : Nat -> Fn -> Prop} {k : Nat} {f : Fn} {l : List Fn} (h : P k f) (t : ∀ n fn, l[n]? = some fn -> P (k + 1 + n) fn) : ∀ n fn, (f :: l)[n]? = some fn -> P (k + n) fn
 | 0, _, e => Option.some.inj e ▸ h
 | n + 1, fn, e => (by rw [show k + (n + 1) = k + 1 + n by rw [Nat.add_right_comm]; rfl]; exact t n fn e)
theorem zn5 (ok : StaOk3 (mkS w s0 mg mb)) (k2 : KOk2 (mkS w s0 mg mb)) : ∀ f fn, (mkS w s0 mg mb).tab f = some fn -> FnOk (mkS w s0 mg mb) f fn
 | 0, _, h => nomatch (h : none = some _)
 | n + 1, fn, h => Nat.add_comm 1 n ▸ ((zaf (k := 1) (f := fn1) (zas ok.toStaOk (i1 w s0 mg mb) rfl (zae ok k2 (c1 w s0 mg mb ok k2))) (zaf (k := 2) (f := fn2) (zas ok.toStaOk (i2 w s0 mg mb) rfl (zae ok k2 (c2 w s0 mg mb ok k2))) (zaf (k := 3) (f := fn3) (zas ok.toStaOk (i3 w s0 mg mb) rfl (zae ok k2 (c3 w s0 mg mb ok k2))) (zaf (k := 4) (f := fn4) (zas ok.toStaOk (i4 w s0 mg mb) rfl (zae ok k2 (c4 w s0 mg mb ok k2))) (zaf (k := 5) (f := fn5) (zas ok.toStaOk (i5 w s0 mg mb) rfl (zae ok k2 (c5 w s0 mg mb ok k2))) (zaf (k := 6) (f := fn6) (zas ok.toStaOk (i6 w s0 mg mb) rfl (zae ok k2 (c6 w s0 mg mb ok k2))) (zaf (k := 7) (f := fn7) (zas ok.toStaOk (i7 w s0 mg mb) rfl (zae ok k2 (c7 w s0 mg mb ok k2))) (zaf (k := 8) (f := fn8) (zas ok.toStaOk (i8 w s0 mg mb) rfl (zae ok k2 (c8 w s0 mg mb ok k2))) (zaf (k := 9) (f := fn9) (zas ok.toStaOk (i9 w s0 mg mb) rfl (zae ok k2 (c9 w s0 mg mb ok k2))) (zaf (k := 10) (f := fn10) (zas ok.toStaOk (i10 w s0 mg mb) rfl (zae ok k2 (c10 w s0 mg mb ok k2))) (zaf (k := 11) (f := fn11) (zas ok.toStaOk (i11 w s0 mg mb) rfl (zae ok k2 (c11 w s0 mg mb ok k2))) (zaf (k := 12) (f := fn12) (zas ok.toStaOk (i12 w s0 mg mb) rfl (zae ok k2 (c12 w s0 mg mb ok k2))) (zaf (k := 13) (f := fn13) (zas ok.toStaOk (i13 w s0 mg mb) rfl (zae ok k2 (c13 w s0 mg mb ok k2))) (zaf (k := 14) (f := fn14) (zas ok.toStaOk (i14 w s0 mg mb) rfl (zae ok k2 (c14 w s0 mg mb ok k2))) (zaf (k := 15) (f := fn15) (zas ok.toStaOk (i15 w s0 mg mb) rfl (zae ok k2 (c15 w s0 mg mb ok k2))) (zaf (k := 16) (f := fn16) (zas ok.toStaOk (i16 w s0 mg mb) rfl (zae ok k2 (c16 w s0 mg mb ok k2))) (zaf (k := 17) (f := fn17) (zas ok.toStaOk (i17 w s0 mg mb) rfl (zae ok k2 (c17 w s0 mg mb ok k2))) (zaf (k := 18) (f := fn18) (zas ok.toStaOk (i18 w s0 mg mb) rfl (zae ok k2 (c18 w s0 mg mb ok k2))) (zaf (k := 19) (f := fn19) (zas ok.toStaOk (i19 w s0 mg mb) rfl (zae ok k2 (c19 w s0 mg mb ok k2))) (zaf (k := 20) (f := fn20) (zas ok.toStaOk (i20 w s0 mg mb) rfl (zae ok k2 (c20 w s0 mg mb ok k2))) (zaf (k := 21) (f := fn21) (zas ok.toStaOk (i21 w s0 mg mb) rfl (zae ok k2 (c21 w s0 mg mb ok k2))) (zaf (k := 22) (f := fn22) (zas ok.toStaOk (i22 w s0 mg mb) rfl (zae ok k2 (c22 w s0 mg mb ok k2))) (zaf (k := 23) (f := fn23) (zas ok.toStaOk (i23 w s0 mg mb) rfl (zae ok k2 (c23 w s0 mg mb ok k2))) (zaf (k := 24) (f := fn24) (zas ok.toStaOk (i24 w s0 mg mb) rfl (zae ok k2 (c24 w s0 mg mb ok k2))) (zaf (k := 25) (f := fn25) (zas ok.toStaOk (i25 w s0 mg mb) rfl (zae ok k2 (c25 w s0 mg mb ok k2))) (zaf (k := 26) (f := fn26) (zas ok.toStaOk (i26 w s0 mg mb) rfl (zae ok k2 (c26 w s0 mg mb ok k2))) (zaf (k := 27) (f := fn27) (zas ok.toStaOk (i27 w s0 mg mb) rfl (zae ok k2 (c27 w s0 mg mb ok k2))) (zaf (k := 28) (f := fn28) (zas ok.toStaOk (i28 w s0 mg mb) rfl (zae ok k2 (c28 w s0 mg mb ok k2))) (zaf (k := 29) (f := fn29) (zas ok.toStaOk (i29 w s0 mg mb) rfl (zae ok k2 (c29 w s0 mg mb ok k2))) (zaf (k := 30) (f := fn30) (zas ok.toStaOk (i30 w s0 mg mb) rfl (zae ok k2 (c30 w s0 mg mb ok k2))) (zaf (k := 31) (f := fn31) (zas ok.toStaOk (i31 w s0 mg mb) rfl (zae ok k2 (c31 w s0 mg mb ok k2))) (zaf (k := 32) (f := fn32) (zas ok.toStaOk (i32 w s0 mg mb) rfl (zae ok k2 (c32 w s0 mg mb ok k2))) (zaf (k := 33) (f := fn33) (zas ok.toStaOk (i33 w s0 mg mb) rfl (zae ok k2 (c33 w s0 mg mb ok k2))) (zaf (k := 34) (f := fn34) (zas ok.toStaOk (i34 w s0 mg mb) rfl (zae ok k2 (c34 w s0 mg mb ok k2))) (zaf (k := 35) (f := fn35) (zas ok.toStaOk (i35 w s0 mg mb) rfl (zae ok k2 (c35 w s0 mg mb ok k2))) (zaf (k := 36) (f := fn36) (zas ok.toStaOk (i36 w s0 mg mb) rfl (zae ok k2 (c36 w s0 mg mb ok k2))) (zaf (k := 37) (f := fn37) (zas ok.toStaOk (i37 w s0 mg mb) rfl (zae ok k2 (c37 w s0 mg mb ok k2))) (zaf (k := 38) (f := fn38) (zas ok.toStaOk (i38 w s0 mg mb) rfl (zae ok k2 (c38 w s0 mg mb ok k2))) (fun n fn h => nomatch (h : none = some _)))))))))))))))))))))))))))))))))))))))) : ∀ n fn, zmm[n]? = some fn -> FnOk (mkS w s0 mg mb) (1 + n) fn) n fn h
theorem k_ok : KOk (mkS w s0 mg mb) where
 eGet := fun x => by kernel_rfl
 eDict := by kernel_rfl
 eScope := by kernel_rfl
 xGa := fun b => by cases b <;> kernel_rfl
 xGn := fun b => by cases b <;> kernel_rfl
 xSub := fun b => by cases b <;> kernel_rfl
 xDict := fun b => by cases b <;> kernel_rfl
 xWhat := fun b => by cases b <;> kernel_rfl
 xSpot := fun b => by cases b <;> kernel_rfl
theorem iniD : IniD (mkS w s0 mg mb) 65 75 := by
 refine ⟨Str.ofString "self", Str.ofString "what", _, _, _, _, _, _, _, _, _, _, by decide, ?_, ⟨_, _, _, 53, _, _, _, 64, _, _, _, _, _, _, rfl, by kernel_rfl, by kernel_rfl, by kernel_rfl, by kernel_rfl, by kernel_rfl, by kernel_rfl, by kernel_rfl, rfl, by kernel_rfl, by kernel_rfl, by decide +kernel, by decide +kernel, by kernel_rfl, by kernel_rfl, by kernel_rfl, rfl, by kernel_rfl, rfl, rfl, by kernel_rfl⟩⟩
 kernel_rfl
theorem iniP : IniP (mkS w s0 mg mb) 94 104 := by
 refine ⟨Str.ofString "self", Str.ofString "what", Str.ofString "spot", _, _, _, _, _, _, _, _, _, _, by decide, by decide, by decide, ?_, ⟨_, _, _, 82, _, _, _, 93, _, _, _, _, _, _, rfl, by kernel_rfl, by kernel_rfl, by kernel_rfl, by kernel_rfl, by kernel_rfl, by kernel_rfl, by kernel_rfl, rfl, by kernel_rfl, by kernel_rfl, by decide +kernel, by decide +kernel, by kernel_rfl, by kernel_rfl, by kernel_rfl, rfl, by kernel_rfl, rfl, rfl, by kernel_rfl⟩⟩
 kernel_rfl
theorem exc_k (h1 : mg "super" = none) : ExcK (mkS w s0 mg mb) 75 104 65 94 where
 si := ⟨h1, by kernel_rfl⟩
 cls := fun b => by cases b <;> exact ⟨_, _, _, _, _, _, _, _, _, _, _, _, _, _, _, rfl, by kernel_rfl⟩
 f0 := by kernel_rfl
 f1 := by kernel_rfl
 tP := by kernel_rfl
 tD := by kernel_rfl
 iD := iniD w s0 mg mb
 iP := iniP w s0 mg mb
 cD := ⟨_, _, rfl, rfl⟩
 cP := ⟨_, _, rfl, rfl⟩
 mD := fun b => by cases b <;> kernel_rfl
 mP := by kernel_rfl
 aD := fun b => by cases b <;> kernel_rfl
 aP := by kernel_rfl
 no := by kernel_rfl
 sa := fun b => by cases b <;> kernel_rfl
 tw := fun b => by cases b <;> kernel_rfl
 ts := by kernel_rfl
theorem zmx : KSeen (mkS w s0 mg mb) where
 fu := by kernel_rfl
 me := by kernel_rfl
 ek := by kernel_rfl
 eg := by kernel_rfl
 xCl := fun b => by cases b <;> kernel_rfl
 xTy := fun b => by cases b <;> kernel_rfl
 xTu := fun b => by cases b <;> kernel_rfl
 xEq := fun a b => by cases a <;> cases b <;> kernel_rfl
 xKp := fun b => by cases b <;> kernel_rfl
 xF := by kernel_rfl
 xL := by kernel_rfl
 fr := by kernel_rfl
end
theorem noT (P : Params) : noTabs (K P) = true := by kernel_rfl
theorem sysT (P : Params) : ∃ o, (K P).lookup 1 = some o := ⟨_, rfl⟩
theorem sta1 {w : World} {s1 : Shared} {mg mb : Str -> Option Value} {p : Program} {loose : List Str} {mean : ExcName -> Option Value} (T : Top p loose mean mg mb s1.heap) (X : (K w.params).In s1.heap) (hT : TabsAt [(489, 487)] s1.heap) :
  StaOk (mkS w { s1 with heap := ghostOf s1.heap [(489, 487)] } mg mb) where
 K := ghost_K hT X (noT _)
 g := ghost_ns hT T.g
 b := ghost_ns hT T.b
 builtins := T.builtins
 nolimit := let ⟨mc, a, r⟩ := T.nolimit; ⟨mc, ghost_ns hT a, r⟩
 cev := by show 14 < 363; decide
 sm := let ⟨o, e⟩ := sysT w.params; ⟨o, ghost_K hT X (noT _) 1 o e⟩
 lc := (ghost_code hT).1
 tn := hideAll_none _ (by simp)
 ba := fun h st => by
  obtain ⟨bm, ob, a1, a2, a3, a4, a5, a6⟩ := T.bmain
  have n1 : bm ≠ mainGlobals := fun q => by
   obtain ⟨o, es, ep, e, hd, _⟩ := T.g
   rw [q, e] at a3; cases a3
   rw [hd] at a6; cases a6
  have n2 : bm ≠ 487 := fun q => by
   have := (hT (489, 487) (.head _)).2
   rw [q] at a3
   rw [a3] at this; cases this
   cases a6
  exact ⟨bm, ob, a1, a2, n1, n2, st _ _ (ghost_get hT a3 (fun q => by rw [q] at a4; cases a4)), a4, a5, a6⟩
end Mine.Lake
namespace Mine.Lake
open PySem PySem.W PyProof.Rows PySem.Calls
noncomputable abbrev gh (s : Shared) : Shared := { s with heap := ghostOf s.heap [(489, 487)] }
noncomputable abbrev gS (w : World) (s : Shared) (mg mb : Str -> Option Value) : Sta := mkS w (gh s) mg mb
theorem walk1 (hl : ∀ l : List Int, l.length <= 63 -> zaD tab1 gc1 500 31 [.v (.pd (.list (l.map .int)))] [] (fun v _ => v = .pd (.bool true)) (fun _ _ => False)) :
  WalkO q loose (XL q []) HK.says rw.row.toRowW lawD [] fun f vs => PySem.call f vs := by
 intro w s₀ s₁ mg mb G Y fa o pm cd doc dV kV ho hd hcd hD hmg hg args vals as hpre hlay hrd hwl hlo
 have X : (K w.params).In s₁.heap := kIn_of Y
 have T := G.T
 have hT : TabsAt ([(489, 487)] : List (Addr × Addr)) s₁.heap := List.forall_mem_cons.mpr ⟨tab_of (x := PySem.Str.ofString "law") (c := 489) (P := 487) T X rfl (by kernel_rfl), fun _ h => nomatch h⟩
 have e490 : mg (Str.ofString "law") = some (.ref 490) := mg_of X T.g (by kernel_rfl)
 have hfa : fa = 490 := by
  have : mg (Str.ofString "law") = some (.ref fa) := hmg
  rw [e490] at this; cases this; rfl
 subst hfa
 clear ho hd hcd hD
 wrow_args hpre hlay hrd hwl hlo
 rename Heap.IsList _ _ _ => hL
 rename IntsAre _ _ => hI
 rename ¬ _ => hc
 rename_i l _ _ _ _ _ _ _ la vl _ _ _ _ _ _
 have hlen : l.length <= 63 := by omega
 have ok1 := sta1 T X hT
 have hXB := ok1.K
 have cons : ∀ x i, za6 (gS w s₁ mg mb).cx.cons x = some i -> ∃ v, mg x = some v /\ PV w.params (ghostOf s₁.heap [(489, 487)]) (fun _ => .fz) v (gc1 i) := fun x i h => by
  have hm := zaB h
  rcases List.mem_cons.mp hm with hm | hm
  ·cases hm
   exact ⟨.int 100000 342, mg_of X T.g (by kernel_rfl), .int _ _⟩
  ·rcases List.mem_cons.mp hm with hm | hm
   ·cases hm
    exact ⟨.int 1000 346, mg_of X T.g (by kernel_rfl), .int _ _⟩
   ·rcases List.mem_cons.mp hm with hm | hm
    ·cases hm
     exact ⟨.ref 409, mg_of X T.g (by kernel_rfl), .tuple rfl (hXB 409 _ rfl) rfl rfl (.cons (.str _ _) (.cons (.str _ _) (.cons (.str _ _) (.cons (.str _ _) .nil))))⟩
    ·cases hm
 have ok3 := sta3 ok1 (zmx w (gh s₁) mg mb) (k_ok w (gh s₁) mg mb) cons
 have k2 := zoC ok1 (zmx w (gh s₁) mg mb)
 have xk := exc_k w (gh s₁) mg mb (zke (n := Str.ofString "super") X T.g (by kernel_rfl))
 have tabs := zn5 w (gh s₁) mg mb ok3 k2
 have jn := zoD w (gh s₁) mg mb
 have co := zfj ok3 k2 jn xk tabs 499
 have bo : Hy (gS w s₁ mg mb) 499 := ⟨co, zhv ok1 jn, zhZ ok1 xk⟩
 have e487 := (hT (489, 487) (.head _)).2
 let g : Gh := { κ := fun a => if a = 487 then .tb else if (s₁.heap.get? a).isSome then .fz else .ot, μ := fun _ => 0, n := 0 }
 have g487 : g.κ 487 = .tb := by
  show (if (487 : Addr) = 487 then Kd.tb else if (s₁.heap.get? 487).isSome then .fz else .ot) = .tb
  exact if_pos rfl
 have gfz : ∀ a o, a ≠ 487 -> s₁.heap.get? a = some o -> g.κ a = .fz := fun a o n e => by
  show (if a = 487 then Kd.tb else if (s₁.heap.get? a).isSome then .fz else .ot) = .fz
  rw [if_neg n, e]; rfl
 have bne : ∀ a o, (ghostOf s₁.heap [(489, 487)]).get? a = some o -> a ≠ 487 := fun a o e q => by
  rw [q] at e
  rw [hideAll_none _ (by simp)] at e; cases e
 have I : Inv (gS w s₁ mg mb) [] g [] s₁.heap := {
  stays := fun b o e => of_hideAll _ e
  bfz := fun a o e => gfz a o (bne a o e) (of_hideAll _ e)
  ot := fun a e => by
   show (if a = 487 then Kd.tb else if (s₁.heap.get? a).isSome then .fz else .ot) = .ot
   rw [if_neg (fun q => by rw [q, e487] at e; cases e), e]; rfl
  num := rfl
  mu := fun i o e => by simp at e
  km := fun i hi => absurd hi (Nat.not_lt_zero i)
  inj := fun i j hi => absurd hi (Nat.not_lt_zero i)
  fr := ⟨trivial, fun L hm => by simp at hm⟩
  tb := ⟨g487, #[], e487, trivial, fun pos cv q => by cases q⟩ }
 have hla : la ≠ 1 := fun q => by
  obtain ⟨o, e, c, _⟩ := hL
  have e1 := X 1 _ rfl
  rw [q, e1] at e; cases e
  injection c with c; exact absurd c (by decide)
 obtain ⟨ol, el, cl, nl, dl⟩ := hL
 have r : LRs (gS w s₁ mg mb) s₁.heap g [.ref la] [.v (.pd (.list (l.map .int)))] := .cons (.v (.pd (.list (gfz la ol (fun q => by rw [q, e487] at el; cases el; cases cl) el) el cl dl hla (ze0 hI)))) .nil
 have main := zf3 ok3 tabs bo (f := 31) (A := callerA) (s := s₁) rfl rfl rfl (by decide) (by decide) I r (by decide) (hl l hlen)
 refine wpAny_mono main (fun v s' hok => ?_) (fun e s' her => ?_)
 ·obtain ⟨b, σ', g', hb, E, I', R, Z⟩ := hok
  subst hb
  have hv : v = .bool true := by
   cases R with
   | pd p => cases p; rfl
  subst hv
  have keep : ∀ b o, b ≠ 487 -> s₁.heap.get? b = some o -> s'.heap.get? b = some o := fun b o n e => (E.fz b o (gfz b o n e) e).2
  obtain ⟨ps, ep, _⟩ := I'.tb.at_
  refine ⟨.inl ⟨.bool true, .bool true, [], rfl, fun cls => rfl, .bool _, ?_, fun _ => ⟨List.nodup_nil, fun _ h => by cases h⟩⟩, ⟨fun b o e => ?_, fun b o e => ?_⟩, Z.2.2, ?_⟩
  ·wrow_post
  ·by_cases n : b = 487
   ·subst n
    rw [e487] at e; cases e
    exact .inr (.inl ⟨((hT (489, 487) (.head _)).1.tab e487).isCodeTable, rfl, #[], ps, rfl, by rw [Array.empty_append]; exact ep⟩)
   ·exact .inl (keep b o n e)
  ·exact E.still b o e
  ·rw [Z.1, hg]; exact .of_eq rfl
 ·obtain ⟨exc, σ', g', ea, tr, _, _, hE, _⟩ := her
  exact hE.elim
end Mine.Lake
namespace Mine.Lake.Pl
open PySem PySem.W PyProof.Rows
set_option backward.match.sparseCases false
noncomputable def retK (K : KV) : KS := fun fl _ σ' => match fl with
 | .ret v => K v σ'
 | .next => K (.pd .none) σ'
 | .cont => False
noncomputable def stp (G : zab) (f : Nat) (as : List Loc) (σ : Hp) (K : KV) (E : KE) : Prop :=
 need (tab1 f) fun fn => need (zdB fn.ps as (List.replicate fn.size none)) fun m => evSs G gc1 fn.body m σ (retK K) E
noncomputable abbrev G1 := zaD tab1 gc1
def Up (G H : zab) : Prop := ∀ f as σ K E, stp G (f + 1) as σ K E -> H (f + 1) as σ K E
theorem zaU (n : Nat) : Up (G1 n) (G1 (n + 1)) := fun f as σ K E h => (by kernel_rfl : G1 (n + 1) (f + 1) as σ K E = stp (G1 n) (f + 1) as σ K E).mpr h
def Lv (j : Nat) (G : zab) : Prop := ∃ n, j <= n /\ G = G1 n
inductive Dn (j : Nat) (G : zab) : Prop
 | mk (H : zab) (l : Lv j H) (u : Up H G)
theorem Lv.dn {j : Nat} {G : zab} (h : Lv (j + 1) G) : Dn j G := by
 obtain ⟨n, hn, rfl⟩ := h
 obtain ⟨m, rfl⟩ := Nat.exists_eq_add_of_le' hn
 exact ⟨G1 (m + j), ⟨_, Nat.le_add_left j m, rfl⟩, zaU (m + j)⟩
theorem Lv.le {i j : Nat} {G : zab} (h : Lv j G) (q : i <= j) : Lv i G := let ⟨n, hn, e⟩ := h; ⟨n, Nat.le_trans q hn, e⟩
noncomputable abbrev pv (d : PyData) : Loc := .v (.pd d)
noncomputable abbrev iv (i : Int) : Loc := .v (.pd (.int i))
noncomputable abbrev lp (d : PyData) : Option Loc := some (.v (.pd d))
theorem zaa {α : Type} {o : Option α} {a : α} {k : α -> Prop} (e : o = some a) (h : k a) : need o k := by subst e; exact h
theorem zcs {t : Bool} {P Q : Prop} (e : t = true) (h : P) : brn t P Q := by subst e; exact h
theorem zaO {t : Bool} {P Q : Prop} (e : t = false) (h : Q) : brn t P Q := by subst e; exact h
theorem zdc {t : Bool} {P Q : Prop} (h : t = true -> P) (g : t = false -> Q) : brn t P Q := by
 cases t with
 | true => exact h rfl
 | false => exact g rfl
theorem zbg {t : Bool} {P Q : Prop} (h : P) (g : Q) : brn t P Q := zdc (fun _ => h) fun _ => g
theorem gd_i {β : Type} {c : Prop} [Decidable c] {x : β} (h : c) : gd c x = some x := if_pos h
noncomputable abbrev tInt : PyData := .str ⟨#[105,110,116]⟩
noncomputable abbrev zgc : PyData := .str ⟨#[98,111,111,108]⟩
noncomputable abbrev tStr : PyData := .str ⟨#[115,116,114]⟩
noncomputable abbrev zbj : PyData := .str ⟨#[110,97,109,101]⟩
noncomputable abbrev tBin : PyData := .str ⟨#[98,105,110]⟩
noncomputable abbrev za9 : PyData := .str ⟨#[114,97,110,103,101]⟩
noncomputable abbrev tSet : PyData := .str ⟨#[115,101,116]⟩
noncomputable abbrev tLet : PyData := .str ⟨#[108,101,116]⟩
noncomputable abbrev tCon : PyData := .str ⟨#[99,111,110,115,116,114,97,105,110,116]⟩
noncomputable abbrev zeW : PyData := .str ⟨#[100,101,99,108]⟩
noncomputable abbrev tAdd : PyData := .str ⟨#[43]⟩
noncomputable abbrev tLt : PyData := .str ⟨#[60]⟩
noncomputable abbrev tOk : PyData := .str ⟨#[111,107]⟩
noncomputable abbrev tBad : PyData := .str ⟨#[98,97,100]⟩
noncomputable abbrev wNum : Str := ⟨#[97,32,110,117,109,98,101,114,32,105,115,32,119,97,110,116,101,100]⟩
noncomputable abbrev zjY : Str := ⟨#[116,114,117,101,32,111,114,32,102,97,108,115,101,32,105,115,32,119,97,110,116,101,100]⟩
noncomputable abbrev zmb : Str := ⟨#[97,32,116,101,120,116,32,105,115,32,119,97,110,116,101,100]⟩
noncomputable abbrev wSet : Str := ⟨#[97,32,115,101,116,32,105,115,32,119,97,110,116,101,100]⟩
noncomputable abbrev zcg : Str := ⟨#[32,104,97,115,32,110,111,32,118,97,108,117,101]⟩
noncomputable abbrev wCon : Str := ⟨#[97,32,99,111,110,115,116,114,97,105,110,116,32,119,105,116,104,105,110,32,108,101,116,32,100,111,101,115,32,110,111,116,32,104,111,108,100]⟩
noncomputable abbrev wBnd : Str := ⟨#[32,105,115,32,110,111,116,32,119,105,116,104,105,110,32,105,116,115,32,98,111,117,110,100,115]⟩
noncomputable def iStr (i : Int) : Str := Str.ofString (toString i)
inductive Nam where
 | a | b | c | s | z
noncomputable def Nam.str : Nam -> Str
 | .a => ⟨#[97]⟩
 | .b => ⟨#[98]⟩
 | .c => ⟨#[99]⟩
 | .s => ⟨#[115]⟩
 | .z => ⟨#[122]⟩
inductive Kn where
 | int | bool | str | set
noncomputable def Kn.w : Kn -> Str
 | .int => ⟨#[105,110,116]⟩
 | .bool => ⟨#[98,111,111,108]⟩
 | .str => ⟨#[115,116,114]⟩
 | .set => ⟨#[115,101,116]⟩
set_option genCtorIdx false in
inductive Vl where
 | num (i : Int)
 | tru (b : Bool)
 | txt (x : Str)
 | set (l : List Int)
noncomputable def Vl.ctorIdx (x : Vl) : Nat := Vl.casesOn x (fun _ => 0) (fun _ => 1) (fun _ => 2) (fun _ => 3)
noncomputable abbrev zam (l : List Int) : PyData := .tuple (l.map .int)
noncomputable def Vl.d : Vl -> PyData
 | .num i => .int i
 | .tru b => .bool b
 | .txt x => .str x
 | .set l => zam l
set_option genCtorIdx false in
inductive Re (α : Type) where
 | ok (v : α)
 | bad (t : Str) (s : Int)
noncomputable def Re.ctorIdx {α : Type} (x : Re α) : Nat := Re.casesOn x (fun _ => 0) (fun _ _ => 1)
noncomputable def Re.bind {α β : Type} (r : Re α) (k : α -> Re β) : Re β := match r with
 | .ok v => k v
 | .bad t s => .bad t s
noncomputable def Out (r : Re Vl) (K : KV) (E : KE) (σ : Hp) : Prop := match r with
 | .ok v => K (.pd v.d) σ
 | .bad t s => E ⟨false, t, .int s⟩ σ
noncomputable def badT (t : Str) (s : Int) : PyData := .tuple [tBad, .str t, .int s]
noncomputable def okT (d : PyData) : PyData := .tuple [tOk, d]
noncomputable def zbc : Re Vl -> PyData
 | .ok v => okT v.d
 | .bad t s => badT t s
section
variable {α : Type}
noncomputable def cnt (s : Int) (u : Vl) (k : Int -> Re α) : Re α := match u with
 | .num i => k i
 | .tru b => k (if b = true then 1 else 0)
 | _ => .bad wNum s
noncomputable def tru (s : Int) (u : Vl) (k : Bool -> Re α) : Re α := match u with
 | .tru b => k b
 | _ => .bad zjY s
noncomputable def txt' (s : Int) (u : Vl) (k : Str -> Re α) : Re α := match u with
 | .txt b => k b
 | _ => .bad zmb s
noncomputable def lot (s : Int) (u : Vl) (k : List Int -> Re α) : Re α := match u with
 | .set l => k l
 | _ => .bad wSet s
end
structure Env where
 a : Vl
 b : Vl
 c : Vl
noncomputable abbrev S0 : List Int := [0, 1, 2, 4]
noncomputable def Env.at (ρ : Env) : Nam -> Option Vl
 | .a => some ρ.a
 | .b => some ρ.b
 | .c => some ρ.c
 | .s => some (.set S0)
 | .z => none
noncomputable def look (s : Int) (n : Nam) (ρ : Env) : Re Vl := match ρ.at n with
 | some v => .ok v
 | none => .bad (n.str ++ zcg) s
inductive N3 where
 | a | b | c
noncomputable def N3.nam : N3 -> Nam
 | .a => .a
 | .b => .b
 | .c => .c
noncomputable def Env.put (ρ : Env) (n : N3) (v : Vl) : Env := match n with
 | .a => ⟨v, ρ.b, ρ.c⟩
 | .b => ⟨ρ.a, v, ρ.c⟩
 | .c => ⟨ρ.a, ρ.b, v⟩
noncomputable abbrev dc (ρ : Env) : List (Str × V) := [(Nam.a.str, .pd ρ.a.d), (Nam.b.str, .pd ρ.b.d), (Nam.c.str, .pd ρ.c.d), (Nam.s.str, .pd (zam S0))]
noncomputable abbrev pdc (ρ : Env) : PyData := .dict [(.str Nam.a.str, ρ.a.d), (.str Nam.b.str, ρ.b.d), (.str Nam.c.str, ρ.c.d), (.str Nam.s.str, zam S0)]
noncomputable def ltI (i : Int) : Vl -> Option Bool
 | .num j => some (decide (i < j))
 | .tru t => some (decide (i < if t = true then 1 else 0))
 | _ => none
noncomputable def ltX (x : Str) : Vl -> Option Bool
 | .txt y => some (decide (x.cps.toList < y.cps.toList))
 | _ => none
noncomputable def ltS (l : List Int) : Vl -> Option Bool
 | .set m => some (ltL l m)
 | _ => none
noncomputable def ltO (u v : Vl) : Option Bool := match u with
 | .num i => ltI i v
 | .tru t => ltI (if t = true then 1 else 0) v
 | .txt x => ltX x v
 | .set l => ltS l v
noncomputable def boR (s : Int) : Option Bool -> Re Vl
 | some t => .ok (.tru t)
 | none => .bad wSet s
noncomputable abbrev ltR (s : Int) (u v : Vl) : Re Vl := boR s (ltO u v)
noncomputable def addR (s : Int) (u v : Vl) : Re Vl := cnt s u fun i => cnt s v fun j => .ok (.num (i + j))
noncomputable def seqR : List (Env -> Re Vl) -> Env -> (List Vl -> Re Vl) -> Re Vl
 | [], ρ, k => k []
 | f :: r, ρ, k => (f ρ).bind fun u => seqR r ρ fun us => k (u :: us)
noncomputable def zdY (s : Int) : List Vl -> (List Int -> Re Vl) -> Re Vl
 | [], k => k []
 | u :: r, k => cnt s u fun i => zdY s r fun is => k (i :: is)
noncomputable def setR (s : Int) (ps : List (Env -> Re Vl)) (ρ : Env) : Re Vl := seqR ps ρ fun us => zdY s us fun l => .ok (.set (za1 (dedup l)))
noncomputable def rI (lo hi : Int) : List Int := (List.range (hi + 1 - lo).toNat).map fun (k : Nat) => lo + (k : Int)
noncomputable def isS : Vl -> Bool
 | .set _ => true
 | _ => false
def In (b : Nat) (i : Int) : Prop := 0 <= i /\ i < (2 ^ b : Nat)
inductive Fine (b : Nat) : Vl -> Prop
 | num {i : Int} : In b i -> Fine b (.num i)
 | tru (t : Bool) : Fine b (.tru t)
 | txt {x : Str} : PyData.strOk x = true -> x.length <= 8 -> Fine b (.txt x)
 | set {l : List Int} : l.Pairwise (· < ·) -> (∀ i ∈ l, In b i) -> l.length <= 8 -> Fine b (.set l)
noncomputable def FineR (b : Nat) : Re Vl -> Prop
 | .ok v => Fine b v
 | .bad t s => PyData.strOk t = true /\ t.length <= 200 /\ s.natAbs <= 20000
structure FineE (b : Nat) (ρ : Env) : Prop where
 h3 : 3 <= b
 fa : Fine b ρ.a
 fb : Fine b ρ.b
 fc : Fine b ρ.c
def Sc (σ : Hp) (S : V) (ρ : Env) : Prop := ∃ i, S = .ref i /\ σ[i]? = some (.dict (dc ρ))
theorem zhU {σ τ : Hp} {i : Nat} {o : O} (h : σ[i]? = some o) : (σ ++ τ)[i]? = some o := (List.getElem?_append_left (List.getElem?_eq_some_iff.mp h).1).trans h
theorem Sc.ext {σ τ : Hp} {S : V} {ρ : Env} (h : Sc σ S ρ) : Sc (σ ++ τ) S ρ := h.elim fun i q => ⟨i, q.1, zhU q.2⟩
noncomputable abbrev hsD (hs : List (Nam × Vl)) : List PyData := hs.map fun p => .tuple [.str p.1.str, p.2.d]
noncomputable def Nam.is : Nam -> Nam -> Bool
 | .a, .a => true | .b, .b => true | .c, .c => true | .s, .s => true | .z, .z => true | _, _ => false
noncomputable def hv (n : Nam) : List (Nam × Vl) -> List Vl
 | [] => []
 | p :: r => (match p.1.is n with | true => [p.2] | false => []) ++ hv n r
structure HOk (b : Nat) (hs : List (Nam × Vl)) (ρ : Env) : Prop where
 last : ∀ n, (hv n hs).getLast? = ρ.at n
 fine : ∀ p ∈ hs, Fine b p.2
noncomputable abbrev lst (hs : List (Nam × Vl)) : O := .list (hsD hs)
def EvOk (j c : Nat) (d : PyData) (f : Env -> Re Vl) : Prop := ∀ {G}, Lv j G -> ∀ {S σ ρ b K E}, b + c <= 24 -> FineE b ρ -> Sc σ S ρ -> (∀ τ, Out (f ρ) K E (σ ++ τ)) -> G 32 [.v (.evr S), pv d] σ K E
def RdOk (j c : Nat) (d : PyData) (f : Env -> Re Vl) : Prop := ∀ {G}, Lv j G -> ∀ {A B hs ρ b K E}, b + c <= 24 -> FineE b ρ -> HOk b hs ρ -> hs.length + j <= 1000 -> (∀ C, K (.pd (zbc (f ρ))) (A ++ lst hs :: (B ++ C))) -> G 29 [pv d, .v (.ref A.length)] (A ++ lst hs :: B) K E
def Sp (d : PyData) (w : Int) : Prop := ∀ σ, zai σ (.pd d) (.pd (.int 1)) = some (.pd (.int w))
structure Good (j c : Nat) (d : PyData) (f : Env -> Re Vl) : Prop where
 fine : ∀ {b ρ}, b + c <= 24 -> FineE b ρ -> FineR (b + c) (f ρ)
 ev : EvOk j c d f
 rd : RdOk j c d f
 nn : isN d = false
set_option backward.match.sparseCases true
noncomputable def OutA (r : Re Vl) (K : KV) (E : KE) (σ : Hp) : Prop := ∀ τ, Out r K E (σ ++ τ)
section
variable {b : Nat} {K K' : KV} {E : KE} {σ τ : Hp} {F G H : zab} {u v : Vl} {s : Int} {r : Re Vl} {α : Type}
theorem OutA.here (h : OutA r K E σ) : Out r K E σ := by have := h []; rwa [List.append_nil] at this
theorem OutA.ext (h : OutA r K E σ) : OutA r K E (σ ++ τ) := fun ρ => by rw [List.append_assoc]; exact h _
theorem zcM {f : Vl -> Re Vl} (hf : FineR b r) (h : OutA (r.bind f) K E σ) (q : ∀ u, Fine b u -> OutA (f u) K E σ -> K' (.pd u.d) σ) : Out r K' E σ := by
 cases r with
 | ok v => exact q v hf h
 | bad t s => exact OutA.here (r := .bad t s) h
theorem sz : sizeLine = 2 ^ 24 := rfl
theorem zan {n m : Nat} (h : n <= m) (q : m <= 2 ^ 24) : n <= sizeLine := Nat.le_trans h q
theorem in_b (hb : 1 <= b) (t : Bool) : In b (if t = true then 1 else 0) := by
 have : (1 : Int) < (2 ^ b : Nat) := Int.lt_of_lt_of_le (by decide : (1 : Int) < (2 ^ 1 : Nat)) (Int.ofNat_le.mpr (Nat.pow_le_pow_right (by decide) hb))
 cases t
 ·exact ⟨Int.le_refl 0, Int.lt_trans (by decide) this⟩
 ·exact ⟨by decide, this⟩
theorem ziF {f : Bool -> Re Vl} (X : Up G H) (h : OutA (tru s u f) K E σ) (q : ∀ t, OutA (f t) K E σ -> K' (.pd (.bool t)) σ) : H 9 [pv u.d, iv s] σ K' E := X 8 _ _ _ _ (by
 cases u with
 | tru t => exact q t h
 | _ => exact OutA.here (r := .bad zjY s) h)
theorem zcu {f : Int -> Re Vl} (X : Up G H) (hb : 1 <= b) (fu : Fine b u) (h : OutA (cnt s u f) K E σ) (q : ∀ i, In b i -> OutA (f i) K E σ -> K' (.pd (.int i)) σ) : H 8 [pv u.d, iv s] σ K' E := X 7 _ _ _ _ (by
 cases fu with
 | num hi => exact q _ hi h
 | tru t => exact q _ (in_b hb t) h
 | _ => exact OutA.here (r := .bad wNum s) h)
theorem ziD {f : Str -> Re Vl} (X : Up G H) (h : OutA (txt' s u f) K E σ) (q : ∀ t, OutA (f t) K E σ -> K' (.pd (.str t)) σ) : H 10 [pv u.d, iv s] σ K' E := X 9 _ _ _ _ (by
 cases u with
 | txt t => exact q t h
 | _ => exact OutA.here (r := .bad zmb s) h)
theorem lenD (l : List Int) : (l.map PyData.int).length = l.length := List.length_map ..
theorem zkb (X : Up G H) (fu : Fine b u) (h : K (.pd (.bool false)) σ) : H 6 [pv u.d] σ K E := X 5 _ _ _ _ (by
 cases fu with
 | @set l _ _ hl =>
  refine Eq.mpr (by kernel_rfl : _ = when ((l.map PyData.int).length <= sizeLine) (brn (((l.map PyData.int).length : Int) == 2) (need (zai σ (.pd (zam l)) (.pd (.int 1))) fun z => need (pdV z) fun d => need (isiP d "list") fun t => K (.pd (.bool t)) σ) (K (.pd (.bool (((l.map PyData.int).length : Int) == 2))) σ))) (zac (zan (lenD l ▸ hl) (by decide)) (zdc (fun e => ?_) fun e => e ▸ h))
  have e2 : (l.map PyData.int).length = 2 := Int.ofNat.inj (beq_iff_eq.mp e)
  match l, e2 with
  | [x, y], _ => exact h
 | _ => exact h)
theorem zlG (X : Up F G) (Y : Up G H) (fu : Fine b u) (h : K (.pd (.bool (isS u))) σ) : H 7 [pv u.d] σ K E := Y 6 _ _ _ _ (by
 have fu' := fu
 cases fu with
 | @set l _ _ hl => exact zkb X fu' h
 | _ => exact h)
theorem ziS {D : zab} {f : List Int -> Re Vl} (W : Up D F) (X : Up F G) (Y : Up G H) (fu : Fine b u) (h : OutA (lot s u f) K E σ) (q : ∀ l, Fine b (.set l) -> OutA (f l) K E σ -> K' (.pd (zam l)) σ) : H 11 [pv u.d, iv s] σ K' E := Y 10 _ _ _ _ (zlG W X fu (by
 cases u with
 | set l => exact q l fu h
 | _ => exact OutA.here (r := .bad wSet s) h))
theorem zeZ {D : zab} (W : Up D F) (X : Up F G) (Y : Up G H) (fu : Fine b u) (hu : (isS u) = false) (h : OutA (.bad wSet s) K E σ) : H 11 [pv u.d, iv s] σ K' E := Y 10 _ _ _ _ (zlG W X fu (by
 cases u with
 | set l => cases hu
 | _ => exact OutA.here (r := .bad wSet s) h))
theorem zg4 {D : zab} {l : List Int} (W : Up D F) (X : Up F G) (Y : Up G H) (fu : Fine b (.set l)) (h : K (.pd (zam l)) σ) : H 11 [pv (zam l), iv s] σ K E := Y 10 _ _ _ _ (zlG W X fu h)
theorem fig {i : Int} (X : Up G H) (hi : In 25 i) (h : K (.pd (.int i)) σ) : H 14 [iv i] σ K E := by
 refine X 13 _ _ _ _ ?_
 have q : decide ((i.natAbs : Int) >= 10 ^ 1000) = false := decide_eq_false (by
  rw [Int.natAbs_of_nonneg hi.1]
  exact fun q => absurd (Int.lt_of_le_of_lt q hi.2) (by decide +kernel))
 exact Eq.mpr (by kernel_rfl : _ = brn (decide ((i.natAbs : Int) >= 10 ^ 1000)) (E ⟨true, Str.empty ++ ⟨#[97,32,110,117,109,98,101,114,32,104,97,115,32,97,116,32,109,111,115,116,32]⟩ ++ iStr 1000 ++ ⟨#[32,102,105,103,117,114,101,115]⟩, .none⟩ σ) (K (.pd (.int i)) σ)) (q ▸ h)
end
inductive Ch (j : Nat) (e : zab) : Prop
 | mk (d c b a z y x : zab) (u4 : Up d e) (u3 : Up c d) (u2 : Up b c) (u1 : Up a b) (u0 : Up z a) (u9 : Up y z) (u8 : Up x y) (ld : Lv j d) (lc : Lv j c) (lb : Lv j b) (la : Lv j a) (lz : Lv j z)
theorem Lv.ch {j : Nat} {e : zab} (h : Lv (j + 7) e) : Ch j e := by
 obtain ⟨d, l4, u4⟩ := h.dn
 obtain ⟨c, l3, u3⟩ := l4.dn
 obtain ⟨b, l2, u2⟩ := l3.dn
 obtain ⟨a, l1, u1⟩ := l2.dn
 obtain ⟨z, l0, u0⟩ := l1.dn
 obtain ⟨y, l9, u9⟩ := l0.dn
 obtain ⟨x, l8, u8⟩ := l9.dn
 exact ⟨d, c, b, a, z, y, x, u4, u3, u2, u1, u0, u9, u8, l4.le (Nat.le_add_right _ _), l3.le (Nat.le_add_right _ _), l2.le (Nat.le_add_right _ _), l1.le (Nat.le_add_right _ _), l0.le (Nat.le_add_right _ _)⟩
noncomputable abbrev se (S : V) : Loc := .v (.evr S)
section
variable {b : Nat} {K K' : KV} {E : KE} {σ τ : Hp} {F G H : zab} {u v : Vl} {s : Int} {r : Re Vl} {S : V} {ρ : Env}
theorem znw (s i : Int) : EvOk 1 0 (.tuple [tInt, .int s, .int i]) (fun _ => .ok (.num i)) := fun lv _ _ _ _ _ _ _ _ _ h => by
 obtain ⟨H, l, u⟩ := lv.dn
 exact u _ _ _ _ _ (OutA.here h)
theorem znt (s : Int) (t : Bool) : EvOk 1 0 (.tuple [zgc, .int s, .bool t]) (fun _ => .ok (.tru t)) := fun lv _ _ _ _ _ _ _ _ _ h => by
 obtain ⟨H, l, u⟩ := lv.dn
 exact u _ _ _ _ _ (OutA.here h)
theorem zns (s : Int) (x : Str) : EvOk 1 0 (.tuple [tStr, .int s, .str x]) (fun _ => .ok (.txt x)) := fun lv _ _ _ _ _ _ _ _ _ h => by
 obtain ⟨H, l, u⟩ := lv.dn
 exact u _ _ _ _ _ (OutA.here h)
theorem zdW {i : Nat} {l : List (Str × V)} (e : σ[i]? = some (.dict l)) : dctR σ (.ref i) = some (i, l) := congrArg (fun o => Option.bind o fun o => Option.map (fun l => (i, l)) (dctO o)) e
theorem znd {i : Nat} {l : List (Str × V)} (q : dctR σ (.ref i) = some (i, l)) (k : Str) : evOp .notin (.pd (.str k)) (.ref i) σ = some (.bool (!(zbf k l).isSome)) :=
 congrArg (fun o : Option (Nat × List (Str × V)) => Option.map (fun r => PyData.bool (!r)) (alt (Option.bind o fun p => some (zbf k p.2).isSome) ((rd σ (.ref i)).bind fun d => alt ((zbC d).bind fun l => (pdV (.pd (.str k))).bind fun c => inL c l) (alt ((tupP d).bind fun l => (pdV (.pd (.str k))).bind fun c => inL c l) ((zfh d).bind fun l => (strV (.pd (.str k))).bind fun k => some (zda k l).isSome))))) q
theorem zkD {i : Nat} {l : List (Str × V)} (q : dctR σ (.ref i) = some (i, l)) (k : Str) : zai σ (.ref i) (.pd (.str k)) = alt (alt (zbf k l) none) none :=
 congrArg (fun o : Option (Nat × List (Str × V)) => alt (alt (Option.bind o fun p => zbf k p.2) none) none) q
theorem zlw (n : Nam) : zbf n.str (dc ρ) = (ρ.at n).map fun v => .pd v.d := by cases n <;> kernel_rfl
theorem zkY (h : Sc σ S ρ) (n : Nam) : evOp .notin (.pd (.str n.str)) S σ = some (.bool (!((ρ.at n).map fun v => V.pd v.d).isSome)) /\ zai σ S (.pd (.str n.str)) = alt (alt ((ρ.at n).map fun v => V.pd v.d) none) none := by
 obtain ⟨i, rfl, e⟩ := h
 rw [← zlw]
 exact ⟨znd (zdW e) _, zkD (zdW e) _⟩
theorem zlV (s : Int) (n : Nam) : EvOk 1 0 (.tuple [zbj, .int s, .str n.str]) (look s n) := fun {G} lv {S σ ρ b K E} _ _ sc h => by
 obtain ⟨H, l, u⟩ := lv.dn
 refine u 31 _ _ _ _ (Eq.mpr (by kernel_rfl : _ = need (evOp .notin (.pd (.str n.str)) S σ) fun d => truth (.pd d) fun t => brn t (evX H gc1 [some (se S), lp (.tuple [zbj, .int s, .str n.str]), lp zbj, lp (.int s), none, none, none] [] (.fstr [.sub (.v 1) (.c (.int 2)), .c (.str zcg)]) σ (fun x σ => need (zes false [x, .pd (.int s)]) fun e => E e σ) E)
  (need (zai σ S (.pd (.str n.str))) fun z => K z σ)) ?_)
 obtain ⟨h1, h2⟩ := zkY sc n
 have h := OutA.here h
 unfold look at h
 cases e : ρ.at n with
 | some v =>
  rw [e] at h h1 h2
  exact zaa h1 (zaa rfl (zaO rfl (zaa h2 h)))
 | none =>
  rw [e] at h h1
  have hn : n = .z := by cases n <;> first | rfl | cases e
  subst hn
  exact zaa h1 (zaa rfl (zcs rfl (Eq.mpr (by kernel_rfl) h)))
noncomputable abbrev nBin (s : Int) (o l r : PyData) : PyData := .tuple [tBin, .int s, o, l, r]
theorem goB {o l r : PyData} {P : Prop} (X : Up F G) (Y : Up G H) (e1 : stp G 32 [se S, pv (nBin s o l r)] σ K E = G 35 [se S, pv o, pv l, pv r, iv s] σ K E) (e2 : stp F 35 [se S, pv o, pv l, pv r, iv s] σ K E = P) (h : P) : H 32 [se S, pv (nBin s o l r)] σ K E :=
 Y 31 _ _ _ _ (e1.mpr (X 34 _ _ _ _ (e2.mpr h)))
section
variable {j c : Nat} {l r : PyData} {f g : Env -> Re Vl}
theorem FineE.h1 (h : FineE b ρ) : 1 <= b + c := Nat.le_trans (by decide) (Nat.le_trans h.h3 (Nat.le_add_right _ _))
theorem zkj {i j : Int} (hi : In b i) (hj : In b j) : In (b + 1) (i + j) := by
 have : 2 ^ (b + 1) = 2 ^ b + 2 ^ b := by rw [Nat.pow_succ, Nat.mul_two]
 unfold In at *
 omega
theorem In.le {i : Int} {c : Nat} (h : In b i) (q : b <= c) : In c i := ⟨h.1, Int.lt_of_lt_of_le h.2 (Int.ofNat_le.mpr (Nat.pow_le_pow_right (by decide) q))⟩
theorem zaP : ∀ l : List Int, zbb (l.map .int) = some l
 | [] => rfl
 | i :: r => congrArg (Option.map (i :: ·)) (zaP r)
theorem zhz {l m : List Int} (hl : l.length <= 8) (hm : m.length <= 8) : evOp .lt (.pd (zam l)) (.pd (zam m)) σ = some (.bool (ltL l m)) :=
 congrArg (fun o : Option Bool => (alt none (alt o none)).map PyData.bool) ((congrArg (fun o : Option (List Int) => Option.bind o fun p => (zbb (m.map .int)).bind fun q => gd (p.length <= 4096 /\ q.length <= 4096) (ltL p q)) (zaP l)).trans
  ((congrArg (fun o : Option (List Int) => Option.bind o fun q => gd (l.length <= 4096 /\ q.length <= 4096) (ltL l q)) (zaP m)).trans (gd_i (c := l.length <= 4096 /\ m.length <= 4096) ⟨Nat.le_trans hl (by decide), Nat.le_trans hm (by decide)⟩)))
theorem zny (s : Int) (gl : Good j c l f) (gr : Good j c r g) : EvOk (j + 7) (c + 1) (nBin s tAdd l r) (fun ρ => (f ρ).bind fun u => (g ρ).bind fun v => addR s u v) := fun {e} lv {S σ ρ b K E} hb fe sc h => by
 obtain ⟨d, c', b', a, _, _, _, u4, u3, u2, u1, _, _, _, _, lc, _, _, _⟩ := lv.ch
 have hb' := Nat.le_of_succ_le hb
 exact goB (P := c' 32 [se S, pv l] σ (fun u σ => c' 32 [se S, pv r] σ (fun v σ => c' 8 [.v u, iv s] σ (fun i σ => c' 8 [.v v, iv s] σ (fun j σ => c' 16 [pv tAdd, .v i, .v j, iv s] σ K E) E) E) E) E)
  u3 u4 (by kernel_rfl) (by kernel_rfl) (gl.ev lc hb' fe sc fun τ => zcM (gl.fine hb' fe) (OutA.ext h) fun u fu h => gr.ev lc hb' fe sc.ext fun τ => zcM (gr.fine hb' fe) h.ext fun v fv h => zcu u2 fe.h1 fu h fun i hi h => zcu u2 fe.h1 fv h fun j hj h =>
   u2 15 _ _ _ _ (Eq.mpr (by kernel_rfl : _ = b' 14 [iv (i + j)] _ K E) (fig u1 ((zkj hi hj).le (Nat.succ_le_succ hb')) (OutA.here h))))
theorem zjl {C D : zab} {l : List Int} (V' : Up C D) (W : Up D F) (X : Up F G) (Y : Up G H) (fu : Fine b (.set l)) (fv : Fine b v) (h : OutA (boR s (ltS l v)) K E σ) : H 15 [pv tLt, pv (zam l), pv v.d, iv s] σ K E := by
 refine Y 14 _ _ _ _ (Eq.mpr (by kernel_rfl : _ = G 11 [pv (zam l), iv s] σ (fun a σ => G 11 [pv v.d, iv s] σ (fun w σ => need (evOp .lt a w σ) fun d => K (.pd d) σ) E) E) (zg4 V' W X fu ?_))
 cases fu with
 | set _ _ zl =>
  cases v with
  | set m =>
   refine zg4 V' W X fv ?_
   cases fv with
   | set _ _ zm => exact zaa (zhz zl zm) (OutA.here h)
  | _ => exact zeZ (K := K) V' W X fv rfl h
theorem zls {C D : zab} (V' : Up C D) (W : Up D F) (X : Up F G) (Y : Up G H) (fu : Fine b u) (fv : Fine b v) (h : OutA (ltR s u v) K E σ) : H 15 [pv tLt, pv u.d, pv v.d, iv s] σ K E := by
 have bad : (isS u) = false -> OutA (.bad wSet s) K E σ -> G 11 [pv u.d, iv s] σ (fun a σ => G 11 [pv v.d, iv s] σ (fun w σ => need (evOp .lt a w σ) fun d => K (.pd d) σ) E) E := fun e h => zeZ V' W X fu e h
 cases u with
 | set l => exact zjl V' W X Y fu fv h
 | _ => exact Y 14 _ _ _ _ (by cases v <;> first | exact OutA.here h | exact bad rfl h)
theorem ev_lt (s : Int) (gl : Good j c l f) (gr : Good j c r g) : EvOk (j + 7) c (nBin s tLt l r) (fun ρ => (f ρ).bind fun u => (g ρ).bind fun v => ltR s u v) := fun {e} lv {S σ ρ b K E} hb fe sc h => by
 obtain ⟨d, c', b', a, z, y, _, u4, u3, u2, u1, u0, u9, _, _, lc, _, _, _⟩ := lv.ch
 exact goB (P := c' 32 [se S, pv l] σ (fun u σ => c' 32 [se S, pv r] σ (fun v σ => c' 15 [pv tLt, .v u, .v v, iv s] σ K E) E) E)
  u3 u4 (by kernel_rfl) (by kernel_rfl) (gl.ev lc hb fe sc fun τ => zcM (gl.fine hb fe) (OutA.ext h) fun u fu h => gr.ev lc hb fe sc.ext fun τ => zcM (gr.fine hb fe) h.ext fun v fv h => zls u9 u0 u1 u2 fu fv h)
end
end
set_option backward.match.sparseCases false
noncomputable def thn' (s : Option Mine.Lake.S) (n : Nat) : List Mine.Lake.S := match s with
 | some (.ite _ a _) => a.drop n
 | _ => []
noncomputable abbrev Pt := PyData × (Env -> Re Vl)
noncomputable abbrev nSet (s : Int) (ps : List Pt) : PyData := .tuple [tSet, .int s, .tuple (ps.map (·.1))]
noncomputable abbrev nLit (s i : Int) : PyData := .tuple [tInt, .int s, .int i]
noncomputable abbrev nRng (s lo hi : Int) : PyData := .tuple [za9, .int s, nLit s lo, nLit s hi]
section
variable {b j c : Nat} {K K' : KV} {E : KE} {σ τ : Hp} {F G H : zab} {u v : Vl} {s : Int} {r : Re Vl} {S : V} {ρ : Env}
theorem app1 {α : Type} {acc : List α} {a : α} {l : List α} : acc ++ [a] ++ l = acc ++ a :: l := by rw [List.append_assoc]; rfl
theorem asc (a b : Int) : a + (b - a) = b := by rw [← Int.add_sub_assoc, Int.add_comm, Int.add_sub_cancel]
theorem asl (a b : Int) : a + b - a = b := by rw [Int.add_comm, Int.add_sub_cancel]
theorem za7 {α : Type} {l : List α} {a : α} : (l ++ [a]).length = l.length + 1 := List.length_append
theorem mv {a b c : Nat} (h : a + (b + 1) <= c) : a + 1 + b <= c := Nat.add_right_comm a b 1 ▸ h
theorem acc1 {α : Type} {acc : List α} {a : α} {n N : Nat} (h : acc.length + (n + 1) <= N) : (acc ++ [a]).length + n <= N := by
 rw [za7]; exact mv h
theorem vals {turn : PyData -> Hp -> (List PyData -> Hp -> Prop) -> Prop} {KK : List PyData -> Hp -> Prop} (lv : Lv j G) (hb : b + c <= 24) (fe : FineE b ρ) (ht : ∀ d σ k, G 32 [se S, pv d] σ (fun v σ => need (pdV v) fun d' => k [d'] σ) E -> turn d σ k) :
  ∀ (ps : List Pt) (acc : List PyData) (k : List Vl -> Re Vl) (σ : Hp), Sc σ S ρ -> (∀ p ∈ ps, Good j c p.1 p.2) -> acc.length + ps.length <= sizeLine -> OutA (seqR (ps.map (·.2)) ρ k) K E σ ->
   (∀ us τ, (∀ u ∈ us, Fine (b + c) u) -> us.length = ps.length -> OutA (k us) K E (σ ++ τ) -> KK (acc ++ us.map Vl.d) (σ ++ τ)) -> zat turn (fun _ k => k) KK (ps.map (·.1)) acc σ
 | [], acc, k, σ, sc, hp, hl, h, q => by
  have := q [] [] (fun _ h => nomatch h) rfl (OutA.ext h)
  rwa [List.append_nil, List.map_nil, List.append_nil] at this
 | p :: r, acc, k, σ, sc, hp, hl, h, q => by
  obtain ⟨g, hr⟩ := List.forall_mem_cons.mp hp
  refine zac (Nat.le_trans (Nat.le_add_right _ _) hl) (ht _ _ _ (g.ev lv hb fe sc fun τ => zcM (g.fine hb fe) (OutA.ext h) fun u fu h => zaa rfl (vals lv hb fe ht r _ (fun us => k (u :: us)) _ sc.ext hr (acc1 hl) h fun us τ' hu hn h => ?_)))
  have := q (u :: us) (τ ++ τ') (List.forall_mem_cons.mpr ⟨fu, hu⟩) (congrArg (· + 1) hn) (by rw [← List.append_assoc]; exact h)
  rw [app1, List.append_assoc]
  exact this
theorem nums {turn : PyData -> Hp -> (List PyData -> Hp -> Prop) -> Prop} {KK : List PyData -> Hp -> Prop} (X : Up G H) (hb : 1 <= b) (ht : ∀ d σ k, H 8 [pv d, iv s] σ (fun v σ => need (pdV v) fun d' => k [d'] σ) E -> turn d σ k) :
  ∀ (us : List Vl) (acc : List PyData) (k : List Int -> Re Vl), (∀ u ∈ us, Fine b u) -> acc.length + us.length <= sizeLine -> OutA (zdY s us k) K E σ ->
   (∀ l : List Int, (∀ i ∈ l, In b i) -> l.length = us.length -> OutA (k l) K E σ -> KK (acc ++ l.map .int) σ) -> zat turn (fun _ k => k) KK (us.map Vl.d) acc σ
 | [], acc, k, hp, hl, h, q => by
  have := q [] (fun _ h => nomatch h) rfl h
  rwa [List.map_nil, List.append_nil] at this
 | u :: r, acc, k, hp, hl, h, q => by
  obtain ⟨fu, hr⟩ := List.forall_mem_cons.mp hp
  refine zac (Nat.le_trans (Nat.le_add_right _ _) hl) (ht _ _ _ (zcu X hb fu h fun i hi h => zaa rfl (nums X hb ht r _ (fun l => k (i :: l)) hr (acc1 hl) h fun l hu hn h => ?_)))
  have := q (i :: l) (List.forall_mem_cons.mpr ⟨hi, hu⟩) (congrArg (· + 1) hn) h
  rw [app1]
  exact this
theorem zme {ps : List Pt} {k : List Vl -> Re Vl} (X : Up G H) (lv : Lv j G) (hb : b + c <= 24) (fe : FineE b ρ) (sc : Sc σ S ρ) (hp : ∀ p ∈ ps, Good j c p.1 p.2) (hl : ps.length <= 4) (h : OutA (seqR (ps.map (·.2)) ρ k) K E σ)
  (q : ∀ us τ, (∀ u ∈ us, Fine (b + c) u) -> us.length = ps.length -> OutA (k us) K E (σ ++ τ) -> K' (.pd (.list (us.map Vl.d))) (σ ++ τ)) : H 33 [se S, pv (.tuple (ps.map (·.1)))] σ K' E :=
 X 32 _ _ _ _ (Eq.mpr (by kernel_rfl : _ = zat (fun d σ k => G 32 [se S, pv d] σ (fun v σ => need (pdV v) fun d' => k [d'] σ) E) (fun _ k => k) (fun ds σ' => when (ds.length <= sizeLine) (K' (.pd (.list ds)) σ')) (ps.map (·.1)) [] σ)
  (vals lv hb fe (fun _ _ _ h => h) ps [] k σ sc hp (zan (by rw [List.length_nil, Nat.zero_add]; exact hl) (by decide)) h fun us τ hu hn h => zac (zan (by rw [List.nil_append, List.length_map, hn]; exact hl) (by decide)) (q us τ hu hn h)))
theorem zim (l : List Int) : (dedup l).length <= l.length := by rw [← zdQ]; exact firstMet_length_le _ _
theorem zn0 {l : List Int} : (seqT σ (.pd (.list (l.map .int)))).bind zbb = some l := zaP l
theorem zeY {l : List Int} (hl : l.length <= 4) : (dedup l).length <= 4 := Nat.le_trans (zim l) hl
theorem mkset {l : List Int} {w : V} (e : seqT σ w = some (l.map .int)) (hl : l.length <= 4) (h : K (.pd (zam (za1 (dedup l)))) σ) : zao .set [w] σ fun v σ => zao .sorted [v] σ fun v σ => zao .tuple [v] σ K := by
 refine zaa (show (seqT σ w).bind zbb = some l by rw [e]; exact zaP l) (zac (Nat.lt_of_le_of_lt hl (by decide)) ?_)
 refine zaa (a := dedup l) (show alt (gd ((dedup l).length <= 4) (dedup l)) _ = _ by rw [gd_i (zeY hl)]; rfl) ?_
 have p := (zby (dedup l)).length_eq
 show need (seqT σ (.pd (.list ((za1 (dedup l)).map .int)))) fun l => when (l.length <= sizeLine) (K (.pd (.tuple l)) σ)
 exact zaa (a := (za1 (dedup l)).map PyData.int) rfl (zac (c := ((za1 (dedup l)).map PyData.int).length <= sizeLine) (zan (by rw [List.length_map, p]; exact zeY hl) (by decide)) h)
theorem znu (s : Int) {ps : List Pt} (hp : ∀ p ∈ ps, Good j c p.1 p.2) (hl : ps.length <= 4) : EvOk (j + 7) c (nSet s ps) (setR s (ps.map (·.2))) := fun {e} lv {S σ ρ b K E} hb fe sc h => by
 obtain ⟨d, c', b', a, _, _, _, u4, u3, u2, _, _, _, _, _, _, lb, _, _⟩ := lv.ch
 refine u4 31 _ _ _ _ (Eq.mpr (by kernel_rfl : _ = d 34 [se S, pv tSet, pv (nSet s ps), iv s] σ K E) (u3 33 _ _ _ _ ?_))
 refine Eq.mpr (by kernel_rfl : _ = c' 33 [se S, pv (.tuple (ps.map (·.1)))] σ (fun w σ => need (zaj σ w) fun l => zat (fun d σ k => c' 8 [pv d, iv s] σ (fun v σ => need (pdV v) fun d' => k [d'] σ) E) (fun σ' k => still σ σ' w k)
  (fun ds σ' => made false ds σ' fun v σ => zao .set [v] σ fun v σ => zao .sorted [v] σ fun v σ => zao .tuple [v] σ K) l [] σ) E) (zme u2 lb hb fe sc hp hl (k := fun us => zdY s us fun l => .ok (.set (za1 (dedup l)))) h fun us τ hu hn h => ?_)
 refine zaa (a := us.map Vl.d) rfl (nums u2 fe.h1 (fun _ _ _ h => h) us [] (fun l => .ok (.set (za1 (dedup l)))) hu (zan (by rw [List.length_nil, Nat.zero_add, hn]; exact hl) (by decide)) h fun l hi hn' h => ?_)
 have h4 : l.length <= 4 := by rw [hn', hn]; exact hl
 exact zac (zan (by rw [List.nil_append, List.length_map]; exact h4) (by decide)) (mkset (w := .pd (.list (l.map .int))) rfl h4 (OutA.here h))
structure Rg (lo hi : Int) : Prop where
 lo : 0 <= lo /\ lo <= 2
 hi : 1 <= hi /\ hi <= 6
theorem zjs (s i : Int) (hi : In 3 i) (hr : RdOk 1 0 (nLit s i) fun _ => .ok (.num i)) : Good 1 0 (nLit s i) fun _ => .ok (.num i) :=
 ⟨fun _ fe => .num (hi.le fe.h3), znw s i, hr, rfl⟩
theorem zla (lo hi : Int) : (rI lo hi).map PyData.int = zaV lo (hi + 1) := by unfold rI zaV; rw [List.map_map]; rfl
theorem znq {a z : Int} (h1 : 0 <= a) (h2 : 0 <= z) (h3 : a < 2 ^ 24) (h4 : z < 2 ^ 24) : -(2 ^ 62) <= a /\ a < 2 ^ 62 /\ -(2 ^ 62) <= z + 1 /\ z + 1 < 2 ^ 62 /\ z + 1 - a <= 2 ^ 24 :=
 ⟨Int.le_trans (by decide) h1, Int.lt_trans h3 (by decide), Int.le_trans (by decide) (Int.le_trans h2 (Int.le_of_lt (Int.lt_succ z))), Int.lt_of_le_of_lt (Int.add_one_le_of_lt h4) (by decide), Int.le_trans (Int.sub_le_self _ h1) (Int.add_one_le_of_lt h4)⟩
theorem zg8 {lo hi : Int} (w : Rg lo hi) : -(2 ^ 62) <= lo /\ lo < 2 ^ 62 /\ -(2 ^ 62) <= hi + 1 /\ hi + 1 < 2 ^ 62 /\ hi + 1 - lo <= 2 ^ 24 :=
 znq w.lo.1 (Int.le_trans (by decide) w.hi.1) (Int.lt_of_le_of_lt w.lo.2 (by decide)) (Int.lt_of_le_of_lt w.hi.2 (by decide))
theorem zol {lo hi : Int} (w : Rg lo hi) : decide (hi - lo >= 100000) = false := decide_eq_false (Int.not_le.mpr (Int.lt_of_le_of_lt (Int.sub_le_self _ w.lo.1) (Int.lt_of_le_of_lt w.hi.2 (by decide))))
theorem zgQ {lo hi : Int} (w : Rg lo hi) (X : Up G H) (h : K (.pd (zam (rI lo hi))) σ) : H 13 [iv lo, iv hi] σ K E := X 12 _ _ _ _ (by
 refine Eq.mpr (by kernel_rfl : _ = brn (decide (hi - lo >= 100000)) (E ⟨true, Str.empty ++ ⟨#[97,32,115,101,116,32,104,97,115,32,97,116,32,109,111,115,116,32]⟩ ++ iStr 100000 ++ ⟨#[32,110,117,109,98,101,114,115]⟩, .none⟩ σ)
  (when (-(2 ^ 62) <= lo /\ lo < 2 ^ 62 /\ -(2 ^ 62) <= hi + 1 /\ hi + 1 < 2 ^ 62 /\ hi + 1 - lo <= 2 ^ 24) (K (.pd (.tuple (zaV lo (hi + 1)))) σ))) (zaO (zol w) (zac (zg8 w) ?_))
 rw [← zla]; exact h)
theorem zcB {α : Type} {P : α -> Prop} {a b : α} (h : P a) (q : P b) : ∀ x ∈ [a, b], P x := List.forall_mem_cons.mpr ⟨h, List.forall_mem_cons.mpr ⟨q, fun _ q => nomatch q⟩⟩
theorem ends {lo hi s : Int} (X : Up G H) (lv : Lv 1 G) (h : K' (.pd (.list [.int lo, .int hi])) σ) : H 33 [se S, pv (.tuple [nLit s lo, nLit s hi])] σ K' E := X 32 _ _ _ _ (by
 obtain ⟨F, l, u⟩ := lv.dn
 exact Eq.mpr (by kernel_rfl : _ = G 32 [se S, pv (nLit s lo)] σ (fun u σ => need (pdV u) fun x => G 32 [se S, pv (nLit s hi)] σ (fun v σ => need (pdV v) fun y => K' (.pd (.list [x, y])) σ) E) E) (u 31 _ _ _ _ (u 31 _ _ _ _ h)))
theorem zdF {i : Int} (X : Up G H) (h : K (.pd (.int i)) σ) : H 8 [iv i, iv s] σ K E := X 7 _ _ _ _ h
theorem znv (s : Int) {lo hi : Int} (w : Rg lo hi) : EvOk 8 0 (nRng s lo hi) (fun _ => .ok (.set (rI lo hi))) := fun {e} lv {S σ ρ b K E} hb fe sc h => by
 obtain ⟨d, c', b', a, _, _, _, u4, u3, u2, _, _, _, _, _, _, lb, _, _⟩ := lv.ch
 refine u4 31 _ _ _ _ (Eq.mpr (by kernel_rfl : _ = d 34 [se S, pv za9, pv (nRng s lo hi), iv s] σ K E) (u3 33 _ _ _ _ ?_))
 refine Eq.mpr (by kernel_rfl : _ = c' 33 [se S, pv (.tuple [nLit s lo, nLit s hi])] σ (fun w σ => need (rd σ w) fun d => need (zct d) fun ds => need (asgN [6, 7] (ds.map .pd) [some (se S), lp za9, lp (nRng s lo hi), lp (.int s), none, none, none, none, none, none, none, none, none, none, none, none, none, none]) fun m => evSs c' gc1 (thn' fn34.body[2]? 1) m σ (retK K) E) E) ?_
 exact ends u2 lb (Eq.mpr (by kernel_rfl : _ = c' 8 [iv lo, iv s] σ (fun i σ => c' 8 [iv hi, iv s] σ (fun j σ => c' 13 [.v i, .v j] σ K E) E) E) (zdF u2 (zdF u2 (zgQ w u2 (OutA.here h)))))
end
noncomputable abbrev Pr := Int × Int
noncomputable abbrev prD (p : Pr) : PyData := .tuple [.int p.1, .int p.2]
noncomputable abbrev psD (ps : List Pr) : List PyData := ps.map prD
noncomputable def mx (a v : Int) : Int := if a < v then v else a
noncomputable def nx (v : Int) : List Pr -> Option Int
 | [] => none
 | p :: r => match decide (v <= p.2) with | true => some (mx p.1 v) | false => nx v r
noncomputable def eqN (v : Int) : Option Int -> Bool
 | none => false
 | some m => m == v
noncomputable def hasB (ps : List Pr) (v : Int) : Bool := eqN v (nx v ps)
def Hs (ps : List Pr) (l : List Int) : Prop := ∀ v, hasB ps v = l.any (· == v)
noncomputable def runs (p : Pr) : List Int -> List Pr
 | [] => [p]
 | i :: r => if i <= p.2 + 1 then runs (p.1, i) r else p :: runs (i, i) r
theorem zos (a v : Int) : (mx a v == v) = decide (a <= v) := by
 rw [Bool.eq_iff_iff, beq_iff_eq, decide_eq_true_eq]
 unfold mx
 by_cases q : a < v
 ·rw [if_pos q]; exact ⟨fun _ => Int.le_of_lt q, fun _ => rfl⟩
 ·rw [if_neg q]; exact ⟨Int.le_of_eq, fun h => Int.le_antisymm h (Int.not_lt.mp q)⟩
theorem zdM {p : Pr} {r : List Pr} {v : Int} : hasB (p :: r) v = if v <= p.2 then decide (p.1 <= v) else hasB r v := by
 unfold hasB
 show eqN v (match decide (v <= p.2) with | true => some (mx p.1 v) | false => nx v r) = _
 by_cases q : v <= p.2
 ·rw [decide_eq_true q, if_pos q]; exact zos _ _
 ·rw [decide_eq_false q, if_neg q]
theorem zdA {v : Int} : ∀ {r : List Int} {p : Pr}, p.1 <= p.2 -> (∀ x ∈ r, p.2 < x) -> r.Pairwise (· < ·) -> (hasB (runs p r) v = true ↔ (p.1 <= v /\ v <= p.2) \/ v ∈ r)
 | [], p, _, _, _ => by
  show hasB [p] v = true ↔ _
  rw [zdM]
  by_cases q : v <= p.2
  ·rw [if_pos q]; simp [q]
  ·rw [if_neg q]; simp [q, hasB, nx, eqN]
 | i :: r, p, h0, h1, h2 => by
  have hi := h1 i List.mem_cons_self
  obtain ⟨h3, h4⟩ := List.pairwise_cons.mp h2
  unfold runs
  by_cases q : i <= p.2 + 1
  ·have key : (p.1 <= v /\ v <= i) ↔ (p.1 <= v /\ v <= p.2) \/ v = i := ⟨fun a => (Int.lt_or_eq_of_le a.2).elim (fun c => .inl ⟨a.1, Int.le_of_lt_add_one (Int.lt_of_lt_of_le c q)⟩) .inr, fun a => a.elim (fun b => ⟨b.1, Int.le_trans b.2 (Int.le_of_lt hi)⟩) fun b => ⟨Int.le_trans (Int.le_trans h0 (Int.le_of_lt hi)) (Int.le_of_eq b.symm), Int.le_of_eq b⟩⟩
   rw [if_pos q, zdA (p := (p.1, i)) (Int.le_trans h0 (Int.le_of_lt hi)) h3 h4, List.mem_cons, ← or_assoc]
   exact or_congr_left key
  ·rw [if_neg q, zdM]
   by_cases e : v <= p.2
   ·rw [if_pos e, decide_eq_true_eq]
    exact ⟨fun a => .inl ⟨a, e⟩, fun h => h.elim (·.1) fun a => absurd (h1 v a) (Int.not_lt.mpr e)⟩
   ·rw [if_neg e, zdA (p := (i, i)) (Int.le_refl i) h3 h4, List.mem_cons]
    exact ⟨fun h => .inr (h.imp_left fun a => Int.le_antisymm a.2 a.1), fun h => h.elim (fun a => absurd a.2 e) fun h => h.imp_left fun a => ⟨Int.le_of_eq a.symm, Int.le_of_eq a⟩⟩
noncomputable def zk5 : List Int -> List Pr
 | [] => []
 | i :: r => runs (i, i) r
theorem ziA {l : List Int} {v : Int} {t : Bool} (h : t = true ↔ v ∈ l) : t = l.any (· == v) := by
 rw [Bool.eq_iff_iff, h, List.any_eq_true]
 exact ⟨fun q => ⟨v, q, beq_self_eq_true v⟩, fun ⟨x, q, e⟩ => beq_iff_eq.mp e ▸ q⟩
theorem zk4 {l : List Int} (h : l.Pairwise (· < ·)) : Hs (zk5 l) l := fun v => ziA (by
 cases l with
 | nil => exact ⟨fun h => (nomatch h), fun h => (nomatch h)⟩
 | cons i r =>
  obtain ⟨h3, h4⟩ := List.pairwise_cons.mp h
  rw [show zk5 (i :: r) = runs (i, i) r from rfl, zdA (p := (i, i)) (Int.le_refl i) h3 h4, List.mem_cons]
  exact or_congr ⟨fun a => Int.le_antisymm a.2 a.1, fun a => ⟨Int.le_of_eq a.symm, Int.le_of_eq a⟩⟩ Iff.rfl)
theorem mem_rI {lo hi v : Int} : v ∈ rI lo hi ↔ lo <= v /\ v <= hi := by
 unfold rI
 rw [List.mem_map]
 constructor
 ·rintro ⟨k, hk, rfl⟩
  exact ⟨Int.le_add_of_nonneg_right (Int.natCast_nonneg k), Int.le_of_lt_add_one (Int.add_lt_of_lt_sub_left (Int.lt_toNat.mp (List.mem_range.mp hk)))⟩
 ·intro h
  obtain ⟨k, hk⟩ := Int.eq_ofNat_of_zero_le (Int.sub_nonneg.mpr h.1)
  have e : lo + (k : Int) = v := by rw [← hk, asc lo v]
  exact ⟨k, List.mem_range.mpr (Int.lt_toNat.mpr (Int.lt_sub_left_of_add_lt (by rw [e]; exact Int.lt_add_one_of_le h.2))), e⟩
theorem zmE {lo hi : Int} : Hs (if lo <= hi then [(lo, hi)] else []) (rI lo hi) := fun v => ziA (by
 rw [mem_rI]
 by_cases q : lo <= hi
 ·rw [if_pos q, zdM]
  by_cases e : v <= hi
  ·simp [e]
  ·simp [e, hasB, nx, eqN]
 ·rw [if_neg q]
  exact ⟨fun h => (nomatch h), fun ⟨a, b⟩ => absurd (Int.le_trans a b) q⟩)
section
variable {b j c : Nat} {K K' : KV} {E : KE} {σ τ A : Hp} {F G H : zab} {u v : Vl} {s i : Int} {r : Re Vl} {S : V} {ρ : Env}
noncomputable abbrev f4 (ps : List Pr) (v : Int) (a b : Option Loc) : Fm := [lp (.tuple (psD ps)), lp (.int v), a, b, none]
noncomputable def b4 : List Mine.Lake.S := match fn4.body with
 | .for _ _ b :: _ => b
 | _ => []
noncomputable def fin4 (K : KV) (σ : Hp) : Option Int -> Prop
 | some m => K (.pd (.int m)) σ
 | none => K (.pd .none) σ
noncomputable abbrev NX (G : zab) (K : KV) (E : KE) (ps0 : List Pr) (v : Int) (l : List PyData) (a b : Option Loc) (σ : Hp) : Prop := forN (fun d m' σ' k => need (tgFm m' (.t [.n 2, .n 3]) d) fun m'' => evSs G gc1 b4 m'' σ' k E) (fun _ k => k) (fun f m' σ' => match f with
 | .next => evSs G gc1 (fn4.body.drop 1) m' σ' (retK K) E
 | f => retK K f m' σ') l (f4 ps0 v a b) σ
theorem zhr {ps0 : List Pr} {v : Int} : ∀ (ps : List Pr) (a b : Option Loc), fin4 K σ (nx v ps) -> NX G K E ps0 v (psD ps) a b σ
 | [], a, b, h => h
 | p :: r, a, b, h => by
  have h : fin4 K σ (match decide (v <= p.2) with | true => some (mx p.1 v) | false => nx v r) := h
  refine Eq.mpr (by kernel_rfl : _ = brn (decide (v <= p.2)) (K (.pd (.int (mx p.1 v))) σ) (NX G K E ps0 v (psD r) (lp (.int p.1)) (lp (.int p.2)) σ)) ?_
  cases q : decide (v <= p.2) with
  | true => rw [q] at h; exact h
  | false => rw [q] at h; exact zhr r _ _ h
theorem zjp {ps : List Pr} {v : Int} (X : Up F G) (Y : Up G H) (h : K (.pd (.bool (hasB ps v))) σ) : H 5 [pv (.tuple (psD ps)), iv v] σ K E := by
 refine Y 4 _ _ _ _ (Eq.mpr (by kernel_rfl : _ = G 4 [pv (.tuple (psD ps)), iv v] σ (fun w σ => need (evOp .eq w (.pd (.int v)) σ) fun d => K (.pd d) σ) E) (X 3 _ _ _ _ ?_))
 refine Eq.mpr (by kernel_rfl : _ = NX F (fun w σ => need (evOp .eq w (.pd (.int v)) σ) fun d => K (.pd d) σ) E ps v (psD ps) none none σ) (zhr ps none none ?_)
 unfold hasB at h
 cases e : nx v ps with
 | none => rw [e] at h; exact h
 | some m => rw [e] at h; exact h
theorem znR (n : Nat) : (-1 + ((n + 1 : Nat) : Int)).toNat = n := (congrArg Int.toNat ((congrArg (-1 + ·) (Int.add_comm (n : Int) 1)).trans (Int.neg_add_cancel_left 1 n))).trans (Int.toNat_natCast n)
theorem neg1 (n : Nat) : -((n + 1 : Nat) : Int) <= -1 := Int.neg_le_neg (Int.ofNat_le.mpr (Nat.succ_pos n))
theorem zdI {l : List PyData} {d : PyData} (hl : (l ++ [d]).length <= sizeLine) : idx (l ++ [d]) (-1) = some d := by
 rw [za7] at hl
 unfold idx
 rw [za7, if_pos ⟨neg1 _, Int.lt_of_lt_of_le (by decide) (Int.natCast_nonneg _), hl⟩, if_pos (by decide), znR, List.getElem?_append_right (Nat.le_refl _), Nat.sub_self]
 rfl
theorem zng {l : List PyData} {j : Int} (h0 : 0 <= j) (h1 : j < l.length) (hl : l.length <= sizeLine) : idx l j = l[j.toNat]? := by
 unfold idx
 rw [if_pos ⟨Int.le_trans (Int.neg_nonpos_of_nonneg (Int.natCast_nonneg _)) h0, h1, hl⟩, if_neg (Int.not_lt.mpr h0)]
theorem gP {o : O} : (A ++ [o])[A.length]? = some o := by rw [List.getElem?_append_right (Nat.le_refl _), Nat.sub_self]; rfl
theorem setP {o o' : O} {B : Hp} : (A ++ o :: B).set A.length o' = A ++ o' :: B := by rw [List.set_append_right _ _ (Nat.le_refl _), Nat.sub_self]; rfl
theorem zbn {p : Nat} {l : List PyData} (e : σ[p]? = some (.list l)) : lstR σ (.ref p) = some (p, l) := congrArg (fun o => Option.bind o fun o => Option.map (fun l => (p, l)) (lstO o)) e
theorem zmJ {p : Nat} {l : List PyData} (e : σ[p]? = some (.list l)) : rd σ (.ref p) = some (.list l) := congrArg (fun o => Option.bind o rdO) e
theorem zba {p : Nat} {l : List PyData} (e : σ[p]? = some (.list l)) : seqT σ (.ref p) = some l := congrArg (fun o : Option PyData => Option.bind o fun d => alt (zbC d) (tupP d)) (zmJ e)
theorem zcC {p : Nat} {l : List PyData} {i : Int} {d : PyData} (e : σ[p]? = some (.list l)) (h : idx l i = some d) : zai σ (.ref p) (.pd (.int i)) = some (.pd d) := by
 refine (congrArg (fun o : Option PyData => Option.bind o fun d => alt ((zbC d).bind fun l => (idx l i).map V.pd) ((tupP d).bind fun l => (idx l i).map V.pd)) (zmJ e)).trans ?_
 show alt ((idx l i).map V.pd) none = _
 rw [h]; rfl
noncomputable abbrev els2 (n : Nat) (i : Int) (K : KV) (σ : Hp) : Prop := when ((lstR σ (.ref n)).isSome = true) (evLM .append (.ref n) [.pd (prD (i, i))] σ (fun _ σ => K (.pd .none) σ))
noncomputable abbrev thn2 (n : Nat) (i : Int) (K : KV) (σ : Hp) : Prop := need (zai σ (.ref n) (.pd (.int (-1)))) fun z => need (zai σ z (.pd (.int 1))) fun w => need (evOp .gt (.pd (.int i)) w σ) fun d => truth (.pd d) fun t => brn t
 (need (zai σ (.ref n) (.pd (.int (-1)))) fun z => need (zai σ z (.pd (.int 0))) fun y => need (zaK [y, .pd (.int i)]) fun ds => when (ds.length <= sizeLine) (need (zdR σ (.ref n) (.pd (.int (-1))) (.pd (.tuple ds))) fun σ' => K (.pd .none) σ')) (K (.pd .none) σ)
theorem put_eq {n : Nat} : stp G 2 [.v (.ref n), iv i, iv i] σ K E = need (seqT σ (.ref n)) fun l => when (l.length <= sizeLine) (brn (decide ((l.length : Int) > 0)) (need (zai σ (.ref n) (.pd (.int (-1)))) fun z => need (zai σ z (.pd (.int 1))) fun w => need (evOp .add w (.pd (.int 1)) σ) fun d => need (evOp .le (.pd (.int i)) (.pd d) σ) fun d => truth (.pd d) fun t => brn t (thn2 n i K σ) (els2 n i K σ))
  (brn (decide ((l.length : Int) > 0)) (thn2 n i K σ) (els2 n i K σ))) := by kernel_rfl
theorem zeN {B : Hp} {l : List PyData} {d : PyData} (hl : l.length < sizeLine) (h : K (.pd .none) (A ++ .list (l ++ [d]) :: B)) : evLM .append (.ref A.length) [.pd d] (A ++ .list l :: B) K := by
 have e : (A ++ .list l :: B)[A.length]? = some (.list l) := by rw [List.getElem?_append_right (Nat.le_refl _), Nat.sub_self]; rfl
 exact zaa (zbn e) (zac hl (by show K _ ((A ++ .list l :: B).set A.length _); rw [setP]; exact h))
theorem zb1 {B : Hp} {l : List PyData} : (lstR (A ++ .list l :: B) (.ref A.length)).isSome = true := by
 rw [zbn (l := l) (by rw [List.getElem?_append_right (Nat.le_refl _), Nat.sub_self]; rfl)]; rfl
theorem put0 (X : Up G H) (h : K (.pd .none) (A ++ [.list (psD [(i, i)])])) : H 2 [.v (.ref A.length), iv i, iv i] (A ++ [.list []]) K E :=
 X 1 _ _ _ _ (put_eq.mpr (zaa (zba gP) (zac (Nat.zero_le _) (zac zb1 (zeN (l := []) (by decide) h)))))
theorem zb5 {qs : List Pr} {p : Pr} : psD (qs ++ [p]) = psD qs ++ [prD p] := List.map_append
theorem ziV {qs : List Pr} {p : Pr} (hl : (psD (qs ++ [p])).length <= sizeLine) : zdR (A ++ [O.list (psD (qs ++ [p]))]) (.ref A.length) (.pd (.int (-1))) (.pd (prD (p.1, i))) = some (A ++ [O.list (psD (qs ++ [(p.1, i)]))]) := by
 have e : (psD (qs ++ [p])).length = qs.length + 1 := by rw [List.length_map, List.length_append]; rfl
 refine (congrArg (fun o : Option (Nat × List PyData) => Option.bind o fun q => gd ((-1 : Int) < 0 /\ -(q.2.length : Int) <= -1 /\ q.2.length <= sizeLine) ((A ++ [O.list (psD (qs ++ [p]))]).set q.1 (.list (q.2.set (-1 + (q.2.length : Int)).toNat (prD (p.1, i)))))) (zbn gP)).trans ?_
 refine (gd_i ⟨by decide, by show -((psD (qs ++ [p])).length : Int) <= -1; rw [e]; exact neg1 _, hl⟩).trans (congrArg some ?_)
 show (A ++ [O.list (psD (qs ++ [p]))]).set A.length (.list ((psD (qs ++ [p])).set (-1 + ((psD (qs ++ [p])).length : Int)).toNat (prD (p.1, i)))) = _
 rw [setP, show (-1 + ((psD (qs ++ [p])).length : Int)).toNat = (psD qs).length by rw [e, List.length_map]; exact znR _, zb5, zb5, List.set_append_right _ _ (Nat.le_refl _), Nat.sub_self]
 rfl
theorem put1 {qs : List Pr} {p : Pr} (X : Up G H) (hi : p.2 < i) (hl : (qs ++ [p]).length + 1 <= 100) (h : K (.pd .none) (A ++ [.list (psD (if i <= p.2 + 1 then qs ++ [(p.1, i)] else qs ++ [p] ++ [(i, i)]))])) :
  H 2 [.v (.ref A.length), iv i, iv i] (A ++ [.list (psD (qs ++ [p]))]) K E := by
 have hl' : (psD (qs ++ [p])).length + 1 <= 100 := by rw [List.length_map]; exact hl
 have hz : (psD (qs ++ [p])).length <= sizeLine := zan (Nat.le_of_succ_le hl') (by decide)
 have lst : zai (A ++ [O.list (psD (qs ++ [p]))]) (.ref A.length) (.pd (.int (-1))) = some (.pd (prD p)) := zcC gP (by rw [zb5]; exact zdI (zb5 ▸ hz))
 have pos : decide (((psD (qs ++ [p])).length : Int) > 0) = true := decide_eq_true (by rw [zb5, za7]; exact Int.ofNat_lt.mpr (Nat.succ_pos _))
 refine X 1 _ _ _ _ (put_eq.mpr (zaa (zba gP) (zac hz (zcs pos (zaa lst (zaa (a := .pd (.int p.2)) rfl (zaa (a := .int (p.2 + 1)) rfl (zaa (a := .bool (decide (i <= p.2 + 1))) rfl (zaa (a := decide (i <= p.2 + 1)) rfl ?_)))))))))
 by_cases q : i <= p.2 + 1
 ·rw [if_pos q] at h
  exact zcs (decide_eq_true q) (zaa lst (zaa (a := .pd (.int p.2)) rfl (zaa (a := .bool (decide (i > p.2))) rfl (zaa (a := decide (i > p.2)) rfl (zcs (decide_eq_true hi) (zaa lst (zaa (a := .pd (.int p.1)) rfl (zaa (a := [.int p.1, .int i]) rfl (zac (c := [PyData.int p.1, .int i].length <= sizeLine) (Nat.le_of_ble_eq_true rfl) (zaa (ziV (A := A) (p := p) (i := i) hz) h))))))))))
 ·rw [if_neg q] at h
  exact zaO (decide_eq_false q) (zac zb1 (zeN (Nat.lt_of_le_of_lt (Nat.le_of_succ_le hl') (by decide)) (by rw [← zb5]; exact h)))
end
set_option backward.match.sparseCases true
noncomputable abbrev cDots : Str := ⟨#[46,46]⟩
noncomputable abbrev znL : Str := ⟨#[123]⟩
noncomputable abbrev znK : Str := ⟨#[125]⟩
noncomputable abbrev cSep : Str := ⟨#[44]⟩
noncomputable def runT (a z : Int) : Str := iStr a ++ cDots ++ iStr z
noncomputable def setT (l : List Int) : Str := znL ++ Txt.join cSep (l.map iStr) ++ znK
noncomputable def zgt : List Int -> Option (Int × Int)
 | [] => none
 | a :: r => (r.getLast?).map fun z => (a, z)
noncomputable def shT (l : List Int) : Str := match zgt l with
 | some p => (match decide (p.2 - p.1 = l.length - 1) with
  | true => runT p.1 p.2
  | false => setT l)
 | none => setT l
theorem zcN {n : Nat} (h : n < 2 ^ 200) : n.log2 < 1920 := by
 by_cases q : n = 0
 ·subst q; decide
 ·exact (Nat.log2_lt q).mpr (Nat.lt_of_lt_of_le h (Nat.pow_le_pow_right (by decide) (by decide)))
theorem In.abs {b : Nat} {i : Int} (h : In b i) : i.natAbs < 2 ^ b := Int.ofNat_lt.mp (by rw [Int.natAbs_of_nonneg h.1]; exact h.2)
theorem In.log {b : Nat} {i : Int} (h : In b i) (hb : b <= 60) : i.natAbs.log2 < 1920 := zcN (Nat.lt_of_lt_of_le h.abs (Nat.pow_le_pow_right (by decide) (Nat.le_trans hb (by decide))))
theorem zay {i : Int} (h : In 24 i) : (iStr i).length <= 19 := toString_length_le h.1 (by decide) (Int.lt_trans h.2 (by decide))
theorem zaC (x y : Str) : (x ++ y).length = x.length + y.length := by
 show (x.cps ++ y.cps).size = _
 rw [Array.size_append]; rfl
theorem zaI {x y : Str} (h : PyData.strOk x = true) (q : PyData.strOk y = true) : PyData.strOk (x ++ y) = true := by
 unfold PyData.strOk at *
 show (x.cps ++ y.cps).all _ = true
 rw [Array.all_append, h, q]; rfl
theorem zbx (s : String) : PyData.strOk (Str.ofString s) = true := by
 unfold PyData.strOk
 rw [Str.ofString_eq_toList]
 simp only [List.all_toArray, List.all_eq_true, List.mem_map, decide_eq_true_eq]
 rintro a ⟨c, _, rfl⟩
 have := c.valid
 unfold UInt32.isValidChar Nat.isValidChar at this
 show c.val.toNat < 0x110000
 omega
theorem ze8 (x : Str) (l : List Str) : Txt.join x l = Str.join x l := StrLaws.glued_eq_join x l
theorem zlD {l : List Int} : PyData.strOk (Str.join cSep (l.map iStr)) = true := by
 induction l with
 | nil => exact by decide +kernel
 | cons i r ih =>
  cases r with
  | nil => exact zbx _
  | cons j r => exact zaI (zaI (zbx _) (by decide +kernel)) ih
theorem zdK : ∀ {l : List Int}, (∀ i ∈ l, In 24 i) -> (Str.join cSep (l.map iStr)).length <= 20 * l.length
 | [], _ => Nat.le_refl 0
 | [i], h => Nat.le_trans (zay (h i List.mem_cons_self)) (Nat.le_of_ble_eq_true rfl : 19 <= 20 * 1)
 | i :: j :: r, h => by
  obtain ⟨h1, h2⟩ := List.forall_mem_cons.mp h
  show (iStr i ++ cSep ++ Str.join cSep ((j :: r).map iStr)).length <= _
  rw [zaC, zaC]
  exact Nat.le_trans (Nat.add_le_add (Nat.add_le_add_right (zay h1) 1) (zdK (l := j :: r) h2)) (Nat.le_of_eq (Nat.add_comm 20 (20 * (j :: r).length)))
theorem zd9 {P : Str -> Prop} {l : List Int} (hr : ∀ a z, a ∈ l -> z ∈ l -> P (runT a z)) (hs : P (setT l)) : P (shT l) := by
 unfold shT
 cases l with
 | nil => exact hs
 | cons a r =>
  cases e : zgt (a :: r) with
  | none => exact hs
  | some p =>
   show P (match decide (p.2 - p.1 = ((a :: r).length : Int) - 1) with | true => runT p.1 p.2 | false => setT (a :: r))
   cases decide (p.2 - p.1 = ((a :: r).length : Int) - 1) with
   | true =>
    refine zbe e fun z hz h => ?_
    subst h
    exact hr a z List.mem_cons_self (List.mem_cons_of_mem _ (List.mem_of_getLast? hz))
   | false => exact hs
theorem zmt (l : List Int) : PyData.strOk (shT l) = true := zd9 (P := fun x => PyData.strOk x = true) (fun a z _ _ => zaI (zaI (zbx _) (by decide +kernel)) (zbx _)) (by
 unfold setT; rw [ze8]; exact zaI (zaI (by decide +kernel) zlD) (by decide +kernel))
theorem zi2 {l : List Int} (h : ∀ i ∈ l, In 24 i) (hl : l.length <= 8) : (setT l).length <= 170 := by
 unfold setT
 rw [ze8, zaC, zaC]
 exact Nat.le_trans (Nat.add_le_add_right (Nat.add_le_add_left (Nat.le_trans (zdK h) (Nat.mul_le_mul_left 20 hl)) 1) 1) (Nat.le_of_ble_eq_true rfl : 1 + 20 * 8 + 1 <= 170)
theorem zkV {l : List Int} (h : ∀ i ∈ l, In 24 i) (hl : l.length <= 8) : (shT l).length <= 170 := zd9 (P := fun x => x.length <= 170) (fun a z ha hz => by
 unfold runT
 rw [zaC, zaC]
 exact Nat.le_trans (Nat.add_le_add (Nat.add_le_add_right (zay (h a ha)) 2) (zay (h z hz))) (by decide)) (zi2 h hl)
section
variable {b j c : Nat} {K K' : KV} {E : KE} {σ τ A : Hp} {F G H : zab} {u v : Vl} {s i : Int} {r : Re Vl} {S : V} {ρ : Env}
theorem zbG {x y : Str} (h : x.length + y.length <= sizeLine) : evOp .add (.pd (.str x)) (.pd (.str y)) σ = some (.str (x ++ y)) := congrArg (fun o => alt o _) (gd_i h)
theorem zdq : ∀ l : List Str, zeO (l.map .str) = some l
 | [] => rfl
 | x :: r => congrArg (Option.map (x :: ·)) (zdq r)
theorem zhF {x : Str} {l : List Str} (h : (l.map (·.length)).sum + l.length <= 1048576) (hx : x.length <= 16) : zhG σ x (.pd (.list (l.map .str))) = some (.str (Txt.join x l)) := by
 refine (congrArg (fun o : Option (List Str) => Option.bind o fun l => gd ((l.map (·.length)).sum + l.length <= 1048576 /\ x.length <= 16) (PyData.str (Txt.join x l))) (zdq l)).trans ?_
 exact gd_i ⟨h, hx⟩
noncomputable abbrev TS (d : PyData) (σ : Hp) (k : List PyData -> Hp -> Prop) : Prop := need (intV (.pd d)) fun i => when (i.natAbs.log2 < 1920) (k [.str (iStr i)] σ)
noncomputable abbrev FS (K : KV) (ds : List PyData) (σ : Hp) : Prop := when (ds.length <= sizeLine) (need (zhG σ cSep (.pd (.list ds))) fun d => need (evOp .add (.pd (.str znL)) (.pd d) σ) fun d => need (evOp .add (.pd d) (.pd (.str znK)) σ) fun d => K (.pd d) σ)
noncomputable abbrev SETP (l : List PyData) (K : KV) (σ : Hp) : Prop := zat TS (fun _ k => k) (FS K) l [] σ
theorem zmn {KK : List PyData -> Hp -> Prop} : ∀ (l : List Int) (acc : List PyData), (∀ i ∈ l, In 24 i) -> acc.length + l.length <= sizeLine -> KK (acc ++ (l.map iStr).map .str) σ -> zat TS (fun _ k => k) KK (l.map .int) acc σ
 | [], acc, _, _, h => by rwa [List.map_nil, List.map_nil, List.append_nil] at h
 | i :: r, acc, hi, hl, h => by
  obtain ⟨h1, h2⟩ := List.forall_mem_cons.mp hi
  exact zac (Nat.le_trans (Nat.le_add_right _ _) hl) (zaa rfl (zac (h1.log (by decide)) (zmn r _ h2 (acc1 hl) (by rw [app1]; exact h))))
theorem zkB {l : List Int} (h : ∀ i ∈ l, In 24 i) : ((l.map iStr).map (·.length)).sum <= 19 * l.length := by
 induction l with
 | nil => exact Nat.le_refl 0
 | cons i r ih =>
  obtain ⟨h1, h2⟩ := List.forall_mem_cons.mp h
  exact Nat.le_trans (Nat.le_of_eq (Nat.add_comm _ _)) (Nat.add_le_add (ih h2) (zay h1))
theorem zdz {l : List Int} (h : ∀ i ∈ l, In 24 i) (hl : l.length <= 8) (k : K (.pd (.str (setT l))) σ) : SETP (l.map .int) K σ := by
 have jl : (Txt.join cSep (l.map iStr)).length <= 160 := by rw [ze8]; exact Nat.le_trans (zdK h) (Nat.mul_le_mul_left 20 hl)
 refine zmn l [] h (zan (by rw [List.length_nil, Nat.zero_add]; exact hl) (by decide)) (zac (zan (by rw [List.nil_append, List.length_map, List.length_map]; exact hl) (by decide)) ?_)
 refine zaa (zhF (Nat.le_trans (Nat.add_le_add (Nat.le_trans (zkB h) (Nat.mul_le_mul_left 19 hl)) (by rw [List.length_map]; exact hl)) (by decide)) (by decide)) (zaa (zbG (zan (Nat.add_le_add_left jl 1) (by decide))) (zaa (zbG (zan (Nat.add_le_add_right (m := 161) ?_ 1) (by decide))) k))
 rw [zaC]; exact Nat.add_le_add_left jl 1
end
noncomputable def rJ : Int -> Nat -> List Int
 | _, 0 => []
 | a, n + 1 => a :: rJ (a + 1) n
theorem zmN (n : Nat) : ∀ a, rJ a n = (List.range n).map fun (k : Nat) => a + (k : Int) := by
 induction n with
 | zero => exact fun _ => rfl
 | succ n ih =>
  intro a
  rw [List.range_succ_eq_map, List.map_cons, List.map_map]
  exact congr (congrArg List.cons (Int.add_zero a).symm) ((ih (a + 1)).trans (List.map_congr_left fun k _ => (Int.add_assoc a 1 k).trans (congrArg (a + ·) (Int.add_comm 1 k))))
theorem zon (a : Int) (m : Nat) : rI a (a + m) = rJ a (m + 1) := by
 rw [zmN]
 unfold rI
 rw [Int.add_assoc, asl]
 rfl
theorem zmO (a z : Int) : (rI a z).length = (z + 1 - a).toNat := by unfold rI; rw [List.length_map, List.length_range]
theorem zg7 {z : Int} : ∀ {r : List Int} {a : Int}, (a :: r).Pairwise (· < ·) -> (a :: r).getLast? = some z -> ∃ m : Nat, z = a + m /\ r.length <= m /\ (m = r.length -> a :: r = rJ a (m + 1))
 | [], a, _, h => ⟨0, (Option.some.inj h).symm.trans (Int.add_zero a).symm, Nat.le_refl 0, fun _ => rfl⟩
 | b :: r, a, h, e => by
  obtain ⟨h1, h2⟩ := List.pairwise_cons.mp h
  obtain ⟨m, e1, l1, i1⟩ := zg7 h2 (z := z) (by rw [List.getLast?_cons_cons] at e; exact e)
  obtain ⟨k, hk⟩ := Int.eq_ofNat_of_zero_le (Int.sub_nonneg.mpr (Int.add_one_le_of_lt (h1 b List.mem_cons_self)))
  have hb : b = a + 1 + k := by rw [← hk, asc]
  refine ⟨k + m + 1, ?_, Nat.succ_le_succ (Nat.le_trans l1 (Nat.le_add_left _ _)), fun q => ?_⟩
  ·rw [e1, hb]
   show a + 1 + k + m = a + ((k : Int) + m + 1)
   rw [Int.add_comm ((k : Int) + m) 1, ← Int.add_assoc, ← Int.add_assoc]
  ·have q : k + m = r.length := Nat.succ.inj q
   have k0 : k = 0 := Nat.le_zero.mp (Nat.le_of_add_le_add_right (Nat.le_trans (Nat.le_of_eq q) (Nat.le_trans l1 (Nat.le_of_eq (Nat.zero_add m).symm))))
   subst k0
   rw [Nat.zero_add] at q ⊢
   rw [i1 q, hb]
   show a :: rJ (a + 1 + 0) (m + 1) = a :: rJ (a + 1) (m + 1)
   rw [Int.add_zero]
theorem zk8 {z a : Int} {r : List Int} (h : (a :: r).Pairwise (· < ·)) (e : (a :: r).getLast? = some z) : decide (a :: r = rI a z) = decide (z - a = ((a :: r).length : Int) - 1) := by
 obtain ⟨m, rfl, l1, i1⟩ := zg7 h e
 rw [zon, asl, show ((a :: r).length : Int) - 1 = r.length from Int.add_sub_cancel (r.length : Int) 1, Bool.eq_iff_iff, decide_eq_true_eq, decide_eq_true_eq]
 exact ⟨fun q => by
  have := congrArg List.length q
  rw [zmN, List.length_map, List.length_range, List.length_cons] at this
  exact congrArg Nat.cast (Nat.succ.inj this).symm, fun q => i1 (Int.ofNat.inj q)⟩
theorem zfT : ∀ l m : List Int, PyData.eqvAll (l.map .int) (m.map .int) = decide (l = m)
 | [], [] => rfl
 | [], _ :: _ => rfl
 | _ :: _, [] => rfl
 | i :: l, k :: m => by
  show ((i == k) && PyData.eqvAll (l.map .int) (m.map .int)) = _
  rw [zfT l m, Bool.eq_iff_iff, Bool.and_eq_true, beq_iff_eq, decide_eq_true_eq, decide_eq_true_eq, List.cons.injEq]
theorem zcw : ∀ l : List Int, PyData.canLayAll0 (l.map .int) = true
 | [] => rfl
 | _ :: r => zcw r
theorem zbV : ∀ l : List Int, PyData.depthAll (l.map .int) = 0
 | [] => rfl
 | _ :: r => congrArg (max 0) (zbV r)
section
variable {b j c : Nat} {K K' : KV} {E : KE} {σ τ A : Hp} {F G H : zab} {u v : Vl} {s i : Int} {r : Re Vl} {S : V} {ρ : Env}
theorem zfU (l m : List Int) : eqP (.list (l.map .int)) (.list (m.map .int)) = some (decide (l = m)) := by
 refine (gd_i (x := PyData.eqvAll (l.map .int) (m.map .int)) ⟨zcw l, zcw m, ?_⟩).trans (congrArg some (zfT l m))
 show PyData.depthAll (l.map .int) + 1 <= 64
 rw [zbV]; decide
theorem zhW {a : PyData} {r : List PyData} (h : (a :: r).length <= sizeLine) : idx (a :: r) 0 = some a := zng (Int.le_refl 0) (Int.ofNat_lt.mpr (Nat.succ_pos _)) h
structure Two (σ : Hp) (l : List Int) (a z : Int) : Prop where
 fst : zai σ (.pd (zam l)) (.pd (.int 0)) = some (.pd (.int a))
 lst : zai σ (.pd (zam l)) (.pd (.int (-1))) = some (.pd (.int z))
 ends : zgt l = some (a, z)
 dec : decide (l = rI a z) = decide (z - a = (l.length : Int) - 1)
 ma : a ∈ l
 mz : z ∈ l
theorem zgF {l : List PyData} {i : Int} {d : PyData} (h : idx l i = some d) : zai σ (.pd (.tuple l)) (.pd (.int i)) = some (.pd d) := congrArg (fun o => Option.map V.pd o) h
theorem zmh {a : Int} {r : List Int} {z : Int} (e : r.getLast? = some z) (h : (a :: r).Pairwise (· < ·)) (hl : (a :: r).length <= 8) : Two σ (a :: r) a z := by
 have hz : ((a :: r).map PyData.int).length <= sizeLine := zan (by rw [List.length_map]; exact hl) (by decide)
 have hr : r ≠ [] := fun q => by subst q; cases e
 have e' : (a :: r).getLast? = some z := by rw [List.getLast?_cons, e]; rfl
 refine ⟨zgF (zhW hz), zgF ?_, by show (r.getLast?).map _ = _; rw [e]; rfl, zk8 h e', List.mem_cons_self, List.mem_cons_of_mem _ (List.mem_of_getLast? e)⟩
 obtain ⟨q, e⟩ := List.getLast?_eq_some_iff.mp e'
 rw [e, List.map_append] at hz ⊢
 exact zdI hz
theorem zfg (x : Str) : Str.empty ++ x = x := by
 obtain ⟨c⟩ := x
 show Str.mk (#[] ++ c) = _
 rw [Array.empty_append]
theorem strK {i : Int} (h : In 24 i) (k : K (.pd (.str (iStr i))) σ) : zao .str [.pd (.int i)] σ K := zaa rfl (zac (h.log (by decide)) k)
theorem zg1 {i : Int} (X : Up G H) (h : In 24 i) (k : K (.pd (.str (iStr i))) σ) : H 17 [iv i] σ K E /\ H 25 [iv i] σ K E := ⟨X 16 _ _ _ _ (strK h k), X 24 _ _ _ _ (strK h k)⟩
noncomputable abbrev f17 (l : List Int) : Fm := [lp (zam l), none, none, none, none, none, none]
noncomputable abbrev RUN (G : zab) (l : List Int) (K : KV) (E : KE) (σ : Hp) : Prop := evX G gc1 (f17 l) [] (.fstr [.sub (.v 0) (.c (.int 0)), .c (.str cDots), .sub (.v 0) (.neg (.c (.int 1)))]) σ K E
theorem zgB {i : Int} (h : In 24 i) : txt (.pd (.int i)) = some (iStr i) := if_pos (h.log (by decide))
theorem run_eq {l : List Int} : RUN G l K E σ = need (zai σ (.pd (zam l)) (.pd (.int 0))) fun a => need (txt a) fun y => whenL (y.length <= sizeLine /\ (Str.empty ++ y).length <= sizeLine) (whenL (cDots.length <= sizeLine /\ (Str.empty ++ y ++ cDots).length <= sizeLine) (need (zai σ (.pd (zam l)) (.pd (.int (-1)))) fun z => need (txt z) fun w =>
  whenL (w.length <= sizeLine /\ (Str.empty ++ y ++ cDots ++ w).length <= sizeLine) (whenL ((Str.empty ++ y ++ cDots ++ w).length <= sizeLine) (K (.pd (.str (Str.empty ++ y ++ cDots ++ w))) σ)))) := by kernel_rfl
theorem zk7 {a z : Int} (ha : In 24 a) (hz : In 24 z) : (Str.empty ++ iStr a ++ cDots ++ iStr z).length <= 40 := by
 rw [zfg, zaC, zaC]
 exact Nat.add_le_add (Nat.add_le_add_right (zay ha) 2) (zay hz)
theorem pre {x y : Str} {n : Nat} (h : (x ++ y).length <= n) : x.length <= n /\ y.length <= n := by
 rw [zaC] at h
 exact ⟨Nat.le_trans (Nat.le_add_right _ _) h, Nat.le_trans (Nat.le_add_left _ _) h⟩
theorem zk6 {l : List Int} {a z : Int} (T : Two σ l a z) (ha : In 24 a) (hz : In 24 z) (k : K (.pd (.str (runT a z))) σ) : RUN G l K E σ := by
 have h := zan (zk7 ha hz) (by decide)
 have h1 := (pre h).1
 have h2 := (pre h1).1
 exact run_eq.mpr (zaa T.fst (zaa (zgB ha) (zbh ⟨(pre h2).2, h2⟩ (zbh ⟨(pre h1).2, h1⟩ (zaa T.lst (zaa (zgB hz) (zbh ⟨(pre h).2, h⟩ (zbh h (by rw [zfg]; exact k)))))))))
theorem zg3 {l : List Int} (h : zgt l = none) : shT l = setT l := by unfold shT; rw [h]
theorem zg2 {l : List Int} {a z : Int} (h : zgt l = some (a, z)) : shT l = match decide (z - a = (l.length : Int) - 1) with | true => runT a z | false => setT l := by unfold shT; rw [h] <;> rfl
theorem gt1f {l : List Int} (h : l.length <= 1) : decide (((l.map PyData.int).length : Int) > 1) = false := decide_eq_false (by rw [List.length_map]; exact Int.not_lt.mpr (Int.ofNat_le.mpr h))
theorem gt1t {l : List Int} (h : 1 < l.length) : decide (((l.map PyData.int).length : Int) > 1) = true := decide_eq_true (by rw [List.length_map]; exact Int.ofNat_lt.mpr h)
theorem shapes {P : Prop} {l : List Int} (p : l.Pairwise (· < ·)) (hl : l.length <= 8) (few : l.length <= 1 -> zgt l = none -> P) (two : ∀ a z, Two σ l a z -> 1 < l.length -> P) : P := by
 cases l with
 | nil => exact few (Nat.zero_le _) rfl
 | cons a r =>
  cases e : r.getLast? with
  | none =>
   have : r = [] := List.getLast?_eq_none_iff.mp e
   subst this
   exact few (Nat.le_refl _) rfl
  | some z =>
   refine two a z (zmh e p hl) ?_
   cases r with
   | nil => cases e
   | cons x y => exact Nat.succ_lt_succ (Nat.succ_pos _)
theorem seg17 {l : List Int} : evSs G gc1 (fn17.body.drop 4) (f17 l) σ (retK K) E = when ((l.map PyData.int).length <= sizeLine) (brn (decide (((l.map PyData.int).length : Int) > 1)) (need (zai σ (.pd (zam l)) (.pd (.int (-1)))) fun z => need (zai σ (.pd (zam l)) (.pd (.int 0))) fun a => need (evOp .sub z a σ) fun d => when ((l.map PyData.int).length <= sizeLine) (need (evOp .eq (.pd d) (.pd (.int (((l.map PyData.int).length : Int) - 1))) σ) fun d => truth (.pd d) fun t => brn t (RUN G l K E σ) (SETP (l.map .int) K σ)))
  (brn (decide (((l.map PyData.int).length : Int) > 1)) (RUN G l K E σ) (SETP (l.map .int) K σ))) := by kernel_rfl
theorem zkT {l : List Int} {D : zab} (W : Up F G) (X : Up G H) (fl : Fine 24 (.set l)) (k : K (.pd (.str (shT l))) σ) : H 17 [pv (zam l)] σ K E := by
 refine X 16 _ _ _ _ (Eq.mpr (by kernel_rfl : _ = G 6 [pv (zam l)] σ (fun w σ => truth w fun t => brn t (evSs G gc1 (thn' fn17.body[3]? 0) (f17 l) σ (fun f m' σ' => match f with
  | .next => evSs G gc1 (fn17.body.drop 4) m' σ' (retK K) E
  | f => retK K f m' σ') E) (evSs G gc1 (fn17.body.drop 4) (f17 l) σ (retK K) E)) E) (zkb W fl (zaa rfl (zaO rfl (seg17.mpr ?_)))))
 cases fl with
 | set p hi hl =>
  have hz : (l.map PyData.int).length <= sizeLine := zan (by rw [List.length_map]; exact hl) (by decide)
  have e1 : ((l.map PyData.int).length : Int) = (l.length : Int) := by rw [List.length_map]
  refine zac hz (shapes (σ := σ) p hl (fun h0 h1 => ?_) fun a z T h0 => ?_)
  ·exact zaO (gt1f h0) (zaO (gt1f h0) (zdz hi hl (zg3 h1 ▸ k)))
  ·rw [zg2 T.ends] at k
   refine zcs (gt1t h0) (zaa T.lst (zaa T.fst (zaa (a := .int (z - a)) rfl (zac hz (zaa (a := .bool (decide (z - a = ((l.map PyData.int).length : Int) - 1))) rfl (zaa (a := decide (z - a = ((l.map PyData.int).length : Int) - 1)) rfl ?_))))))
   rw [e1]
   cases q : decide (z - a = (l.length : Int) - 1) with
   | true => rw [q] at k; exact zk6 T (hi a T.ma) (hi z T.mz) k
   | false => rw [q] at k; exact zdz hi hl k
noncomputable abbrev zjW (l : List Int) (K : KV) (σ : Hp) : Prop := need (zai σ (.pd (zam l)) (.pd (.int 0))) fun a => zao .str [a] σ fun x σ => need (evOp .add x (.pd (.str cDots)) σ) fun d => need (zai σ (.pd (zam l)) (.pd (.int (-1)))) fun z => zao .str [z] σ fun y σ => need (evOp .add (.pd d) y σ) fun d => K (.pd d) σ
theorem seg25 {l : List Int} : stp G 25 [pv (zam l)] σ K E = when ((l.map PyData.int).length <= sizeLine) (brn (decide (((l.map PyData.int).length : Int) > 1)) (when ((l.map PyData.int).length <= sizeLine) (need (zai σ (.pd (zam l)) (.pd (.int 0))) fun a => need (zai σ (.pd (zam l)) (.pd (.int (-1)))) fun z => need (evOp .add z (.pd (.int 1)) σ) fun w => zao .range [a, .pd w] σ fun v σ => zao .list [v] σ fun v σ => need (evOp .eq (.pd (.list (l.map .int))) v σ) fun d => truth (.pd d) fun t => brn t (zjW l K σ) (SETP (l.map .int) K σ)))
  (brn (decide (((l.map PyData.int).length : Int) > 1)) (zjW l K σ) (SETP (l.map .int) K σ))) := by kernel_rfl
theorem zjm {a z : Int} (ha : In 24 a) (hz : In 24 z) (k : K (.pd (.list ((rI a z).map .int))) σ) : zao .list [.rng a (z + 1)] σ K := by
 rw [zla] at k
 exact zac (znq ha.1 hz.1 ha.2 hz.2) k
theorem zok {l : List Int} {a z : Int} (T : Two σ l a z) (ha : In 24 a) (hz : In 24 z) (k : K (.pd (.str (runT a z))) σ) : zjW l K σ := by
 have h1 := Nat.le_trans (zay ha) (by decide : 19 <= 100)
 have h2 := Nat.le_trans (zay hz) (by decide : 19 <= 100)
 exact zaa T.fst (strK ha (zaa (zbG (zan (Nat.add_le_add_right h1 2) (by decide))) (zaa T.lst (strK hz (zaa (zbG (zan (m := 202) (Nat.add_le_add (by rw [zaC]; exact Nat.add_le_add_right h1 2) h2) (by decide))) k)))))
theorem zg0 {l : List Int} (X : Up G H) (fl : Fine 24 (.set l)) (k : K (.pd (.str (shT l))) σ) : H 25 [pv (zam l)] σ K E := by
 refine X 24 _ _ _ _ (seg25.mpr ?_)
 cases fl with
 | set p hi hl =>
  have hz : (l.map PyData.int).length <= sizeLine := zan (by rw [List.length_map]; exact hl) (by decide)
  have e1 : ((l.map PyData.int).length : Int) = (l.length : Int) := by rw [List.length_map]
  refine zac hz (shapes (σ := σ) p hl (fun h0 h1 => ?_) fun a z T h0 => ?_)
  ·exact zaO (gt1f h0) (zaO (gt1f h0) (zdz hi hl (zg3 h1 ▸ k)))
  ·rw [zg2 T.ends] at k
   refine zcs (gt1t h0) (zac hz (zaa T.fst (zaa T.lst (zaa (a := .int (z + 1)) rfl ?_))))
   show zao .list [.rng a (z + 1)] σ fun v σ => need (evOp .eq (.pd (.list (l.map .int))) v σ) fun d => truth (.pd d) fun t => brn t (zjW l K σ) (SETP (l.map .int) K σ)
   refine zjm (hi a T.ma) (hi z T.mz) ?_
   refine zaa (congrArg (Option.map PyData.bool) (zfU l (rI a z))) (zaa (a := decide (l = rI a z)) rfl ?_)
   rw [T.dec]
   cases q : decide (z - a = (l.length : Int) - 1) with
   | true => rw [q] at k; exact zok T (hi a T.ma) (hi z T.mz) k
   | false => rw [q] at k; exact zdz hi hl k
end
set_option backward.match.sparseCases false
section
variable {b j c : Nat} {K K' : KV} {E : KE} {σ τ A : Hp} {F G H : zab} {u v : Vl} {s i : Int} {r : Re Vl} {S : V} {ρ : Env}
noncomputable def b3 : List Mine.Lake.S := match fn3.body with
 | _ :: .for _ _ b :: _ => b
 | _ => []
noncomputable abbrev FL (G : zab) (K : KV) (E : KE) (l : List Int) (n : Nat) (its : List PyData) (a : Option Loc) (σ : Hp) : Prop := forN (fun d m' σ' k => need (tgFm m' (.n 2) d) fun m'' => evSs G gc1 b3 m'' σ' k E) (fun _ k => k) (fun f m' σ' => match f with
 | .next => evSs G gc1 (fn3.body.drop 2) m' σ' (retK K) E
 | f => retK K f m' σ') its [lp (zam l), some (.v (.ref n)), a, none, none, none] σ
theorem zko {l : List Int} {a : Option Loc} {q : List Pr} (hl : q.length <= 100) (h : K (.pd (.tuple (psD q))) (A ++ [.list (psD q)])) : FL G K E l A.length [] a (A ++ [O.list (psD q)]) :=
 Eq.mpr (by kernel_rfl : _ = need (seqT (A ++ [O.list (psD q)]) (.ref A.length)) fun l => when (l.length <= sizeLine) (K (.pd (.tuple l)) (A ++ [O.list (psD q)]))) (zaa (zba gP) (zac (zan (by rw [List.length_map]; exact hl) (by decide)) h))
theorem zfc {l : List Int} (X : Up G H) : ∀ (r : List Int) (qs : List Pr) (p : Pr) (a : Option Loc), (∀ x ∈ r, p.2 < x) -> r.Pairwise (· < ·) -> qs.length + r.length <= 90 -> K (.pd (.tuple (psD (qs ++ runs p r)))) (A ++ [.list (psD (qs ++ runs p r))]) -> FL H K E l A.length (r.map .int) a (A ++ [O.list (psD (qs ++ [p]))])
 | [], qs, p, a, _, _, hl, h => zko (by rw [List.length_append]; exact Nat.le_trans (Nat.succ_le_succ hl) (by decide)) h
 | i :: r, qs, p, a, h1, h2, hl, h => by
  obtain ⟨hi, hr⟩ := List.forall_mem_cons.mp h1
  obtain ⟨h3, h4⟩ := List.pairwise_cons.mp h2
  rw [List.length_cons] at hl
  refine Eq.mpr (by kernel_rfl : _ = H 2 [.v (.ref A.length), iv i, iv i] (A ++ [O.list (psD (qs ++ [p]))]) (fun _ σ => FL H K E l A.length (r.map .int) (lp (.int i)) σ) E) (put1 X hi (by rw [za7]; exact Nat.le_trans (Nat.succ_le_succ (Nat.succ_le_succ (Nat.le_trans (Nat.le_add_right _ _) hl))) (by decide)) ?_)
  have e : runs p (i :: r) = if i <= p.2 + 1 then runs (p.1, i) r else p :: runs (i, i) r := rfl
  rw [e] at h
  by_cases q : i <= p.2 + 1
  ·rw [if_pos q] at h ⊢
   exact zfc X r qs (p.1, i) _ h3 h4 (Nat.le_of_succ_le hl) h
  ·rw [if_neg q] at h ⊢
   exact zfc X r (qs ++ [p]) (i, i) _ h3 h4 (acc1 hl) (by rw [List.append_assoc]; exact h)
theorem zgS {l : List Int} (hl : l.length <= 8) : ziK σ (.pd (zam l)) = some l := by
 refine (congrArg (fun o : Option (List PyData) => Option.bind o zbb) (gd_i (x := l.map PyData.int) (show (l.map PyData.int).length < 64 by rw [List.length_map]; exact Nat.lt_of_le_of_lt hl (by decide)))).trans (zaP l)
theorem zgT {l : List Int} (p : l.Pairwise (· < ·)) : za1 l = l := (zfs (.refl l) (p.imp Int.le_of_lt)).symm
theorem zlN {l : List Int} (X : Up F G) (Y : Up G H) (fl : Fine b (.set l)) (h : ∀ τ, K (.pd (.tuple (psD (zk5 l)))) (σ ++ τ)) : H 3 [pv (zam l)] σ K E := by
 cases fl with
 | set p _ hl =>
  refine Y 2 _ _ _ _ (Eq.mpr (by kernel_rfl : _ = need (ziK (σ ++ [O.list []]) (.pd (zam l))) fun l' => FL G K E l σ.length ((za1 l').map .int) none (σ ++ [O.list []])) (zaa (zgS hl) ?_))
  rw [zgT p]
  cases l with
  | nil => exact zko (q := []) (Nat.zero_le _) (h _)
  | cons i r =>
   obtain ⟨h3, h4⟩ := List.pairwise_cons.mp p
   exact Eq.mpr (by kernel_rfl : _ = G 2 [.v (.ref σ.length), iv i, iv i] (σ ++ [O.list []]) (fun _ σ' => FL G K E (i :: r) σ.length (r.map .int) (lp (.int i)) σ') E) (put0 X (zfc X r [] (i, i) _ h3 h4 (by rw [List.length_nil, Nat.zero_add]; exact Nat.le_trans (Nat.le_of_succ_le hl) (by decide)) (h _)))
end
noncomputable def lotR (s : Int) (u : Vl) : Re (List Int) := match u with
 | .set l => .ok l
 | _ => .bad wSet s
noncomputable abbrev bdR (s : Int) (f : Env -> Re Vl) (ρ : Env) : Re (List Int) := (f ρ).bind (lotR s)
noncomputable def OutB (r : Re (List Int)) (K : KV) (E : KE) (σ : Hp) : Prop := match r with
 | .ok l => ∀ ps τ, Hs ps l -> K (.pd (.tuple (psD ps))) (σ ++ τ)
 | .bad t s => ∀ τ, E ⟨false, t, .int s⟩ (σ ++ τ)
def DmOk (j c : Nat) (d : PyData) (g : Env -> Re (List Int)) : Prop := ∀ {G}, Lv j G -> ∀ {S σ ρ b K E}, b + c <= 24 -> FineE b ρ -> Sc σ S ρ -> OutB (g ρ) K E σ -> G 37 [.v (.evr S), pv d] σ K E
structure GoodB (j c : Nat) (d : PyData) (s : Int) (f : Env -> Re Vl) : Prop where
 good : Good j c d f
 sp : Sp d s
 dm : DmOk (j + 4) c d (bdR s f)
def NoRng (d : PyData) : Prop := ∀ σ, ∃ o : Str, zai σ (.pd d) (.pd (.int 0)) = some (.pd (.str o)) /\ sb o ⟨#[114,97,110,103,101]⟩ = false
section
variable {b j c : Nat} {K K' : KV} {E : KE} {σ τ A : Hp} {F G H : zab} {u v : Vl} {s i lo hi : Int} {r : Re Vl} {S : V} {ρ : Env} {d : PyData} {f : Env -> Re Vl}
theorem zmV {g : Re (List Int)} (h : OutB g K E σ) : OutB g K E (σ ++ τ) := by
 cases g with
 | ok l => exact fun ps τ' q => by rw [List.append_assoc]; exact h ps _ q
 | bad t s => exact fun τ' => by rw [List.append_assoc]; exact h _
theorem zlL (g : Good j c d f) (hs : Sp d s) (n : NoRng d) : GoodB j c d s f := ⟨g, hs, fun {G} lv {S σ ρ b K E} hb fe sc h => by
 obtain ⟨H, l1, u1⟩ := lv.dn
 obtain ⟨F, l2, u2⟩ := l1.dn
 obtain ⟨D, l3, u3⟩ := l2.dn
 obtain ⟨B, l4, u4⟩ := l3.dn
 obtain ⟨o, e1, e2⟩ := n σ
 refine u1 36 _ _ _ _ (Eq.mpr (by kernel_rfl : _ = need (zai σ (.pd d) (.pd (.int 0))) fun z => need (evOp .eq z (.pd za9) σ) fun x => truth (.pd x) fun t => brn t (evSs H gc1 (thn' fn37.body[0]? 0) [some (se S), lp d, none, none, none, none, none, none] σ (fun f m' σ' => match f with
  | .next => evSs H gc1 (fn37.body.drop 1) m' σ' (retK K) E
  | f => retK K f m' σ') E) (H 32 [se S, pv d] σ (fun u σ => need (zai σ (.pd d) (.pd (.int 1))) fun w => H 11 [.v u, .v w] σ (fun l σ => H 3 [.v l] σ K E) E) E)) ?_)
 refine zaa e1 (zaa (a := .bool (sb o ⟨#[114,97,110,103,101]⟩)) rfl (zaa rfl (zaO e2 (g.ev (l1.le (Nat.le_add_right _ _)) hb fe sc fun τ => ?_))))
 have fin := g.fine hb fe
 have h : OutB ((f ρ).bind (lotR s)) K E (σ ++ τ) := zmV h
 cases e : f ρ with
 | bad t w => rw [e] at h; exact by have := h []; rwa [List.append_nil] at this
 | ok u =>
  rw [e] at h fin
  refine zaa (hs _) ?_
  cases u with
  | set l =>
   have sl : l.Pairwise (· < ·) := by cases fin with | set p _ _ => exact p
   exact zg4 u4 u3 u2 fin (zlN u3 u2 fin fun τ' => h _ _ (zk4 sl))
  | _ => exact zeZ (K := K) u4 u3 u2 fin rfl fun τ' => h _⟩
theorem znI (s : Int) {lo hi : Int} (w : Rg lo hi) : DmOk 5 0 (nRng s lo hi) (bdR s fun _ => .ok (.set (rI lo hi))) := fun {G} lv {S σ ρ b K E} hb fe sc h => by
 obtain ⟨H, l1, u1⟩ := lv.dn
 obtain ⟨F, l2, u2⟩ := l1.dn
 obtain ⟨D, l3, u3⟩ := l2.dn
 have h : ∀ ps, Hs ps (rI lo hi) -> K (.pd (.tuple (psD ps))) σ := fun ps q => by have := h ps [] q; rwa [List.append_nil] at this
 refine u1 36 _ _ _ _ (Eq.mpr (by kernel_rfl : _ = H 33 [se S, pv (.tuple [nLit s lo, nLit s hi])] σ (fun w σ => need (rd σ w) fun d => need (zct d) fun ds => need (asgN [2, 3] (ds.map .pd) [some (se S), lp (nRng s lo hi), none, none, none, none, none, none]) fun m => evSs H gc1 (thn' fn37.body[0]? 1) m σ (retK K) E) E) ?_)
 refine ends u2 (l2.le (by decide)) (Eq.mpr (by kernel_rfl : _ = H 8 [iv lo, iv s] σ (fun i σ => H 8 [iv hi, iv s] σ (fun j σ => H 1 [.v i, .v j] σ K E) E) E) (zdF u2 (zdF u2 (u2 0 _ _ _ _ (Eq.mpr (by kernel_rfl : _ = brn (decide (lo <= hi)) (K (.pd (.tuple [prD (lo, hi)])) σ) (K (.pd (.tuple [])) σ)) ?_)))))
 have q := zmE (lo := lo) (hi := hi)
 by_cases c : lo <= hi
 ·rw [if_pos c] at q; exact zcs (decide_eq_true c) (h _ q)
 ·rw [if_neg c] at q; exact zaO (decide_eq_false c) (h _ q)
noncomputable def shV : Vl -> Str
 | .num i => iStr i
 | .set l => shT l
 | _ => Str.empty
noncomputable def out (m : List Int) (l : List Int) : List Int := l.filter fun v => !(m.any (· == v))
noncomputable def chk (s : Int) (bd : Option (List Int)) (l : List Int) (v : Vl) : Re Vl := match bd with
 | none => .ok v
 | some m => (match decide (out m l = []) with
  | true => .ok v
  | false => .bad (shV v ++ wBnd) s)
noncomputable def zb9 (s : Int) (k : Kn) (bd : Option (List Int)) (u : Vl) : Re Vl := match k with
 | .bool => tru s u fun t => .ok (.tru t)
 | .str => txt' s u fun x => .ok (.txt x)
 | .int => cnt s u fun i => chk s bd [i] (.num i)
 | .set => lot s u fun l => chk s bd l (.set l)
inductive Bdd : Option (List Int) -> PyData -> Prop
 | no : Bdd none .none
 | yes {ps : List Pr} {m : List Int} : Hs ps m -> Bdd (some m) (.tuple (psD ps))
noncomputable abbrev TB (G : zab) (ps : List Pr) (E : KE) (d : PyData) (σ : Hp) (k : List PyData -> Hp -> Prop) : Prop := G 5 [pv (.tuple (psD ps)), pv d] σ (fun v σ => truth v fun t => brn (!t) (k [d] σ) (k [] σ)) E
theorem outs {ps : List Pr} {m : List Int} {KK : List PyData -> Hp -> Prop} (X : Up F G) (Y : Up G H) (hs : Hs ps m) : ∀ (l : List Int) (acc : List PyData), acc.length + l.length <= sizeLine -> KK (acc ++ (out m l).map .int) σ -> zat (TB H ps E) (fun _ k => k) KK (l.map .int) acc σ
 | [], acc, _, h => by rwa [show out m [] = [] from rfl, List.map_nil, List.append_nil] at h
 | i :: r, acc, hl, h => by
  refine zac (Nat.le_trans (Nat.le_add_right _ _) hl) (zjp X Y (zaa rfl ?_))
  have e : out m (i :: r) = if (!(m.any (· == i))) = true then i :: out m r else out m r := by
   unfold out; rw [List.filter_cons]
  rw [e] at h
  rw [hs i]
  cases q : m.any (· == i) with
  | true => rw [q] at h; exact outs X Y hs r _ (by rw [List.append_nil]; exact Nat.le_trans (Nat.add_le_add_left (Nat.le_succ _) _) hl) (by rw [List.append_nil]; exact h)
  | false => rw [q] at h; exact outs X Y hs r _ (acc1 hl) (by rw [app1]; exact h)
theorem zhx (q : List Int) : evOp .ne (.pd (.list (q.map .int))) (.pd (.list [])) σ = some (.bool (!decide (q = []))) := congrArg (Option.map fun r => PyData.bool (!r)) (zfU q [])
end
set_option backward.match.sparseCases true
section
variable {b j c : Nat} {K K' : KV} {E : KE} {σ τ A : Hp} {C D F G H : zab} {u v : Vl} {s i lo hi : Int} {r : Re Vl} {S : V} {ρ : Env} {d B : PyData} {f : Env -> Re Vl} {bd : Option (List Int)}
inductive Nu : Kn -> Vl -> List Int -> Prop
 | num {i : Int} : In 24 i -> Nu .int (.num i) [i]
 | set {l : List Int} : Fine 24 (.set l) -> Nu .set (.set l) l
variable {k : Kn} {l : List Int}
theorem Nu.len (n : Nu k v l) : l.length <= 8 := by
 cases n with
 | num => exact Nat.le_of_ble_eq_true rfl
 | set h => cases h with | set _ _ z => exact z
theorem sh17 (n : Nu k v l) (W : Up F G) (X : Up G H) (h : K (.pd (.str (shV v))) σ) : H 17 [pv v.d] σ K E := by
 cases n with
 | num hi => exact (zg1 X hi h).1
 | set fl => exact zkT (D := F) W X fl h
theorem sh25 (n : Nu k v l) (X : Up G H) (h : K (.pd (.str (shV v))) σ) : H 25 [pv v.d] σ K E := by
 cases n with
 | num hi => exact (zg1 X hi h).2
 | set fl => exact zg0 X fl h
theorem zkU (n : Nu k v l) : (shV v).length <= 170 := by
 cases n with
 | num hi => exact Nat.le_trans (zay hi) (by decide)
 | set fl => cases fl with | set _ h z => exact zkV h z
theorem zms (n : Nu k v l) : PyData.strOk (shV v) = true := by
 cases n with
 | num hi => exact zbx _
 | set fl => exact zmt _
theorem zfk (n : Nu k v l) : (shV v ++ wBnd).length <= 200 := by
 rw [zaC]; exact Nat.le_trans (Nat.add_le_add_right (zkU n) _) (Nat.le_of_ble_eq_true rfl)
noncomputable abbrev SAY (G : zab) (v : Vl) (s : Int) (E : KE) (σ : Hp) : Prop := G 17 [pv v.d] σ (fun x σ => need (txt x) fun y => whenL (y.length <= sizeLine /\ (Str.empty ++ y).length <= sizeLine) (whenL (wBnd.length <= sizeLine /\ (Str.empty ++ y ++ wBnd).length <= sizeLine) (whenL ((Str.empty ++ y ++ wBnd).length <= sizeLine) (E ⟨false, Str.empty ++ y ++ wBnd, .int s⟩ σ)))) E
theorem say (n : Nu k v l) (W : Up F G) (X : Up G H) (h : E ⟨false, shV v ++ wBnd, .int s⟩ σ) : SAY H v s E σ := sh17 n W X (by
 have z := zan (zfk n) (by decide)
 refine zaa (a := shV v) rfl ?_
 rw [zfg]
 exact zbh ⟨(pre z).1, (pre z).1⟩ (zbh ⟨(pre z).2, z⟩ (zbh z h)))
noncomputable abbrev f18 (k : Kn) (B : PyData) (u v : Vl) (s : Int) : Fm := [lp (.str k.w), lp B, lp u.d, lp (.int s), lp v.d, none, none, none, none, none, none]
noncomputable abbrev F18 (G : zab) (v : Vl) (s : Int) (K : KV) (E : KE) (ds : List PyData) (σ : Hp) : Prop := when (ds.length <= sizeLine) (need (evOp .ne (.pd (.list ds)) (.pd (.list [])) σ) fun d => truth (.pd d) fun t => brn t (SAY G v s E σ) (K (.pd v.d) σ))
theorem c18 (n : Nu k v l) (W : Up D F) (X : Up F G) (hB : Bdd bd B) (h : OutA (chk s bd l v) K E σ) : evSs G gc1 (fn18.body.drop 3) (f18 k B u v s) σ (retK K) E := by
 cases hB with
 | no => cases n <;> exact OutA.here (r := .ok _) h
 | @yes ps m hs =>
  have go : zat (TB G ps E) (fun _ k => k) (F18 G v s K E) (l.map .int) [] σ := by
   refine outs W X hs l [] (zan (by rw [List.length_nil, Nat.zero_add]; exact n.len) (by decide)) (zac (zan (by rw [List.nil_append, List.length_map]; exact Nat.le_trans (List.length_filter_le _ _) n.len) (by decide)) (zaa (zhx _) (zaa (a := !decide (out m l = [])) rfl ?_)))
   have h : OutA (match decide (out m l = []) with | true => .ok v | false => .bad (shV v ++ wBnd) s) K E σ := h
   cases q : decide (out m l = []) with
   | true => rw [q] at h; exact OutA.here h
   | false => rw [q] at h; exact say n W X (OutA.here (r := .bad _ s) h)
  cases n with
  | num hi => exact Eq.mpr (by kernel_rfl) go
  | set fl => exact Eq.mpr (by kernel_rfl) go
theorem zhV (U : Up C D) (W : Up D F) (X : Up F G) (Y : Up G H) (hB : Bdd bd B) (fu : Fine 24 u) (h : OutA (zb9 s k bd u) K E σ) : H 18 [pv (.str k.w), pv B, pv u.d, iv s] σ K E := Y 17 _ _ _ _ (by
 cases k with
 | bool => exact Eq.mpr (by kernel_rfl : _ = G 9 [pv u.d, iv s] σ K E) (ziF X h fun t h => OutA.here h)
 | str => exact Eq.mpr (by kernel_rfl : _ = G 10 [pv u.d, iv s] σ K E) (ziD X h fun t h => OutA.here h)
 | int =>
  have h : OutA (cnt s u fun i => chk s bd [i] (.num i)) K E σ := h
  have fin : ∀ i, In 24 i -> OutA (chk s bd [i] (.num i)) K E σ -> evSs G gc1 (fn18.body.drop 3) (f18 .int B u (.num i) s) σ (retK K) E := fun i hi h => c18 (.num hi) W X hB h
  have h2 : G 8 [pv u.d, iv s] σ (fun v σ => evSs G gc1 (fn18.body.drop 3) [lp (.str Kn.int.w), lp B, lp u.d, lp (.int s), some (.v v), none, none, none, none, none, none] σ (retK K) E) E := zcu X (by decide) fu h fin
  exact Eq.mpr (by kernel_rfl) h2
 | set =>
  have h : OutA (lot s u fun l => chk s bd l (.set l)) K E σ := h
  have fin : ∀ l, Fine 24 (.set l) -> OutA (chk s bd l (.set l)) K E σ -> evSs G gc1 (fn18.body.drop 3) (f18 .set B u (.set l) s) σ (retK K) E := fun l fl h => c18 (.set fl) W X hB h
  have h2 : G 11 [pv u.d, iv s] σ (fun v σ => evSs G gc1 (fn18.body.drop 3) [lp (.str Kn.set.w), lp B, lp u.d, lp (.int s), some (.v v), none, none, none, none, none, none] σ (retK K) E) E := ziS U W X fu h fin
  exact Eq.mpr (by kernel_rfl) h2)
noncomputable abbrev tyD (k : Kn) (d : PyData) : PyData := .tuple [.str k.w, .bool false, .tuple [], d]
noncomputable def bndR (bo : Option (Re (List Int))) (q : Option (List Int) -> Re Vl) : Re Vl := match bo with
 | none => q none
 | some g => g.bind fun m => q (some m)
inductive BoOk (j c : Nat) : PyData -> (Env -> Option (Re (List Int))) -> Prop
 | no : BoOk j c .none fun _ => none
 | yes {d : PyData} {s : Int} {f : Env -> Re Vl} : s.natAbs <= 20000 -> GoodB j c d s f -> BoOk j c d fun ρ => some (bdR s f ρ)
theorem ft38 {bo : Env -> Option (Re (List Int))} (lv : Lv (j + 6) G) (hb : b + c <= 24) (fe : FineE b ρ) (sc : Sc σ S ρ) (ob : BoOk j c d bo) (fu : Fine 24 u) (h : OutA (bndR (bo ρ) fun bd => zb9 s k bd u) K E σ) : G 38 [se S, pv (tyD k d), pv u.d, iv s] σ K E := by
 obtain ⟨H, l1, u1⟩ := lv.dn
 obtain ⟨F, l2, u2⟩ := l1.dn
 obtain ⟨D, l3, u3⟩ := l2.dn
 obtain ⟨C, l4, u4⟩ := l3.dn
 obtain ⟨B, l5, u5⟩ := l4.dn
 refine u1 37 _ _ _ _ ?_
 cases ob with
 | no => exact Eq.mpr (by kernel_rfl : _ = H 18 [pv (.str k.w), pv .none, pv u.d, iv s] σ K E) (zhV u5 u4 u3 u2 .no fu h)
 | @yes _ w f hw g =>
  refine Eq.mpr (by kernel_rfl : _ = brn (isN d) (H 18 [pv (.str k.w), pv .none, pv u.d, iv s] σ K E) (H 37 [se S, pv d] σ (fun w σ => H 18 [pv (.str k.w), .v w, pv u.d, iv s] σ K E) E)) (zaO g.good.nn (g.dm (l1.le (Nat.le_succ _)) hb fe sc ?_))
  have h : OutA ((bdR w f ρ).bind fun m => zb9 s k (some m) u) K E σ := h
  cases e : bdR w f ρ with
  | ok l => rw [e] at h; exact fun ps τ q => zhV u5 u4 u3 u2 (.yes q) fu (OutA.ext h)
  | bad t w => rw [e] at h; exact fun τ => h τ
end
set_option backward.match.sparseCases false
noncomputable def zcd (s : Int) (k : Kn) (bo : Env -> Option (Re (List Int))) (f : Env -> Re Vl) (ρ : Env) : Re Vl := (f ρ).bind fun u => bndR (bo ρ) fun bd => zb9 s k bd u
noncomputable def zjo (s : Int) (t : Bool) : Re Vl := match t with
 | true => .ok (.tru true)
 | false => .bad wCon s
noncomputable def conR (s : Int) (f : Env -> Re Vl) (ρ : Env) : Re Vl := (f ρ).bind fun u => tru s u (zjo s)
set_option genCtorIdx false in
inductive It where
 | con (s : Int) (d : PyData) (f : Env -> Re Vl)
 | none (s : Int) (k : Kn) (bd : PyData) (n : N3)
 | decl (s : Int) (k : Kn) (bd : PyData) (bo : Env -> Option (Re (List Int))) (n : N3) (d : PyData) (f : Env -> Re Vl)
noncomputable def It.ctorIdx (x : It) : Nat := It.casesOn x (fun _ _ _ => 0) (fun _ _ _ _ => 1) (fun _ _ _ _ _ _ _ => 2)
noncomputable abbrev N3.str (n : N3) : Str := n.nam.str
noncomputable def It.d : It -> PyData
 | .con s d _ => .tuple [tCon, .int s, d]
 | .none s k bd n => .tuple [zeW, .int s, tyD k bd, .str n.str, .none]
 | .decl s k bd _ n d _ => .tuple [zeW, .int s, tyD k bd, .str n.str, d]
noncomputable def It.run (ρ : Env) : It -> Re Env
 | .con s _ f => (conR s f ρ).bind fun _ => .ok ρ
 | .none s _ _ n => .bad (n.str ++ zcg) s
 | .decl s k _ bo n _ f => (zcd s k bo f ρ).bind fun u => .ok (ρ.put n u)
noncomputable def itsR : List It -> Env -> Re Env
 | [], ρ => .ok ρ
 | i :: r, ρ => (i.run ρ).bind (itsR r)
noncomputable def letR (its : List It) (f : Env -> Re Vl) (ρ : Env) : Re Vl := (itsR its ρ).bind f
inductive GoodI (j c : Nat) : It -> Prop
 | con {s : Int} {d : PyData} {f : Env -> Re Vl} : s.natAbs <= 20000 -> Good j c d f -> GoodI j c (.con s d f)
 | none {s : Int} {k : Kn} {bd : PyData} {n : N3} : s.natAbs <= 20000 -> GoodI j c (.none s k bd n)
 | decl {s : Int} {k : Kn} {bd d : PyData} {bo : Env -> Option (Re (List Int))} {n : N3} {f : Env -> Re Vl} : s.natAbs <= 20000 -> BoOk j c bd bo -> Good j c d f -> (k = .int \/ k = .set \/ bd = .none) -> GoodI j c (.decl s k bd bo n d f)
noncomputable abbrev nLet (s : Int) (its : List It) (d : PyData) : PyData := .tuple [tLet, .int s, .tuple (its.map It.d), d]
section
variable {b j c : Nat} {K K' : KV} {E : KE} {σ τ A B : Hp} {C D F G H : zab} {u v : Vl} {s i lo hi : Int} {r : Re Vl} {S : V} {ρ : Env} {d nd : PyData} {f : Env -> Re Vl} {k : Kn} {KN : KS}
theorem znO {α β γ : Type} {r : Re α} {f : α -> Re β} {g : β -> Re γ} : (r.bind f).bind g = r.bind fun a => (f a).bind g := by cases r <;> rfl
theorem Fine.mono {b c : Nat} (h : Fine b u) (q : b <= c) : Fine c u := by
 cases h with
 | num h => exact .num (h.le q)
 | tru t => exact .tru t
 | txt a z => exact .txt a z
 | set p a z => exact .set p (fun i hi => (a i hi).le q) z
theorem FineR.mono {b c : Nat} {r : Re Vl} (h : FineR b r) (q : b <= c) : FineR c r := by
 cases r with
 | ok v => exact Fine.mono h q
 | bad t s => exact h
theorem FineE.mono {b c : Nat} (h : FineE b ρ) (q : b <= c) : FineE c ρ := ⟨Nat.le_trans h.h3 q, h.fa.mono q, h.fb.mono q, h.fc.mono q⟩
theorem FineE.put (h : FineE b ρ) (n : N3) (fu : Fine b u) : FineE b (ρ.put n u) := by
 cases n with
 | a => exact ⟨h.h3, fu, h.fb, h.fc⟩
 | b => exact ⟨h.h3, h.fa, fu, h.fc⟩
 | c => exact ⟨h.h3, h.fa, h.fb, fu⟩
theorem zcV {α : Type} {b : Nat} {r : Re Vl} {f : Vl -> Re Vl} (h : FineR b r) (q : ∀ u, Fine b u -> FineR b (f u)) : FineR b (r.bind f) := by
 cases r with
 | ok v => exact q v h
 | bad t s => exact h
theorem zfQ {f : Int -> Re Vl} (hs : s.natAbs <= 20000) {b' : Nat} (h1 : 1 <= b) (fu : Fine b u) (q : ∀ i, In b i -> FineR b' (f i)) : FineR b' (cnt s u f) := by
 cases fu with
 | num h => exact q _ h
 | tru t => exact q _ (in_b h1 t)
 | _ => exact ⟨by decide +kernel, Nat.le_of_ble_eq_true rfl, hs⟩
theorem zkp {f : Bool -> Re Vl} (hs : s.natAbs <= 20000) (q : ∀ i, FineR b (f i)) : FineR b (tru s u f) := by
 cases u with
 | tru t => exact q t
 | _ => exact ⟨by decide +kernel, Nat.le_of_ble_eq_true rfl, hs⟩
theorem znm {f : List Int -> Re Vl} (hs : s.natAbs <= 20000) (fu : Fine b u) (q : ∀ l, Fine b (.set l) -> FineR b (f l)) : FineR b (lot s u f) := by
 have fu' := fu
 cases fu with
 | set => exact q _ fu'
 | _ => exact ⟨by decide +kernel, Nat.le_of_ble_eq_true rfl, hs⟩
theorem znl (hs : s.natAbs <= 20000) (fu : Fine b u) : FineR b (txt' s u fun x => .ok (.txt x)) := by
 cases fu with
 | txt a z => exact Fine.txt a z
 | _ => exact ⟨by decide +kernel, Nat.le_of_ble_eq_true rfl, hs⟩
theorem zkq {bd : Option (List Int)} {l : List Int} (hs : s.natAbs <= 20000) (n : Nu k v l) (fv : Fine b v) : FineR b (chk s bd l v) := by
 cases bd with
 | none => exact fv
 | some m =>
  show FineR b (match decide (out m l = []) with | true => .ok v | false => .bad (shV v ++ wBnd) s)
  cases decide (out m l = []) with
  | true => exact fv
  | false => exact ⟨zaI (zms n) (by decide +kernel), zfk n, hs⟩
theorem zlO {bd : Option (List Int)} (hs : s.natAbs <= 20000) (h1 : 1 <= b) (hb : b <= 24) (fu : Fine b u) : FineR b (zb9 s k bd u) := by
 cases k with
 | bool => exact zkp hs fun t => Fine.tru t
 | str => exact znl hs fu
 | int => exact zfQ hs h1 fu fun i hi => zkq hs (.num (hi.le hb)) (.num hi)
 | set => exact znm hs fu fun l fl => zkq hs (.set (fl.mono hb)) fl
theorem znn {bo : Option (Re (List Int))} {q : Option (List Int) -> Re Vl} (ho : ∀ t w, bo = some (.bad t w) -> FineR b (.bad t w)) (hq : ∀ m, FineR b (q m)) : FineR b (bndR bo q) := by
 cases bo with
 | none => exact hq _
 | some g =>
  cases g with
  | ok m => exact hq _
  | bad t w => exact ho t w rfl
theorem znN {bo : Env -> Option (Re (List Int))} (h : BoOk j c d bo) (hb : b + c <= 24) (fe : FineE b ρ) : ∀ t w, bo ρ = some (.bad t w) -> FineR (b + c) (.bad t w) := by
 cases h with
 | no => exact fun t w e => nomatch e
 | @yes _ s f hs g =>
  intro t w e
  have e : bdR s f ρ = .bad t w := Option.some.inj e
  have fin := g.good.fine hb fe
  unfold bdR at e
  cases q : f ρ with
  | bad t' w' => rw [q] at e fin; cases e; exact fin
  | ok u =>
   rw [q] at e
   cases u <;> cases e <;> exact ⟨by decide +kernel, Nat.le_of_ble_eq_true rfl, hs⟩
theorem zdP {bo : Env -> Option (Re (List Int))} {bd : PyData} (hs : s.natAbs <= 20000) (hb : b + c <= 24) (fe : FineE b ρ) (h : BoOk j c bd bo) (g : Good j c d f) : FineR (b + c) (zcd s k bo f ρ) :=
 zcV (α := Unit) (g.fine hb fe) fun u fu => znn (znN h hb fe) fun m => zlO hs fe.h1 hb fu
theorem ze9 {i : It} (g : GoodI j c i) (hb : b + c <= 24) (fe : FineE b ρ) {ρ' : Env} (e : i.run ρ = .ok ρ') : FineE (b + c) ρ' := by
 cases g with
 | @con s d f hs g =>
  have e : (conR s f ρ).bind (fun _ => .ok ρ) = .ok ρ' := e
  cases q : conR s f ρ with
  | ok v => rw [q] at e; cases e; exact fe.mono (Nat.le_add_right _ _)
  | bad => rw [q] at e; cases e
 | none => cases e
 | @decl s k bd d bo n f hs ob g _ =>
  have e : (zcd s k bo f ρ).bind (fun u => .ok (ρ.put n u)) = .ok ρ' := e
  have fin := zdP (k := k) hs hb fe ob g
  cases q : zcd s k bo f ρ with
  | ok v => rw [q] at e fin; cases e; exact (fe.mono (Nat.le_add_right _ _)).put n fin
  | bad => rw [q] at e; cases e
end
section
variable {b j c : Nat} {K K' : KV} {E : KE} {σ τ A B : Hp} {C D F G H : zab} {u v : Vl} {s i lo hi : Int} {r : Re Vl} {S : V} {ρ : Env} {d bd nd : PyData} {f : Env -> Re Vl} {k : Kn}
noncomputable def b36 : List Mine.Lake.S := match fn36.body with
 | _ :: .for _ _ b :: _ => b
 | _ => []
noncomputable abbrev fr36 (S : V) (nd : PyData) (n : Nat) (it : Option Loc) : Fm := [some (se S), lp nd, some (.v (.evr (.ref n))), it, none, none, none, none]
noncomputable abbrev FW (G : zab) (S : V) (nd : PyData) (n : Nat) (K : KV) (E : KE) (its : List PyData) (it : Option Loc) (σ : Hp) : Prop := forN (fun d m' σ' k => need (tgFm m' (.n 3) d) fun m'' => evSs G gc1 b36 m'' σ' k E) (fun _ k => k) (fun f m' σ' => match f with
 | .next => evSs G gc1 (fn36.body.drop 2) m' σ' (retK K) E
 | f => retK K f m' σ') its (fr36 S nd n it) σ
theorem ext1 {o : O} : (A ++ o :: B) ++ τ = A ++ o :: (B ++ τ) := by rw [List.append_assoc]; rfl
theorem gP' {o : O} : (A ++ o :: B)[A.length]? = some o := by rw [List.getElem?_append_right (Nat.le_refl _), Nat.sub_self]; rfl
theorem zmu (n : N3) (v : Vl) : zdR (A ++ .dict (dc ρ) :: B) (.ref A.length) (.pd (.str n.str)) (.pd v.d) = some (A ++ .dict (dc (ρ.put n v)) :: B) := by
 have e : zdR (A ++ .dict (dc ρ) :: B) (.ref A.length) (.pd (.str n.str)) (.pd v.d) = some ((A ++ .dict (dc ρ) :: B).set A.length (.dict (setS n.str (.pd v.d) (dc ρ)))) := by
  refine (congrArg (fun o : Option (Nat × List (Str × V)) => alt (Option.bind o fun p => gd (p.2.length <= sizeLine) ((A ++ .dict (dc ρ) :: B).set p.1 (.dict (setS n.str (.pd v.d) p.2)))) none) (zdW gP')).trans ?_
  exact congrArg (fun o => alt o none) (gd_i (c := (dc ρ).length <= sizeLine) (Nat.le_of_ble_eq_true rfl))
 rw [e, setP]
 cases n <;> kernel_rfl
noncomputable abbrev tl36 (b c n : Nat) : Prop := b + (n + 1) * c <= 24
theorem zeV {n : Nat} (h : b + (n + 1 + 1) * c <= 24) : b + c <= 24 /\ b + c + (n + 1) * c <= 24 := by
 have e : b + (n + 1 + 1) * c = b + c + (n + 1) * c := by rw [Nat.succ_mul (n + 1) c, Nat.add_comm _ c, Nat.add_assoc]
 rw [e] at h
 exact ⟨Nat.le_trans (Nat.le_add_right _ _) h, h⟩
theorem wi_end {i0 : PyData} {it : Option Loc} : FW H S (.tuple [tLet, .int s, i0, bd]) A.length K E [] it σ = H 32 [se (.ref A.length), pv bd] σ K E := by kernel_rfl
theorem wi_con {i0 : PyData} {it : Option Loc} {rest : List PyData} : FW H S (.tuple [tLet, .int s, i0, bd]) A.length K E (.tuple [tCon, .int i, d] :: rest) it σ = H 32 [se (.ref A.length), pv d] σ (fun u σ => H 9 [.v u, iv i] σ (fun t σ => truth t fun q => brn (!q) (E ⟨false, wCon, .int i⟩ σ) (FW H S (.tuple [tLet, .int s, i0, bd]) A.length K E rest (lp (.tuple [tCon, .int i, d])) σ)) E) E := by kernel_rfl
theorem zku {i0 db : PyData} {it : Option Loc} {rest : List PyData} (n : N3) : FW H S (.tuple [tLet, .int s, i0, bd]) A.length K E (.tuple [zeW, .int i, tyD k db, .str n.str, .none] :: rest) it σ = E ⟨false, n.str ++ zcg, .int i⟩ σ := by cases n <;> kernel_rfl
theorem wi_decl {i0 db : PyData} {it : Option Loc} {rest : List PyData} {x : Str} : FW H S (.tuple [tLet, .int s, i0, bd]) A.length K E (.tuple [zeW, .int i, tyD k db, .str x, d] :: rest) it σ = brn (isN d) (evX H gc1 (fr36 S (.tuple [tLet, .int s, i0, bd]) A.length (lp (.tuple [zeW, .int i, tyD k db, .str x, d]))) [] (.fstr [.sub (.v 3) (.c (.int 3)), .c (.str zcg)]) σ (fun x σ => need (zes false [x, .pd (.int i)]) fun e => E e σ) E)
  (H 32 [se (.ref A.length), pv d] σ (fun u σ => H 38 [se (.ref A.length), pv (tyD k db), .v u, iv i] σ (fun v σ => need (zdR σ (.ref A.length) (.pd (.str x)) v) fun σ' => FW H S (.tuple [tLet, .int s, i0, bd]) A.length K E rest (lp (.tuple [zeW, .int i, tyD k db, .str x, d])) σ') E) E) := by kernel_rfl
theorem zgy {i0 : PyData} (lv : Lv (j + 7) H) (gb : Good j c bd f) : ∀ (its : List It) (b : Nat) (ρ : Env) (B : Hp) (it : Option Loc), (∀ x ∈ its, GoodI j c x) -> b + (its.length + 1) * c <= 24 -> FineE b ρ -> OutA ((itsR its ρ).bind f) K E A ->
  FW H S (.tuple [tLet, .int s, i0, bd]) A.length K E (its.map It.d) it (A ++ .dict (dc ρ) :: B)
 | [], b, ρ, B, it, _, hb, fe, h => wi_end.mpr (gb.ev (lv.le (Nat.le_add_right _ _)) (by rw [List.length_nil, Nat.zero_add, Nat.one_mul] at hb; exact hb) fe ⟨_, rfl, gP'⟩ fun τ => by rw [ext1]; exact h _)
 | x :: r, b, ρ, B, it, hi, hb, fe, h => by
  obtain ⟨g, hr⟩ := List.forall_mem_cons.mp hi
  obtain ⟨hb1, hb2⟩ := zeV hb
  have l0 := lv.le (Nat.le_add_right j 7)
  have ih : ∀ {ρ' : Env} (B' : Hp) (it : Option Loc), FineE (b + c) ρ' -> OutA ((itsR r ρ').bind f) K E A -> FW H S (.tuple [tLet, .int s, i0, bd]) A.length K E (r.map It.d) it (A ++ .dict (dc ρ') :: B') := fun B' it fe' h' => zgy lv gb r (b + c) _ B' it hr hb2 fe' h'
  have fin := fun {ρ'} => ze9 g hb1 fe (ρ' := ρ')
  have h : OutA (((x.run ρ).bind (itsR r)).bind f) K E A := h
  cases g with
  | @con s' d f' hs g =>
   obtain ⟨D, _, u⟩ := lv.dn
   refine wi_con.mpr (g.ev l0 hb1 fe ⟨_, rfl, gP'⟩ fun τ => ?_)
   rw [ext1]
   have h : OutA (((((f' ρ).bind fun u => tru s' u (zjo s')).bind fun _ => .ok ρ).bind (itsR r)).bind f) K E A := h
   cases e : f' ρ with
   | bad t w => rw [e] at h; exact h _
   | ok v =>
    rw [e] at h
    refine u 8 _ _ _ _ ?_
    cases v with
    | tru t =>
     cases t with
     | true => exact ih (ρ' := ρ) _ _ (fe.mono (Nat.le_add_right _ _)) h
     | false => exact h _
    | _ => exact h _
  | none hs => exact (zku _).mpr (h _)
  | @decl s' k bd' d bo n f' hs ob g _ =>
   refine wi_decl.mpr (zaO g.nn (g.ev l0 hb1 fe ⟨_, rfl, gP'⟩ fun τ => ?_))
   rw [ext1]
   have fd := zdP (k := k) hs hb1 fe ob g
   have h : OutA (((((f' ρ).bind fun u => bndR (bo ρ) fun bd => zb9 s' k bd u).bind fun u => .ok (ρ.put n u)).bind (itsR r)).bind f) K E A := h
   have fv := g.fine hb1 fe
   unfold zcd at fd
   cases e : f' ρ with
   | bad t w => rw [e] at h; exact h _
   | ok v =>
    rw [e] at h fv fd
    have h : OutA ((((bndR (bo ρ) fun bd => zb9 s' k bd v).bind fun u => .ok (ρ.put n u)).bind (itsR r)).bind f) K E A := h
    have fd : FineR (b + c) (bndR (bo ρ) fun bd => zb9 s' k bd v) := fd
    refine ft38 (lv.le (Nat.le_succ _)) hb1 fe ⟨_, rfl, gP'⟩ ob (fv.mono hb1) fun τ' => ?_
    rw [ext1]
    cases q : bndR (bo ρ) fun bd => zb9 s' k bd v with
    | bad t w => rw [q] at h; exact h _
    | ok w =>
     rw [q] at h fd
     exact zaa (zmu n w) (ih (ρ' := ρ.put n w) _ _ ((fe.mono (Nat.le_add_right _ _)).put n fd) h)
theorem zoA (h : Sc σ S ρ) : kvV σ S = some (dc ρ) := by
 obtain ⟨i, rfl, e⟩ := h
 exact congrArg (fun o : Option (Nat × List (Str × V)) => alt (o.map (·.2)) none) (zdW e)
theorem zjX {its : List It} (lv : Lv (j + 8) G) (gb : Good j c bd f) (hi : ∀ x ∈ its, GoodI j c x) (hl : its.length <= 3) (hb : b + 4 * c <= 24) (fe : FineE b ρ) (sc : kvV σ S = some (dc ρ)) (h : OutA (letR its f ρ) K E σ) : G 36 [se S, pv (nLet s its bd)] σ K E := by
 obtain ⟨H, l, u⟩ := lv.dn
 exact u 35 _ _ _ _ (Eq.mpr (by kernel_rfl : _ = need (kvV σ S) fun l => when (l.length <= sizeLine) (FW H S (nLet s its bd) σ.length K E (its.map It.d) none (σ ++ [.dict l]))) (zaa sc (zac (c := (dc ρ).length <= sizeLine) (Nat.le_of_ble_eq_true rfl) (zgy l gb its b ρ [] none hi (Nat.le_trans (Nat.add_le_add_left (Nat.mul_le_mul_right c (Nat.succ_le_succ hl)) b) hb) fe h))))
theorem zm5 {its : List It} (lv : Lv (j + 9) G) (gb : Good j c bd f) (hi : ∀ x ∈ its, GoodI j c x) (hl : its.length <= 3) (hb : b + 4 * c <= 24) (fe : FineE b ρ) (sc : kvV σ S = some (dc ρ)) (h : OutA (letR its f ρ) K E σ) : G 32 [se S, pv (nLet s its bd)] σ K E := by
 obtain ⟨H, l, u⟩ := lv.dn
 exact u 31 _ _ _ _ (Eq.mpr (by kernel_rfl : _ = H 36 [se S, pv (nLet s its bd)] σ K E) (zjX l gb hi hl hb fe sc h))
theorem znx {its : List It} (gb : Good j c bd f) (hi : ∀ x ∈ its, GoodI j c x) (hl : its.length <= 3) : EvOk (j + 9) (4 * c) (nLet s its bd) (letR its f) := fun lv _ _ _ _ _ _ hb fe sc h => zm5 lv gb hi hl hb fe (zoA sc) h
end
set_option backward.match.sparseCases true
def OutR (r : Re Vl) (K : KV) (A : Hp) (hs : List (Nam × Vl)) (B : Hp) : Prop := ∀ C, K (.pd (zbc r)) (A ++ lst hs :: (B ++ C))
section
variable {b j c : Nat} {K K' : KV} {E : KE} {σ τ A B C : Hp} {D F G H : zab} {u v : Vl} {s i lo hi : Int} {r : Re Vl} {ρ : Env} {d nd : PyData} {f : Env -> Re Vl} {hs : List (Nam × Vl)} {n : Nam}
theorem OutR.here (h : OutR r K A hs B) : K (.pd (zbc r)) (A ++ lst hs :: B) := by have := h []; rwa [List.append_nil] at this
theorem zmK (s i : Int) : RdOk 1 0 (nLit s i) (fun _ => .ok (.num i)) := fun lv _ _ _ _ _ _ _ _ _ _ _ h => by
 obtain ⟨H, l, u⟩ := lv.dn
 exact u 28 _ _ _ _ (OutR.here (r := .ok (.num i)) h)
theorem zmG (s : Int) (t : Bool) : RdOk 1 0 (.tuple [zgc, .int s, .bool t]) (fun _ => .ok (.tru t)) := fun lv _ _ _ _ _ _ _ _ _ _ _ h => by
 obtain ⟨H, l, u⟩ := lv.dn
 exact u 28 _ _ _ _ (OutR.here (r := .ok (.tru t)) h)
theorem zmF (s : Int) (x : Str) : RdOk 1 0 (.tuple [tStr, .int s, .str x]) (fun _ => .ok (.txt x)) := fun lv _ _ _ _ _ _ _ _ _ _ _ h => by
 obtain ⟨H, l, u⟩ := lv.dn
 exact u 28 _ _ _ _ (OutR.here (r := .ok (.txt x)) h)
theorem zoe (p n : Nam) : sb p.str n.str = p.is n := by cases p <;> cases n <;> rfl
theorem zly (fv : Fine b v) : v.d.canLay0 = true /\ v.d.depth <= 1 := by
 cases fv with
 | num => exact ⟨rfl, Nat.zero_le _⟩
 | tru => exact ⟨rfl, Nat.zero_le _⟩
 | txt a => exact ⟨a, Nat.zero_le _⟩
 | set => exact ⟨zcw _, by show PyData.depthAll _ + 1 <= 1; rw [zbV]; decide⟩
theorem zdH : ∀ {vs : List Vl}, (∀ v ∈ vs, Fine b v) -> PyData.canLayAll0 (vs.map Vl.d) = true /\ PyData.depthAll (vs.map Vl.d) <= 1
 | [], _ => ⟨rfl, Nat.zero_le _⟩
 | v :: r, h => by
  obtain ⟨a, q⟩ := List.forall_mem_cons.mp h
  obtain ⟨a1, a2⟩ := zly a
  obtain ⟨b1, b2⟩ := zdH q
  exact ⟨Bool.and_eq_true_iff.mpr ⟨a1, b1⟩, Nat.max_le.mpr ⟨a2, b2⟩⟩
theorem znz {l : List PyData} (h : PyData.canLayAll0 l = true /\ PyData.depthAll l <= 1) : eqP (.list l) (.list []) = some l.isEmpty := by
 refine (gd_i (x := PyData.eqvAll l []) ⟨h.1, rfl, Nat.le_trans (Nat.succ_le_succ h.2) (by decide)⟩).trans (congrArg some ?_)
 cases l <;> rfl
theorem zhw {l : List PyData} (h : PyData.canLayAll0 l = true /\ PyData.depthAll l <= 1) : evOp .ne (.pd (.list l)) (.pd (.list [])) σ = some (.bool (!l.isEmpty)) := congrArg (Option.map fun r => PyData.bool (!r)) (znz h)
theorem zlH (h : HOk b hs ρ) (n : Nam) : ∀ v ∈ hv n hs, Fine b v := by
 have : ∀ {hs : List (Nam × Vl)}, (∀ p ∈ hs, Fine b p.2) -> ∀ v ∈ hv n hs, Fine b v := by
  intro hs
  induction hs with
  | nil => exact fun _ _ h => nomatch h
  | cons p r ih =>
   intro h v hv'
   obtain ⟨a, q⟩ := List.forall_mem_cons.mp h
   rcases List.mem_append.mp (show v ∈ (match p.1.is n with | true => [p.2] | false => []) ++ hv n r from hv') with h1 | h1
   ·cases e : p.1.is n with
    | true => rw [e] at h1; exact List.mem_singleton.mp h1 ▸ a
    | false => rw [e] at h1; cases h1
   ·exact ih q v h1
 exact this h.fine
theorem zkk (n : Nam) : ∀ hs : List (Nam × Vl), (hv n hs).length <= hs.length
 | [] => Nat.le_refl _
 | p :: r => by
  have := zkk n r
  show ((match p.1.is n with | true => [p.2] | false => []) ++ hv n r).length <= r.length + 1
  rw [List.length_append]
  cases p.1.is n with
  | true => show 1 + _ <= _; omega
  | false => show 0 + _ <= _; omega
noncomputable abbrev fr29 (nd : PyData) (p : Nat) (op s : PyData) (told : Option Loc) (f8 part : Option Loc) : Fm := [lp nd, some (.v (.ref p)), lp op, lp s, none, none, told, none, f8, part, none, none, none, none, none, none, none, none]
noncomputable abbrev TNm (H : zab) (m : Fm) (E : KE) (d : PyData) (σ : Hp) (k : List PyData -> Hp -> Prop) : Prop := need (tgFm mc0 (.t [.n 1, .n 2]) d) fun mc' => evC H gc1 m mc' (some (.op .eq (.w 1) (.sub (.v 0) (.c (.int 2))))) σ (fun r σ3 => brn r (evX H gc1 m mc' (.w 2) σ3 (fun v σ4 => need (pdV v) fun d' => k [d'] σ4) E) (k [] σ3)) E
theorem nms {p : Nat} {KK : List PyData -> Hp -> Prop} : ∀ (hs : List (Nam × Vl)) (acc : List PyData), acc.length + hs.length <= sizeLine -> KK (acc ++ (hv n hs).map Vl.d) σ -> zat (TNm H (fr29 (.tuple [zbj, .int s, .str n.str]) p zbj (.int s) none none none) E) (fun σ' k => still σ σ' (.ref p) k) KK (hsD hs) acc σ
 | [], acc, _, h => by rwa [show hv n [] = [] from rfl, List.map_nil, List.append_nil] at h
 | q :: r, acc, hl, h => by
  refine zac (Nat.le_trans (Nat.le_add_right _ _) hl) (Eq.mpr (by kernel_rfl : _ = brn (sb q.1.str n.str) (σ[p]? = σ[p]? /\ zat (TNm H (fr29 (.tuple [zbj, .int s, .str n.str]) p zbj (.int s) none none none) E) (fun σ' k => still σ σ' (.ref p) k) KK (hsD r) (acc ++ [q.2.d]) σ)
   (σ[p]? = σ[p]? /\ zat (TNm H (fr29 (.tuple [zbj, .int s, .str n.str]) p zbj (.int s) none none none) E) (fun σ' k => still σ σ' (.ref p) k) KK (hsD r) (acc ++ []) σ)) ?_)
  rw [zoe]
  have h : KK (acc ++ ((match q.1.is n with | true => [q.2] | false => []) ++ hv n r).map Vl.d) σ := h
  cases e : q.1.is n with
  | true => rw [e] at h; exact ⟨rfl, nms r _ (acc1 hl) (by rw [app1]; exact h)⟩
  | false => rw [e] at h; exact ⟨rfl, nms r _ (by rw [List.append_nil]; exact Nat.le_trans (Nat.add_le_add_left (Nat.le_succ _) _) hl) (by rw [List.append_nil]; exact h)⟩
theorem zkl {j : Nat} (h : hs.length + j <= 1000) : hs.length <= sizeLine := zan (Nat.le_trans (Nat.le_add_right _ _) h) (by decide)
theorem zlb (s : Int) (n : Nam) : RdOk 1 0 (.tuple [zbj, .int s, .str n.str]) (look s n) := fun {G} lv {A B hs ρ b K E} hb fe ok hl h => by
 obtain ⟨H, l, u⟩ := lv.dn
 refine u 28 _ _ _ _ (Eq.mpr (by kernel_rfl : _ = need (zaj (A ++ lst hs :: B) (.ref A.length)) fun l => zat (TNm H (fr29 (.tuple [zbj, .int s, .str n.str]) A.length zbj (.int s) none none none) E) (fun σ' k => still (A ++ lst hs :: B) σ' (.ref A.length) k)
  (fun ds σ' => when (ds.length <= sizeLine) (need (evOp .ne (.pd (.list ds)) (.pd (.list [])) σ') fun d => truth (.pd d) fun t => brn t (need (zai σ' (.pd (.list ds)) (.pd (.int (-1)))) fun z => need (zaK [.pd tOk, z]) fun ds => when (ds.length <= sizeLine) (K (.pd (.tuple ds)) σ')) (need (evOp .add (.pd (.str n.str)) (.pd (.str zcg)) σ') fun d => K (.pd (.tuple [tBad, d, .int s])) σ'))) l [] (A ++ lst hs :: B)) ?_)
 refine zaa (show alt (seqT (A ++ lst hs :: B) (.ref A.length)) _ = some (hsD hs) by rw [zba gP']; rfl) (nms hs [] (by rw [List.length_nil, Nat.zero_add]; exact zkl hl) ?_)
 have hz : ((hv n hs).map Vl.d).length <= sizeLine := by rw [List.length_map]; exact Nat.le_trans (zkk n hs) (zkl hl)
 refine zac hz (zaa (zhw (zdH (zlH ok n))) (zaa rfl ?_))
 have h := OutR.here h
 have e := ok.last n
 unfold look at h
 cases q : ρ.at n with
 | some v =>
  rw [q] at h e
  obtain ⟨w, e⟩ := List.getLast?_eq_some_iff.mp e
  rw [e, List.map_append] at hz ⊢
  refine zcs (by cases w <;> rfl) (zaa (a := .pd v.d) ?_ (zaa (a := [tOk, v.d]) rfl (zac (c := [tOk, v.d].length <= sizeLine) (Nat.le_of_ble_eq_true rfl) h)))
  exact congrArg (fun o => alt (Option.map V.pd o) none) (zdI hz)
 | none =>
  rw [q] at h e
  rw [List.getLast?_eq_none_iff.mp e]
  exact zaO rfl (zaa (zbG (zan (m := 200) (by cases n <;> exact Nat.le_of_ble_eq_true rfl) (by decide))) h)
end
set_option backward.match.sparseCases false
noncomputable def zkw (s : Option Mine.Lake.S) : List Mine.Lake.S := match s with
 | some (.for _ _ b) => b
 | _ => []
noncomputable def b29 : List Mine.Lake.S := zkw fn29.body[5]?
noncomputable abbrev FP (G : zab) (nd : PyData) (p q : Nat) (op s : PyData) (K : KV) (E : KE) (its : List PyData) (told part : Option Loc) (σ : Hp) : Prop := forN (fun d m' σ' k => need (tgFm m' (.n 9) d) fun m'' => evSs G gc1 b29 m'' σ' k E) (fun _ k => k) (fun f m' σ' => match f with
 | .next => evSs G gc1 (fn29.body.drop 6) m' σ' (retK K) E
 | f => retK K f m' σ') its (fr29 nd p op s told (some (.v (.ref q))) part) σ
section
variable {b j c : Nat} {K K' : KV} {E : KE} {σ τ A B C : Hp} {D F G H : zab} {u v : Vl} {s i lo hi : Int} {r : Re Vl} {ρ : Env} {d nd op sd : PyData} {f : Env -> Re Vl} {hs : List (Nam × Vl)} {n : Nam} {told part : Option Loc} {p q : Nat} {acc : List PyData}
theorem ext2 {o o' : O} : A ++ o :: ((B ++ o' :: C) ++ τ) = (A ++ o :: B) ++ o' :: (C ++ τ) := by rw [ext1 (τ := o' :: (C ++ τ)), List.append_assoc]; rfl
theorem pt_turn {its : List PyData} : FP G nd p q op sd K E (d :: its) told part σ = G 29 [pv d, .v (.ref p)] σ (fun t σ => need (zai σ t (.pd (.int 0))) fun z => need (evOp .eq z (.pd tBad) σ) fun x => truth (.pd x) fun w => brn w (K t σ) (when ((lstR σ (.ref q)).isSome = true) (need (zai σ t (.pd (.int 1))) fun y => evLM .append (.ref q) [y] σ (fun _ σ => FP G nd p q op sd K E its (some (.v t)) (lp d) σ)))) E := by kernel_rfl
theorem pts (lv : Lv j G) (hb : b + c <= 24) (fe : FineE b ρ) (ok : HOk b hs ρ) (hl : hs.length + j <= 1000) : ∀ (ps : List Pt) (acc : List PyData) (C : Hp) (told part : Option Loc) (k : List Vl -> Re Vl), (∀ p ∈ ps, Good j c p.1 p.2) -> acc.length + ps.length <= 1000 -> OutR (seqR (ps.map (·.2)) ρ k) K A hs B ->
   (∀ us C told part, (∀ u ∈ us, Fine (b + c) u) -> us.length = ps.length -> OutR (k us) K A hs B -> evSs G gc1 (fn29.body.drop 6) (fr29 nd A.length op sd told (some (.v (.ref (A ++ lst hs :: B).length))) part) ((A ++ lst hs :: B) ++ O.list (acc ++ us.map Vl.d) :: C) (retK K) E) ->
   FP G nd A.length (A ++ lst hs :: B).length op sd K E (ps.map (·.1)) told part ((A ++ lst hs :: B) ++ O.list acc :: C)
 | [], acc, C, told, part, k, _, _, h, g => by
  have := g [] C told part (fun _ h => nomatch h) rfl h
  rwa [List.map_nil, List.append_nil] at this
 | p :: r, acc, C, told, part, k, hp, hn, h, g => by
  obtain ⟨gp, hr⟩ := List.forall_mem_cons.mp hp
  rw [List.length_cons] at hn
  refine pt_turn.mpr ?_
  rw [ext1]
  refine gp.rd lv hb fe ok hl fun C' => ?_
  have fin := gp.fine hb fe
  have h : OutR ((p.2 ρ).bind fun u => seqR (r.map (·.2)) ρ fun us => k (u :: us)) K A hs B := h
  cases e : p.2 ρ with
  | bad t w => rw [e] at h; exact zaa rfl (zaa rfl (zaa rfl (zcs rfl (by rw [List.append_assoc]; exact h _))))
  | ok u =>
   rw [e] at h fin
   rw [ext2]
   refine zaa (a := .pd tOk) rfl (zaa (a := .bool false) rfl (zaa rfl (zaO rfl (zac zb1 (zaa (a := .pd u.d) rfl (zeN (Nat.lt_of_le_of_lt (Nat.le_trans (Nat.le_add_right _ _) hn) (by decide)) ?_))))))
   refine pts lv hb fe ok hl r (acc ++ [u.d]) (C ++ C') _ _ (fun us => k (u :: us)) hr (acc1 hn) h fun us C told part hu hn h => ?_
   have := g (u :: us) C told part (List.forall_mem_cons.mpr ⟨fin, hu⟩) (congrArg (· + 1) hn) h
   rw [app1]; exact this
noncomputable def srt : Vl -> Str
 | .num _ => ⟨#[105,110,116]⟩
 | .tru _ => ⟨#[105,110,116]⟩
 | .txt _ => ⟨#[115,116,114]⟩
 | .set _ => ⟨#[115,101,116]⟩
noncomputable abbrev TSr (G : zab) (E : KE) (d : PyData) (σ : Hp) (k : List PyData -> Hp -> Prop) : Prop := G 26 [pv d] σ (fun t σ => need (evOp .eq t (.pd zgc) σ) fun x => truth (.pd x) fun w => brn w (k [tInt] σ) (G 26 [pv d] σ (fun t σ => need (pdV t) fun d' => k [d'] σ) E)) E
theorem zgP {k : List PyData -> Hp -> Prop} (X : Up G H) (h : k [.str (srt v)] σ) : TSr H E v.d σ k := X 25 _ _ _ _ (by
 cases v with
 | tru => exact h
 | _ => exact X 25 _ _ _ _ h)
theorem ff {P : Prop} (h : false = true) : P := nomatch h
theorem tf {P : Prop} (h : true = false) : P := nomatch h
theorem zbK {turn : PyData -> Hp -> (List PyData -> Hp -> Prop) -> Prop} {ok : Hp -> Prop -> Prop} {KK : List PyData -> Hp -> Prop} {its : List PyData} (hl : acc.length <= sizeLine) (h : turn d σ fun o σ' => ok σ' (zat turn ok KK its (acc ++ o) σ')) : zat turn ok KK (d :: its) acc σ := zac hl h
theorem znJ {turn : PyData -> Hp -> (List PyData -> Hp -> Prop) -> Prop} {ok : Hp -> Prop -> Prop} {KK : List PyData -> Hp -> Prop} (h : KK acc σ) : zat turn ok KK [] acc σ := h
theorem zmo (u v : Vl) : sb (srt u) (srt v) = (ltO u v).isSome := by cases u <;> cases v <;> rfl
theorem zm1 {t : Bool} (σ : Hp) (fu : Fine b u) (fv : Fine b v) (e : ltO u v = some t) : evOp .lt (.pd u.d) (.pd v.d) σ = some (.bool t) := by
 cases fu with
 | set p q z =>
  cases fv with
  | set p' q' z' => cases e; exact zhz z z'
  | _ => cases e
 | _ => cases v <;> cases e <;> rfl
theorem idx2 {a z : PyData} : idx [a, z] 0 = some a /\ idx [a, z] 1 = some z := ⟨rfl, rfl⟩
theorem zlr {l r : PyData} (X : Up G H) (fu : Fine b u) (fv : Fine b v) (h : OutR (ltR s u v) K A hs B) : evSs H gc1 (fn29.body.drop 6) (fr29 (nBin s tLt l r) p tBin (.int s) told (some (.v (.ref (A ++ lst hs :: B).length))) part) ((A ++ lst hs :: B) ++ O.list [u.d, v.d] :: C) (retK K) E := by
 generalize hq : A ++ lst hs :: B = Q
 refine Eq.mpr (by kernel_rfl : _ = need (zaj (Q ++ O.list [u.d, v.d] :: C) (.ref Q.length)) fun l => zat (TSr H E) (fun σ' k => still (Q ++ O.list [u.d, v.d] :: C) σ' (.ref Q.length) k) (fun ds σ' => when (ds.length <= sizeLine) (need (zai σ' (.pd (.list ds)) (.pd (.int 0))) fun a => need (zai σ' (.pd (.list ds)) (.pd (.int 1))) fun z => need (evOp .eq a z σ') fun d => truth (.pd d) fun t => brn t (need (zai σ' (.ref Q.length) (.pd (.int 0))) fun x => need (zai σ' (.ref Q.length) (.pd (.int 1))) fun y => need (evOp .lt x y σ') fun d => K (.pd (.tuple [tOk, d])) σ') (K (.pd (badT wSet s)) σ'))) l [] (Q ++ O.list [u.d, v.d] :: C)) ?_
 refine zaa (show alt (seqT _ (.ref Q.length)) _ = some [u.d, v.d] by rw [zba gP']; rfl) ?_
 refine zbK (Nat.zero_le _) (zgP X ⟨rfl, zbK (Nat.le_of_ble_eq_true rfl) (zgP X ⟨rfl, ?_⟩)⟩)
 refine znJ (zac (Nat.le_of_ble_eq_true rfl) ?_)
 refine (zaa (a := .pd (.str (srt u))) rfl (zaa (a := .pd (.str (srt v))) rfl (zaa (a := .bool (sb (srt u) (srt v))) rfl (zaa (a := sb (srt u) (srt v)) rfl ?_))))
 have fin : ∀ t, K (.pd (zbc (ltR s u v))) (Q ++ t) := fun t => by rw [← hq, ext1]; exact h t
 rw [zmo]
 cases e : ltO u v with
 | some t =>
  rw [show ltR s u v = .ok (.tru t) from congrArg (boR s) e] at fin
  exact zaa (zcC gP' idx2.1) (zaa (zcC gP' idx2.2) (zaa (zm1 _ fu fv e) (fin _)))
 | none =>
  rw [show ltR s u v = .bad wSet s from congrArg (boR s) e] at fin
  exact fin _
end
noncomputable def notN : Vl -> Bool
 | .num _ => false
 | .tru _ => false
 | _ => true
noncomputable def toI : Vl -> Int
 | .num i => i
 | .tru t => if t = true then 1 else 0
 | _ => 0
noncomputable abbrev TI (d : PyData) (σ : Hp) (k : List PyData -> Hp -> Prop) : Prop := need (isiP d "int") fun t => brn (!t) (k [d] σ) (k [] σ)
noncomputable abbrev TJ (d : PyData) (σ : Hp) (k : List PyData -> Hp -> Prop) : Prop := need (zfm d) fun i => k [.int i] σ
section
variable {b j c : Nat} {K K' : KV} {E : KE} {σ τ A B C : Hp} {D F G H : zab} {u v : Vl} {s i lo hi : Int} {r : Re Vl} {ρ : Env} {d nd op sd : PyData} {f : Env -> Re Vl} {hs : List (Nam × Vl)} {n : Nam} {told part : Option Loc} {p q : Nat} {acc : List PyData}
theorem zlF (v : Vl) : isiP v.d "int" = some (!notN v) := by cases v <;> rfl
theorem znS (h : notN v = false) : zfm v.d = some (toI v) := by cases v <;> first | rfl | exact tf h
theorem nots {KK : List PyData -> Hp -> Prop} : ∀ (us : List Vl) (acc : List PyData), acc.length + us.length <= sizeLine -> KK (acc ++ (us.filter notN).map Vl.d) σ -> zat TI (fun σ' k => still σ σ' (.ref p) k) KK (us.map Vl.d) acc σ
 | [], acc, _, h => by rwa [List.filter_nil, List.map_nil, List.append_nil] at h
 | u :: r, acc, hl, h => by
  refine zbK (Nat.le_trans (Nat.le_add_right _ _) hl) (zaa (zlF u) ?_)
  rw [List.filter_cons] at h
  cases e : notN u with
  | true => rw [e] at h; exact ⟨rfl, nots r _ (acc1 hl) (by rw [app1]; exact h)⟩
  | false => rw [e] at h; exact ⟨rfl, nots r _ (by rw [List.append_nil]; exact Nat.le_trans (Nat.add_le_add_left (Nat.le_succ _) _) hl) (by rw [List.append_nil]; exact h)⟩
theorem znc {KK : List PyData -> Hp -> Prop} : ∀ (us : List Vl) (acc : List PyData), acc.length + us.length <= sizeLine -> us.filter notN = [] -> KK (acc ++ (us.map toI).map .int) σ -> zat TJ (fun σ' k => still σ σ' (.ref p) k) KK (us.map Vl.d) acc σ
 | [], acc, _, _, h => by rwa [List.map_nil, List.map_nil, List.append_nil] at h
 | u :: r, acc, hl, hn, h => by
  rw [List.filter_cons] at hn
  cases e : notN u with
  | true => rw [e] at hn; cases hn
  | false =>
   rw [e] at hn
   exact zbK (Nat.le_trans (Nat.le_add_right _ _) hl) (zaa (znS e) ⟨rfl, znc r _ (acc1 hl) hn (by rw [app1]; exact h)⟩)
theorem ziu {s : Int} : ∀ (us : List Vl) (k : List Int -> Re Vl), (us.filter notN = [] -> zdY s us k = k (us.map toI)) /\ (us.filter notN ≠ [] -> zdY s us k = .bad wNum s)
 | [], k => ⟨fun _ => rfl, fun h => absurd rfl h⟩
 | u :: r, k => by
  obtain ⟨h1, h2⟩ := ziu (s := s) r fun is => k (toI u :: is)
  rw [List.filter_cons]
  cases u with
  | num => exact ⟨h1, h2⟩
  | tru => exact ⟨h1, h2⟩
  | txt => exact ⟨fun h => (nomatch h), fun _ => rfl⟩
  | set => exact ⟨fun h => (nomatch h), fun _ => rfl⟩
noncomputable abbrev N7 (H : zab) (nd : PyData) (p : Nat) (op : PyData) (s : Int) (told part : Option Loc) (n : Nat) (K : KV) (E : KE) (σ : Hp) : Prop := need (zaj σ (.ref n)) fun l => zat TI (fun σ' k => still σ σ' (.ref n) k) (fun ds σ' => when (ds.length <= sizeLine) (need (evOp .ne (.pd (.list ds)) (.pd (.list [])) σ') fun d => truth (.pd d) fun t => brn t (K (.pd (badT wNum s)) σ') (need (zaj σ' (.ref n)) fun l => zat TJ (fun σ'' k => still σ' σ'' (.ref n) k) (fun ds σ'' => when (ds.length <= sizeLine)
 (evSs H gc1 (fn29.body.drop 9) (fr29 nd p op (.int s) told (some (.v (.ref σ''.length))) part) (σ'' ++ [O.list ds]) (retK K) E)) l [] σ'))) l [] σ
theorem zoc {l r : PyData} {m : Nat} : evSs H gc1 (fn29.body.drop 6) (fr29 (nBin s tAdd l r) p tBin (.int s) told (some (.v (.ref m))) part) σ (retK K) E = N7 H (nBin s tAdd l r) p tBin s told part m K E σ := by kernel_rfl
theorem zoa {ps : List Pt} {m : Nat} : evSs H gc1 (fn29.body.drop 6) (fr29 (nSet s ps) p tSet (.int s) told (some (.v (.ref m))) part) σ (retK K) E = N7 H (nSet s ps) p tSet s told part m K E σ := by kernel_rfl
theorem zob {m : Nat} : evSs H gc1 (fn29.body.drop 6) (fr29 (nRng s lo hi) p za9 (.int s) told (some (.v (.ref m))) part) σ (retK K) E = N7 H (nRng s lo hi) p za9 s told part m K E σ := by kernel_rfl
theorem fin_add {l r : PyData} {m : Nat} : evSs H gc1 (fn29.body.drop 9) (fr29 (nBin s tAdd l r) p tBin (.int s) told (some (.v (.ref m))) part) σ (retK K) E = need (zai σ (.ref m) (.pd (.int 0))) fun x => need (zai σ (.ref m) (.pd (.int 1))) fun y => need (evOp .add x y σ) fun d => K (.pd (.tuple [tOk, d])) σ := by kernel_rfl
theorem fin_set {ps : List Pt} {m : Nat} : evSs H gc1 (fn29.body.drop 9) (fr29 (nSet s ps) p tSet (.int s) told (some (.v (.ref m))) part) σ (retK K) E = zao .set [.ref m] σ fun v σ => zao .sorted [v] σ fun v σ => zao .tuple [v] σ fun v σ => need (zaK [.pd tOk, v]) fun ds => when (ds.length <= sizeLine) (K (.pd (.tuple ds)) σ) := by kernel_rfl
theorem fin_rng {m : Nat} : evSs H gc1 (fn29.body.drop 9) (fr29 (nRng s lo hi) p za9 (.int s) told (some (.v (.ref m))) part) σ (retK K) E = need (zai σ (.ref m) (.pd (.int 0))) fun x => need (zai σ (.ref m) (.pd (.int 1))) fun y => need (evOp .add y (.pd (.int 1)) σ) fun d => zao .range [x, .pd d] σ fun v σ => zao .tuple [v] σ fun v σ => need (zaK [.pd tOk, v]) fun ds => when (ds.length <= sizeLine) (K (.pd (.tuple ds)) σ) := by kernel_rfl
theorem zdE {Q C : Hp} {us : List Vl} (op : PyData) (e7 : ∀ {σ}, evSs H gc1 (fn29.body.drop 6) (fr29 nd p op (.int s) told (some (.v (.ref Q.length))) part) σ (retK K) E = N7 H nd p op s told part Q.length K E σ)
  (hl : us.length <= 4) (hu : ∀ u ∈ us, Fine b u) {k : List Int -> Re Vl} (h : ∀ τ, K (.pd (zbc (zdY s us k))) (Q ++ τ)) (g : (∀ τ, K (.pd (zbc (k (us.map toI)))) (Q ++ τ)) -> evSs H gc1 (fn29.body.drop 9) (fr29 nd p op (.int s) told (some (.v (.ref (Q ++ O.list (us.map Vl.d) :: C).length))) part) ((Q ++ O.list (us.map Vl.d) :: C) ++ [O.list ((us.map toI).map .int)]) (retK K) E) :
  evSs H gc1 (fn29.body.drop 6) (fr29 nd p op (.int s) told (some (.v (.ref Q.length))) part) (Q ++ O.list (us.map Vl.d) :: C) (retK K) E := by
 have it : zaj (Q ++ O.list (us.map Vl.d) :: C) (.ref Q.length) = some (us.map Vl.d) := by
  show alt (seqT _ (.ref Q.length)) _ = _
  rw [zba gP']; rfl
 have l4 : ([] : List PyData).length + us.length <= sizeLine := zan (by rw [List.length_nil, Nat.zero_add]; exact hl) (by decide)
 obtain ⟨c1, c2⟩ := ziu (s := s) us k
 refine e7.mpr (zaa it (nots us [] l4 (zac (zan (by rw [List.nil_append, List.length_map]; exact Nat.le_trans (List.length_filter_le _ _) hl) (by decide)) (zaa (zhw (zdH (b := b) fun v hv => hu v (List.mem_filter.mp hv).1)) (zaa rfl ?_)))))
 cases e : us.filter notN with
 | cons x y => rw [c2 (by rw [e]; exact nofun)] at h; exact h _
 | nil =>
  rw [c1 e] at h
  exact zaO rfl (zaa it (znc us [] l4 e (zac (zan (by rw [List.nil_append, List.length_map, List.length_map]; exact hl) (by decide)) (g h))))
theorem gE {Q : Hp} {o : O} : (Q ++ [o])[Q.length]? = some o := gP'
theorem zjU {l r : PyData} (fu : Fine b u) (fv : Fine b v) (h : OutR (addR s u v) K A hs B) : evSs H gc1 (fn29.body.drop 6) (fr29 (nBin s tAdd l r) p tBin (.int s) told (some (.v (.ref (A ++ lst hs :: B).length))) part) ((A ++ lst hs :: B) ++ O.list [u.d, v.d] :: C) (retK K) E :=
 zdE (us := [u, v]) (b := b) (k := fun l => match l with | [i, k] => .ok (.num (i + k)) | _ => .bad wNum s) tBin zoc (Nat.le_of_ble_eq_true rfl) (zcB fu fv) (fun τ => by rw [ext1]; exact h τ) fun h => fin_add.mpr (zaa (zcC gE idx2.1) (zaa (zcC gE idx2.2) (zaa (a := .int (toI u + toI v)) rfl (by rw [List.append_assoc]; exact h _))))
theorem zj5 {j c : Nat} {l r : PyData} {f g : Env -> Re Vl} {R : Vl -> Vl -> Re Vl} {c' : Nat} (o : PyData) (s : Int) (gl : Good j c l f) (gr : Good j c r g) (hc : c <= c') (e0 : ∀ {H σ K E p}, stp H 29 [pv (nBin s o l r), .v (.ref p)] σ K E = FP H (nBin s o l r) p σ.length tBin (.int s) K E [l, r] none none (σ ++ [O.list []]))
  (tail : ∀ {H G b u v A B C hs K E told part}, Up G H -> Fine b u -> Fine b v -> OutR (R u v) K A hs B -> evSs H gc1 (fn29.body.drop 6) (fr29 (nBin s o l r) A.length tBin (.int s) told (some (.v (.ref (A ++ lst hs :: B).length))) part) ((A ++ lst hs :: B) ++ O.list [u.d, v.d] :: C) (retK K) E) :
  RdOk (j + 7) c' (nBin s o l r) (fun ρ => (f ρ).bind fun u => (g ρ).bind fun v => R u v) := fun {G} lv {A B hs ρ b K E} hb fe ok hl h => by
 obtain ⟨H, l1, u1⟩ := lv.dn
 obtain ⟨F, l2, u2⟩ := l1.dn
 refine u1 28 _ _ _ _ (e0.mpr (pts (ps := [(l, f), (r, g)]) (l1.le (Nat.le_add_right _ _)) (Nat.le_trans (Nat.add_le_add_left hc b) hb) fe ok (Nat.le_trans (Nat.add_le_add_left (Nat.le_add_right j 7) _) hl) [] [] none none (fun us => match us with | [u, v] => R u v | _ => .bad wNum s) (zcB gl gr) (Nat.le_of_ble_eq_true rfl) h fun us C told part hu hn h => ?_))
 match us, hn with
 | [u, v], _ =>
  obtain ⟨fu, hr⟩ := List.forall_mem_cons.mp hu
  exact tail u2 fu (hr v List.mem_cons_self) h
theorem zmM {j c : Nat} {l r : PyData} {f g : Env -> Re Vl} (s : Int) (gl : Good j c l f) (gr : Good j c r g) : RdOk (j + 7) (c + 1) (nBin s tAdd l r) (fun ρ => (f ρ).bind fun u => (g ρ).bind fun v => addR s u v) :=
 zj5 tAdd s gl gr (Nat.le_succ c) (by intros; kernel_rfl) fun _ fu fv h => zjU fu fv h
theorem zom {j c : Nat} {l r : PyData} {f g : Env -> Re Vl} (s : Int) (gl : Good j c l f) (gr : Good j c r g) : RdOk (j + 7) c (nBin s tLt l r) (fun ρ => (f ρ).bind fun u => (g ρ).bind fun v => ltR s u v) :=
 zj5 tLt s gl gr (Nat.le_refl c) (by intros; kernel_rfl) fun X fu fv h => zlr X fu fv h
theorem zmH {j c : Nat} (s : Int) {ps : List Pt} (hp : ∀ p ∈ ps, Good j c p.1 p.2) (hn : ps.length <= 4) : RdOk (j + 7) c (nSet s ps) (setR s (ps.map (·.2))) := fun {G} lv {A B hs ρ b K E} hb fe ok hl h => by
 obtain ⟨H, l1, u1⟩ := lv.dn
 refine u1 28 _ _ _ _ (Eq.mpr (by kernel_rfl : _ = FP H (nSet s ps) A.length (A ++ lst hs :: B).length tSet (.int s) K E (ps.map (·.1)) none none ((A ++ lst hs :: B) ++ [O.list []])) (pts (l1.le (Nat.le_add_right _ _)) hb fe ok (Nat.le_trans (Nat.add_le_add_left (Nat.le_add_right j 7) _) hl) ps [] [] none none (fun us => zdY s us fun l => .ok (.set (za1 (dedup l)))) hp (by rw [List.length_nil, Nat.zero_add]; exact Nat.le_trans hn (by decide)) h fun us C told part hu hm h => ?_))
 refine zdE (us := us) (b := b + c) tSet zoa (by rw [hm]; exact hn) hu (fun τ => by rw [ext1]; exact h τ) fun h => fin_set.mpr (mkset (zba gE) (by rw [List.length_map, hm]; exact hn) (zaa (a := [tOk, zam (za1 (dedup (us.map toI)))]) rfl (zac (c := [tOk, zam (za1 (dedup (us.map toI)))].length <= sizeLine) (Nat.le_of_ble_eq_true rfl) (by rw [List.append_assoc]; exact h _))))
theorem zoz (X : Up G H) (h : K (.pd (okT (.int i))) σ) : H 29 [pv (nLit s i), .v (.ref p)] σ K E := X 28 _ _ _ _ h
theorem zfH {Q : Hp} {its : List PyData} (X : Up G H) (hl : acc.length < sizeLine) (h : FP H nd p Q.length op sd K E its (lp (okT (.int i))) (lp (nLit s i)) (Q ++ O.list (acc ++ [.int i]) :: C)) : FP H nd p Q.length op sd K E (nLit s i :: its) told part (Q ++ O.list acc :: C) :=
 pt_turn.mpr (zoz X (zaa (a := .pd tOk) rfl (zaa (a := .bool false) rfl (zaa rfl (zaO rfl (zac zb1 (zaa (a := .pd (.int i)) rfl (zeN hl h))))))))
theorem zk9 (w : Rg lo hi) (h : K (.pd (zam (rI lo hi))) σ) : zao .tuple [.rng lo (hi + 1)] σ K := zac (zg8 w) (by rw [← zla]; exact h)
theorem rngK {a b : Int} (h : K (.rng a b) σ) : zao .range [.pd (.int a), .pd (.int b)] σ K := Eq.mpr (by kernel_rfl) h
theorem zi5 {Q : Hp} (w : Rg lo hi) (h : ∀ τ, K (.pd (okT (zam (rI lo hi)))) (Q ++ τ)) : evSs H gc1 (fn29.body.drop 6) (fr29 (nRng s lo hi) p za9 (.int s) told (some (.v (.ref Q.length))) part) (Q ++ [O.list [.int lo, .int hi]]) (retK K) E :=
 zdE (us := [.num lo, .num hi]) (b := 3) (C := []) (k := fun _ => .ok (.set (rI lo hi))) za9 zob (Nat.le_of_ble_eq_true rfl) (zcB (.num ⟨w.lo.1, Int.lt_of_le_of_lt w.lo.2 (by decide)⟩) (.num ⟨Int.le_trans (by decide) w.hi.1, Int.lt_of_le_of_lt w.hi.2 (by decide)⟩)) (fun τ => h τ) fun h => by
  refine fin_rng.mpr (zaa (zcC gE idx2.1) (zaa (zcC gE idx2.2) (zaa (a := PyData.int (hi + 1)) rfl (rngK (a := lo) (zk9 w ?_)))))
  exact zaa (a := [tOk, zam (rI lo hi)]) rfl (zac (c := [tOk, zam (rI lo hi)].length <= sizeLine) (Nat.le_of_ble_eq_true rfl) (by rw [List.append_assoc]; exact h _))
theorem zmI (s : Int) {lo hi : Int} (w : Rg lo hi) : RdOk 8 0 (nRng s lo hi) (fun _ => .ok (.set (rI lo hi))) := fun {G} lv {A B hs ρ b K E} hb fe ok hl h => by
 obtain ⟨H, l1, u1⟩ := lv.dn
 obtain ⟨F, l2, u2⟩ := l1.dn
 refine u1 28 _ _ _ _ (Eq.mpr (by kernel_rfl : _ = FP H (nRng s lo hi) A.length (A ++ lst hs :: B).length za9 (.int s) K E [nLit s lo, nLit s hi] none none ((A ++ lst hs :: B) ++ [O.list []])) (zfH u2 (Nat.succ_pos _) (zfH u2 (Nat.lt_of_sub_eq_succ rfl) (zi5 w fun τ => by rw [ext1]; exact h τ))))
end
set_option backward.match.sparseCases true
noncomputable def so : Vl -> Str
 | .num _ => ⟨#[105,110,116]⟩
 | .tru _ => ⟨#[98,111,111,108]⟩
 | .txt _ => ⟨#[115,116,114]⟩
 | .set _ => ⟨#[115,101,116]⟩
noncomputable def lotD : Option (List Int) -> PyData
 | none => .none
 | some m => zam m
noncomputable abbrev TM (m : List Int) (d : PyData) (σ : Hp) (k : List PyData -> Hp -> Prop) : Prop := need (evOp .notin (.pd d) (.pd (zam m)) σ) fun x => truth (.pd x) fun t => brn t (k [d] σ) (k [] σ)
noncomputable abbrev FM (G : zab) (v : Vl) (s : Int) (K : KV) (E : KE) (ds : List PyData) (σ : Hp) : Prop := when (ds.length <= sizeLine) (need (evOp .ne (.pd (.list ds)) (.pd (.list [])) σ) fun d => truth (.pd d) fun t => brn t (G 25 [pv v.d] σ (fun x σ => need (evOp .add x (.pd (.str wBnd)) σ) fun d => K (.pd (.tuple [tBad, d, .int s])) σ) E) (K (.pd (okT v.d)) σ))
section
variable {b j c : Nat} {K K' : KV} {E : KE} {σ τ A B C : Hp} {D F G H : zab} {u v : Vl} {s i lo hi : Int} {r : Re Vl} {ρ : Env} {d nd op sd : PyData} {f : Env -> Re Vl} {hs : List (Nam × Vl)} {n : Nam} {told part : Option Loc} {p q : Nat} {acc : List PyData} {k : Kn} {bd : Option (List Int)} {m l : List Int}
theorem st26 (X : Up G H) (h : K (.pd (.str (so u))) σ) : H 26 [pv u.d] σ K E := X 25 _ _ _ _ (by cases u <;> exact h)
theorem zhN {i : Int} : ∀ l : List Int, inI i (l.map .int) = some (l.any (· == i))
 | [] => rfl
 | a :: r => (congrArg (Option.map ((a == i) || ·)) (zhN r))
theorem zgp : evOp .notin (.pd (.int i)) (.pd (zam m)) σ = some (.bool (!(m.any (· == i)))) := congrArg (fun o => Option.map (fun r => PyData.bool (!r)) (alt (alt o _) _)) (zhN m)
theorem zhn {KK : List PyData -> Hp -> Prop} : ∀ (l : List Int) (acc : List PyData), acc.length + l.length <= sizeLine -> KK (acc ++ (out m l).map .int) σ -> zat (TM m) (fun _ k => k) KK (l.map .int) acc σ
 | [], acc, _, h => by rwa [show out m [] = [] from rfl, List.map_nil, List.append_nil] at h
 | i :: r, acc, hl, h => by
  refine zbK (Nat.le_trans (Nat.le_add_right _ _) hl) (zaa zgp (zaa rfl ?_))
  have e : out m (i :: r) = if (!(m.any (· == i))) = true then i :: out m r else out m r := by
   unfold out; rw [List.filter_cons]
  rw [e] at h
  cases q : m.any (· == i) with
  | true => rw [q] at h; exact zhn r _ (by rw [List.append_nil]; exact Nat.le_trans (Nat.add_le_add_left (Nat.le_succ _) _) hl) (by rw [List.append_nil]; exact h)
  | false => rw [q] at h; exact zhn r _ (acc1 hl) (by rw [app1]; exact h)
theorem zlu (n : Nu k v l) (X : Up F G) (h : K (.pd (zbc (chk s (some m) l v))) σ) : zat (TM m) (fun _ k => k) (FM G v s K E) (l.map .int) [] σ := by
 refine zhn l [] (zan (by rw [List.length_nil, Nat.zero_add]; exact n.len) (by decide)) (zac (zan (by rw [List.nil_append, List.length_map]; exact Nat.le_trans (List.length_filter_le _ _) n.len) (by decide)) (zaa (zhx _) (zaa (a := !decide (out m l = [])) rfl ?_)))
 have h : K (.pd (zbc (match decide (out m l = []) with | true => .ok v | false => .bad (shV v ++ wBnd) s))) σ := h
 cases q : decide (out m l = []) with
 | true => rw [q] at h; exact h
 | false => rw [q] at h; exact sh25 n X (zaa (zbG (by rw [← zaC]; exact zan (zfk n) (by decide))) h)
noncomputable abbrev f27 (k : Kn) (u : Vl) (lt : PyData) (s : Int) : Fm := [lp (.str k.w), lp u.d, lp lt, lp (.int s), lp (.str (so u)), none, none, none, none, none]
theorem zkh {u : Vl} (hu : notN u = false) : evSs G gc1 (fn27.body.drop 1) (f27 .int u (zam m) s) σ (retK K) E = zat (TM m) (fun _ k => k) (FM G (.num (toI u)) s K E) [.int (toI u)] [] σ := by
 cases u with
 | num => kernel_rfl
 | tru => kernel_rfl
 | _ => exact tf hu
theorem kp_set : evSs G gc1 (fn27.body.drop 1) (f27 .set (.set l) (zam m) s) σ (retK K) E = when ((l.map PyData.int).length <= sizeLine) (zat (TM m) (fun _ k => k) (FM G (.set l) s K E) (l.map .int) [] σ) := by kernel_rfl
theorem zhD (X : Up F G) (Y : Up G H) (fu : Fine 24 u) (hk : k = .int \/ k = .set \/ bd = none) (h : K (.pd (zbc (zb9 s k bd u))) σ) : H 27 [pv (.str k.w), pv u.d, pv (lotD bd), iv s] σ K E := by
 refine Y 26 _ _ _ _ (Eq.mpr (by kernel_rfl : _ = G 26 [pv u.d] σ (fun w σ => evSs G gc1 (fn27.body.drop 1) [lp (.str k.w), lp u.d, lp (lotD bd), lp (.int s), some (.v w), none, none, none, none, none] σ (retK K) E) E) (st26 X ?_))
 cases bd with
 | none => cases k <;> cases u <;> exact Eq.mpr (by kernel_rfl) h
 | some m =>
  cases k with
  | bool => rcases hk with e | e | e <;> cases e
  | str => rcases hk with e | e | e <;> cases e
  | int =>
   have fu' := fu
   cases fu with
   | num hi => exact (zkh rfl).mpr (zlu (.num hi) X h)
   | tru t => exact (zkh rfl).mpr (zlu (.num (in_b (by decide) t)) X h)
   | _ => exact Eq.mpr (by kernel_rfl) h
  | set =>
   have fu' := fu
   cases fu with
   | set _ _ z => exact kp_set.mpr (zac (zan (by rw [List.length_map]; exact z) (by decide)) (zlu (.set fu') X h))
   | _ => exact Eq.mpr (by kernel_rfl) h
end
noncomputable def It.tell (ρ : Env) : It -> Re Vl
 | .con s _ f => conR s f ρ
 | .none s _ _ n => .bad (n.str ++ zcg) s
 | .decl s k _ bo _ _ f => zcd s k bo f ρ
section
variable {b j c : Nat} {K K' : KV} {E : KE} {σ τ A B C : Hp} {D F G H : zab} {u v : Vl} {s i lo hi : Int} {r : Re Vl} {ρ : Env} {d nd op sd d' : PyData} {f : Env -> Re Vl} {hs : List (Nam × Vl)} {n : Nam} {told part : Option Loc} {p q : Nat} {acc : List PyData} {k : Kn} {m l : List Int} {x : Str}
noncomputable abbrev f28 (it : PyData) (p : Nat) (d : PyData) (t lt : Option Loc) : Fm := [lp it, some (.v (.ref p)), lp d, t, lt, none, none, none, none, none]
noncomputable abbrev cIt (s : Int) (d : PyData) : PyData := .tuple [tCon, .int s, d]
noncomputable abbrev dIt (s : Int) (k : Kn) (bd : PyData) (x : Str) (d : PyData) : PyData := .tuple [zeW, .int s, tyD k bd, .str x, d]
noncomputable abbrev noV (it : PyData) (s : Int) (K : KV) (σ : Hp) : Prop := need (zai σ (.pd it) (.pd (.int 3))) fun z => need (evOp .add z (.pd (.str zcg)) σ) fun d => K (.pd (.tuple [tBad, d, .int s])) σ
theorem it_con : stp G 28 [pv (cIt s d), .v (.ref p)] σ K E = brn (isN d) (noV (cIt s d) s K σ) (G 29 [pv d, .v (.ref p)] σ (fun t σ => evSs G gc1 (fn28.body.drop 3) (f28 (cIt s d) p d (some (.v t)) none) σ (retK K) E) E) := by kernel_rfl
theorem it_decl {bd : PyData} : stp G 28 [pv (dIt s k bd x d), .v (.ref p)] σ K E = brn (isN d) (noV (dIt s k bd x d) s K σ) (G 29 [pv d, .v (.ref p)] σ (fun t σ => evSs G gc1 (fn28.body.drop 3) (f28 (dIt s k bd x d) p d (some (.v t)) none) σ (retK K) E) E) := by kernel_rfl
theorem it_bad {it : PyData} {t : Str} {w : Int} : evSs G gc1 (fn28.body.drop 3) (f28 it p d (lp (badT t w)) none) σ (retK K) E = K (.pd (badT t w)) σ := by kernel_rfl
theorem con_end : evSs G gc1 (fn28.body.drop 3) (f28 (cIt s d) p d (lp (okT v.d)) none) σ (retK K) E = K (.pd (zbc (tru s v (zjo s)))) σ := by
 cases v with
 | tru t => cases t <;> kernel_rfl
 | _ => kernel_rfl
theorem decl_no : evSs G gc1 (fn28.body.drop 3) (f28 (dIt s k .none x d) p d (lp (okT v.d)) none) σ (retK K) E = G 27 [pv (.str k.w), pv v.d, pv .none, iv s] σ K E := by kernel_rfl
theorem decl_bd {bd : PyData} : evSs G gc1 (fn28.body.drop 3) (f28 (dIt s k bd x d) p d (lp (okT v.d)) none) σ (retK K) E = brn (isN bd) (evSs G gc1 (fn28.body.drop 6) (f28 (dIt s k bd x d) p d (lp (okT v.d)) (lp .none)) σ (retK K) E) (G 29 [pv bd, .v (.ref p)] σ (fun t σ => evSs G gc1 (fn28.body.drop 6) (f28 (dIt s k bd x d) p d (lp (okT v.d)) (some (.v t))) σ (retK K) E) E) := by kernel_rfl
theorem bd_bad {bd : PyData} {t : Str} {w : Int} : evSs G gc1 (fn28.body.drop 6) (f28 (dIt s k bd x d) p d (lp (okT v.d)) (lp (badT t w))) σ (retK K) E = K (.pd (badT t w)) σ := by kernel_rfl
theorem bd_set {bd : PyData} : evSs G gc1 (fn28.body.drop 6) (f28 (dIt s k bd x d) p d (lp (okT v.d)) (lp (okT (zam l)))) σ (retK K) E = G 27 [pv (.str k.w), pv v.d, pv (zam l), iv s] σ K E := by kernel_rfl
theorem znQ {bd : PyData} {w : Int} (hs : Sp bd w) (hu : (isS u) = false) (h : K (.pd (badT wSet w)) σ) : evSs G gc1 (fn28.body.drop 6) (f28 (dIt s k bd x d) p d (lp (okT v.d)) (lp (okT u.d))) σ (retK K) E := by
 have go : need (zai σ (.pd bd) (.pd (.int 1))) fun z => need (zaK [.pd tBad, .pd (.str wSet), z]) fun ds => when (ds.length <= sizeLine) (K (.pd (.tuple ds)) σ) := zaa (hs σ) (zaa (a := [tBad, .str wSet, .int w]) rfl (zac (c := [tBad, PyData.str wSet, .int w].length <= sizeLine) (Nat.le_of_ble_eq_true rfl) h))
 cases u with
 | set => cases hu
 | _ => exact Eq.mpr (by kernel_rfl) go
theorem zlc {y : It} (lv : Lv (j + 3) G) (g : GoodI j c y) (hb : b + c <= 24) (fe : FineE b ρ) (ok : HOk b hs ρ) (hl : hs.length + j <= 1000) (h : OutR (y.tell ρ) K A hs B) : G 28 [pv y.d, .v (.ref A.length)] (A ++ lst hs :: B) K E := by
 obtain ⟨H, l1, u1⟩ := lv.dn
 obtain ⟨F, l2, u2⟩ := l1.dn
 obtain ⟨D, l3, u3⟩ := l2.dn
 have l0 := l1.le (Nat.le_add_right j 2)
 refine u1 27 _ _ _ _ ?_
 cases g with
 | @con s d f hs g =>
  refine it_con.mpr (zaO g.nn (g.rd l0 hb fe ok hl fun C => ?_))
  have h : OutR ((f ρ).bind fun u => tru s u (zjo s)) K A _ B := h
  cases e : f ρ with
  | bad t w => rw [e] at h; exact it_bad.mpr (h _)
  | ok v => rw [e] at h; exact con_end.mpr (h _)
 | @none s k bd n hs => cases n <;> exact Eq.mpr (by kernel_rfl) (OutR.here h)
 | @decl s k bd d bo n f hs ob g hk =>
  refine it_decl.mpr (zaO g.nn (g.rd l0 hb fe ok hl fun C => ?_))
  have h : OutR ((f ρ).bind fun u => bndR (bo ρ) fun bd => zb9 s k bd u) K A _ B := h
  have fv := g.fine hb fe
  cases e : f ρ with
  | bad t w => rw [e] at h; exact it_bad.mpr (h _)
  | ok v =>
   rw [e] at h fv
   have fv : Fine 24 v := fv.mono hb
   have h2 : OutR (bndR (bo ρ) fun bd => zb9 s k bd v) K A _ B := h
   clear h
   cases ob with
   | no => exact decl_no.mpr (zhD (bd := none) u3 u2 fv (.inr (.inr rfl)) (h2 _))
   | @yes bd w f' hw g' =>
    refine decl_bd.mpr (zaO g'.good.nn (g'.good.rd l0 hb fe ok hl fun C' => ?_))
    have h : OutR (((f' ρ).bind (lotR w)).bind fun m => zb9 s k (some m) v) K A _ B := h2
    have hk : k = .int \/ k = .set := by
     rcases hk with e | e | e
     ·exact .inl e
     ·exact .inr e
     ·subst e; exact ff g'.good.nn.symm
    rw [List.append_assoc]
    cases e' : f' ρ with
    | bad t z => rw [e'] at h; exact bd_bad.mpr (h _)
    | ok u =>
     rw [e'] at h
     cases u with
     | set l => exact bd_set.mpr (zhD (bd := some l) u3 u2 fv (hk.elim .inl fun q => .inr (.inl q)) (h _))
     | _ => exact znQ g'.sp rfl (h _)
end
set_option backward.match.sparseCases false
noncomputable def bLet : List Mine.Lake.S := thn' fn29.body[3]? 0
noncomputable def bL : List Mine.Lake.S := zkw bLet[1]?
noncomputable def wh (s : Option Mine.Lake.S) : Mine.Lake.X × List Mine.Lake.S := match s with
 | some (.while t b) => (t, b)
 | _ => (.c .none, [])
noncomputable abbrev KL (G : zab) (K : KV) (E : KE) : KS := fun f m' σ' => match f with
 | .next => evSs G gc1 (fn29.body.drop 4) m' σ' (retK K) E
 | f => retK K f m' σ'
noncomputable abbrev KFo (G : zab) (K : KV) (E : KE) : KS := fun f m' σ' => match f with
 | .next => evSs G gc1 (bLet.drop 2) m' σ' (KL G K E) E
 | f => KL G K E f m' σ'
noncomputable abbrev TWf (G : zab) (E : KE) (d : PyData) (m' : Fm) (σ' : Hp) (k : KS) : Prop := need (tgFm m' (.n 7) d) fun m'' => evSs G gc1 bL m'' σ' k E
noncomputable abbrev frL (nd : PyData) (p : Nat) (s mk : Int) (told it : Option Loc) : Fm := [lp nd, some (.v (.ref p)), lp tLet, lp (.int s), none, lp (.int mk), told, it, none, none, none, none, none, none, none, none, none, none]
noncomputable abbrev FLt (G : zab) (nd : PyData) (p : Nat) (s mk : Int) (K : KV) (E : KE) (its : List PyData) (told it : Option Loc) (σ : Hp) : Prop := forN (TWf G E) (fun _ k => k) (KFo G K E) its (frL nd p s mk told it) σ
noncomputable abbrev TKr (G : zab) (K : KV) (E : KE) (its : List PyData) : KS := fun f m' σ' => match f with
 | .ret v => KFo G K E (.ret v) m' σ'
 | _ => forN (TWf G E) (fun _ k => k) (KFo G K E) its m' σ'
noncomputable abbrev WT (G : zab) (E : KE) (m' : Fm) (σ' : Hp) (k : Bool -> Hp -> Prop) : Prop := evX G gc1 m' [] (wh bLet[3]?).1 σ' (fun v σ'' => truth v fun r => k r σ'') E
noncomputable abbrev WB (G : zab) (E : KE) (m' : Fm) (σ' : Hp) (k : KS) : Prop := evSs G gc1 (wh bLet[3]?).2 m' σ' k E
noncomputable abbrev WK (G : zab) (K : KV) (E : KE) : KS := fun f m' σ' => match f with
 | .next => evSs G gc1 (bLet.drop 4) m' σ' (KL G K E) E
 | f => KL G K E f m' σ'
section
variable {b j c : Nat} {K K' : KV} {E : KE} {σ τ A B C : Hp} {D F G H : zab} {u v : Vl} {s i mk : Int} {r : Re Vl} {ρ : Env} {d nd op sd d' i0 bd w x : PyData} {f : Env -> Re Vl} {hs hs0 : List (Nam × Vl)} {n : Nam} {told it : Option Loc} {p q : Nat} {acc its : List PyData} {k : Kn} {m l : List Int} {y : Str}
theorem lt_turn : FLt G nd p s mk K E (x :: its) (lp (okT w)) it σ = G 28 [pv x, .v (.ref p)] σ (fun t σ => evSs G gc1 (bL.drop 1) (frL nd p s mk (some (.v t)) (lp x)) σ (TKr G K E its) E) E := by kernel_rfl
theorem lt_skip {t : Str} {z : Int} : FLt G nd p s mk K E (x :: its) (lp (badT t z)) it σ = FLt G nd p s mk K E its (lp (badT t z)) (lp x) σ := by kernel_rfl
theorem lt_bad {t : Str} {z : Int} : evSs G gc1 (bL.drop 1) (frL nd p s mk (lp (badT t z)) (lp x)) σ (TKr G K E its) E = FLt G nd p s mk K E its (lp (badT t z)) (lp x) σ := by kernel_rfl
theorem lt_con : evSs G gc1 (bL.drop 1) (frL nd p s mk (lp (okT w)) (lp (cIt i d))) σ (TKr G K E its) E = FLt G nd p s mk K E its (lp (okT w)) (lp (cIt i d)) σ := by kernel_rfl
theorem lt_decl : evSs G gc1 (bL.drop 1) (frL nd p s mk (lp (okT w)) (lp (dIt i k bd y d))) σ (TKr G K E its) E = when ((lstR σ (.ref p)).isSome = true) (evLM .append (.ref p) [.pd (.tuple [.str y, w])] σ (fun _ σ => FLt G nd p s mk K E its (lp (okT w)) (lp (dIt i k bd y d)) σ)) := by kernel_rfl
theorem end_ok : FLt G (.tuple [tLet, .int s, i0, bd]) p s mk K E [] (lp (okT w)) it σ = G 29 [pv bd, .v (.ref p)] σ (fun t σ => evSs G gc1 (bLet.drop 3) (frL (.tuple [tLet, .int s, i0, bd]) p s mk (some (.v t)) it) σ (KL G K E) E) E := by kernel_rfl
theorem end_bad {t : Str} {z : Int} : FLt G nd p s mk K E [] (lp (badT t z)) it σ = evSs G gc1 (bLet.drop 3) (frL nd p s mk (lp (badT t z)) it) σ (KL G K E) E := by kernel_rfl
theorem cut_eq {t : PyData} : evSs G gc1 (bLet.drop 3) (frL nd p s mk (lp t) it) σ (KL G K E) E = ∃ n, zbM (WT G E) (WB G E) (WK G K E) n (frL nd p s mk (lp t) it) σ := by kernel_rfl
theorem cut_step {t : PyData} {n : Nat} : zbM (WT G E) (WB G E) (WK G K E) (n + 1) (frL nd p s mk (lp t) it) σ = need (seqT σ (.ref p)) fun l => when (l.length <= sizeLine) (brn (decide ((l.length : Int) > mk)) (when ((lstR σ (.ref p)).isSome = true) (evLM .pop (.ref p) [] σ (fun _ σ => zbM (WT G E) (WB G E) (WK G K E) n (frL nd p s mk (lp t) it) σ))) (K (.pd t) σ)) := by kernel_rfl
theorem zmQ {l : List PyData} (hl : (l ++ [d]).length <= sizeLine) (h : K (.pd d) (A ++ .list l :: B)) : evLM .pop (.ref A.length) [] (A ++ .list (l ++ [d]) :: B) K :=
 zaa (zbn gP') (zaa List.getLast?_concat (zac hl (by show K _ ((A ++ .list (l ++ [d]) :: B).set A.length (.list (l ++ [d]).dropLast)); rw [List.dropLast_concat, setP]; exact h)))
theorem zfb (xs : List (Nam × Vl)) : hsD (hs0 ++ xs) = hsD hs0 ++ hsD xs := List.map_append
theorem zfY {t : PyData} (h : K (.pd t) (A ++ lst hs0 :: B)) : ∀ (n : Nat) (xs : List (Nam × Vl)), xs.length = n -> (hs0 ++ xs).length <= 1000 -> zbM (WT G E) (WB G E) (WK G K E) (n + 1) (frL nd A.length s ((hsD hs0).length : Int) (lp t) it) (A ++ lst (hs0 ++ xs) :: B)
 | 0, xs, e, hl => by
  obtain rfl := List.eq_nil_of_length_eq_zero e
  rw [List.append_nil] at hl ⊢
  exact cut_step.mpr (zaa (zba gP') (zac (zan (by rw [List.length_map]; exact hl) (by decide)) (zaO (decide_eq_false (Int.lt_irrefl _)) h)))
 | n + 1, xs, e, hl => by
  obtain ⟨ys, y, rfl⟩ : ∃ ys y, xs = ys ++ [y] := (List.eq_nil_or_concat xs).elim (fun q => by subst q; cases e) fun ⟨ys, y, q⟩ => ⟨ys, y, by rw [q, List.concat_eq_append]⟩
  have en : ys.length = n := by rw [List.length_append] at e; exact Nat.succ.inj e
  rw [← List.append_assoc, List.length_append] at hl
  have e1 : hsD (hs0 ++ (ys ++ [y])) = hsD (hs0 ++ ys) ++ [PyData.tuple [.str y.1.str, y.2.d]] := by rw [← List.append_assoc, zfb]; rfl
  have e2 : (hsD (hs0 ++ ys) ++ [PyData.tuple [.str y.1.str, y.2.d]]).length = (hsD hs0).length + n + 1 := by rw [List.length_append, zfb, List.length_append, List.length_map (as := ys), en]; rfl
  have hz : (hsD (hs0 ++ ys) ++ [PyData.tuple [.str y.1.str, y.2.d]]).length <= sizeLine := zan (by rw [List.length_append, List.length_map]; exact hl) (by decide)
  show zbM _ _ _ _ _ (A ++ .list (hsD (hs0 ++ (ys ++ [y]))) :: B)
  rw [e1]
  refine cut_step.mpr (zaa (zba gP') (zac hz (zcs (decide_eq_true (by rw [e2]; exact Int.ofNat_lt.mpr (Nat.lt_succ_of_le (Nat.le_add_right _ _)))) (zac zb1 (zmQ hz (zfY h n ys en (Nat.le_of_succ_le hl)))))))
theorem ziq {t : PyData} {xs : List (Nam × Vl)} (hl : (hs0 ++ xs).length <= 1000) (h : K (.pd t) (A ++ lst hs0 :: B)) : evSs G gc1 (bLet.drop 3) (frL nd A.length s ((hsD hs0).length : Int) (lp t) it) (A ++ lst (hs0 ++ xs) :: B) (KL G K E) E := cut_eq.mpr ⟨_, zfY h _ xs rfl hl⟩
theorem zf5 {t : Str} {z : Int} {xs : List (Nam × Vl)} (hl : (hs0 ++ xs).length <= 1000) (h : K (.pd (badT t z)) (A ++ lst hs0 :: B)) : ∀ (its : List PyData) (it : Option Loc), FLt G nd A.length s ((hsD hs0).length : Int) K E its (lp (badT t z)) it (A ++ lst (hs0 ++ xs) :: B)
 | [], it => end_bad.mpr (ziq hl h)
 | x :: r, it => lt_skip.mpr (zf5 hl h r _)
theorem zlI (h : HOk b hs ρ) (n : N3) (fu : Fine b u) : HOk b (hs ++ [(n.nam, u)]) (ρ.put n u) := by
 have app : ∀ (m : Nam) (hs : List (Nam × Vl)), hv m (hs ++ [(n.nam, u)]) = hv m hs ++ (match n.nam.is m with | true => [u] | false => []) := by
  intro m hs
  induction hs with
  | nil => exact (List.append_nil _).trans (List.nil_append _).symm
  | cons p r ih =>
   show (match p.1.is m with | true => [p.2] | false => []) ++ hv m (r ++ [(n.nam, u)]) = (match p.1.is m with | true => [p.2] | false => []) ++ hv m r ++ _
   rw [ih, List.append_assoc]
 refine ⟨fun m => ?_, fun p hp => (List.mem_append.mp hp).elim (h.fine p) fun hp => List.mem_singleton.mp hp ▸ fu⟩
 rw [app]
 have e := h.last m
 cases n <;> cases m <;> first
  | exact List.getLast?_concat
  | exact (congrArg List.getLast? (List.append_nil _)).trans e
theorem HOk.mono {c : Nat} (h : HOk b hs ρ) (q : b <= c) : HOk c hs ρ := ⟨h.last, fun p hp => (h.fine p hp).mono q⟩
theorem zhK {y : It} {t : Str} {z : Int} : (y.tell ρ = .bad t z -> y.run ρ = .bad t z) := fun e => by
 cases y with
 | con s d f => show (conR s f ρ).bind _ = _; rw [show conR s f ρ = .bad t z from e]; rfl
 | none s k bd n => exact (by cases e; rfl)
 | decl s k bd bo n d f => show (zcd s k bo f ρ).bind _ = _; rw [show zcd s k bo f ρ = .bad t z from e]; rfl
end
set_option backward.match.sparseCases true
section
variable {b j c : Nat} {K K' : KV} {E : KE} {σ τ A B C : Hp} {D F G H : zab} {u v : Vl} {s i mk : Int} {r : Re Vl} {ρ : Env} {d nd op sd d' i0 bd w x : PyData} {f g : Env -> Re Vl} {hs hs0 : List (Nam × Vl)} {n : Nam} {told it : Option Loc} {p q : Nat} {acc : List PyData} {k : Kn} {m l : List Int} {y : Str}
theorem ze7 (lv : Lv (j + 3) H) (gb : Good j c bd f) : ∀ (its : List It) (b : Nat) (ρ : Env) (xs : List (Nam × Vl)) (B : Hp) (w : PyData) (it : Option Loc), (∀ x ∈ its, GoodI j c x) -> b + (its.length + 1) * c <= 24 -> FineE b ρ -> HOk b (hs0 ++ xs) ρ -> (hs0 ++ xs).length + its.length + j <= 1000 -> OutR ((itsR its ρ).bind f) K A hs0 B ->
  FLt H (.tuple [tLet, .int s, i0, bd]) A.length s ((hsD hs0).length : Int) K E (its.map It.d) (lp (okT w)) it (A ++ lst (hs0 ++ xs) :: B)
 | [], b, ρ, xs, B, w, it, _, hb, fe, ok, hl, h => end_ok.mpr (gb.rd (lv.le (Nat.le_add_right _ _)) (by rw [List.length_nil, Nat.zero_add, Nat.one_mul] at hb; exact hb) fe ok hl fun C => ziq (Nat.le_trans (Nat.le_add_right _ _) hl) (h C))
 | x :: r, b, ρ, xs, B, w, it, hi, hb, fe, ok, hl, h => by
  obtain ⟨g, hr⟩ := List.forall_mem_cons.mp hi
  obtain ⟨hb1, hb2⟩ := zeV hb
  rw [List.length_cons] at hl
  have h : OutR (((x.run ρ).bind (itsR r)).bind f) K A hs0 B := h
  have hl1 := Nat.le_trans (Nat.add_le_add_right (Nat.le_add_right _ _) j) hl
  refine lt_turn.mpr (zlc lv g hb1 fe ok hl1 fun C => ?_)
  have fin := fun {ρ'} => ze9 g hb1 fe (ρ' := ρ')
  cases e : x.tell ρ with
  | bad t z => rw [zhK e] at h; exact lt_bad.mpr (zf5 (Nat.le_trans (Nat.le_add_right _ _) hl1) (h C) _ _)
  | ok v =>
   have h2 : OutR (((x.run ρ).bind (itsR r)).bind f) K A hs0 (B ++ C) := fun X => by rw [List.append_assoc]; exact h _
   cases g with
   | @con s' d' f' hs' g' =>
    have e1 : (It.con s' d' f').run ρ = .ok ρ := by show (conR s' f' ρ).bind _ = _; rw [show conR s' f' ρ = .ok v from e]; rfl
    rw [e1] at h2
    exact lt_con.mpr (ze7 lv gb r (b + c) ρ xs _ _ _ hr hb2 (fe.mono (Nat.le_add_right _ _)) (ok.mono (Nat.le_add_right _ _)) (Nat.le_trans (Nat.add_le_add_right (Nat.le_succ _) j) hl) h2)
   | none => cases e
   | @decl s' k bd' d' bo n f' hs' ob g' hk =>
    have e1 : (It.decl s' k bd' bo n d' f').run ρ = .ok (ρ.put n v) := by show (zcd s' k bo f' ρ).bind _ = _; rw [show zcd s' k bo f' ρ = .ok v from e]; rfl
    have fd := zdP (k := k) hs' hb1 fe ob g'
    rw [show zcd s' k bo f' ρ = .ok v from e] at fd
    rw [e1] at h2
    refine lt_decl.mpr (zac zb1 (zeN (Nat.lt_of_le_of_lt (show (hsD (hs0 ++ xs)).length <= 1000 by rw [List.length_map]; exact Nat.le_trans (Nat.le_add_right _ _) hl1) (by decide)) ?_))
    have eh : hsD (hs0 ++ xs) ++ [PyData.tuple [.str n.str, v.d]] = hsD (hs0 ++ (xs ++ [(n.nam, v)])) := by rw [← List.append_assoc, zfb (hs0 := hs0 ++ xs)]; rfl
    rw [eh]
    exact ze7 lv gb r (b + c) _ (xs ++ [(n.nam, v)]) _ _ _ hr hb2 ((fe.mono (Nat.le_add_right _ _)).put n fd) (by rw [← List.append_assoc]; exact zlI (ok.mono (Nat.le_add_right _ _)) n fd) (by rw [← List.append_assoc, za7, Nat.add_right_comm (hs0 ++ xs).length 1]; exact hl) h2
theorem zmL (s : Int) {its : List It} (gb : Good j c bd f) (hi : ∀ x ∈ its, GoodI j c x) (hl : its.length <= 3) : RdOk (j + 9) (4 * c) (nLet s its bd) (letR its f) := fun {G} lv {A B hs ρ b K E} hb fe ok hn h => by
 obtain ⟨H, l1, u⟩ := lv.dn
 refine u 28 _ _ _ _ (Eq.mpr (by kernel_rfl : _ = need (seqT (A ++ lst hs :: B) (.ref A.length)) fun l => when (l.length <= sizeLine) (FLt H (nLet s its bd) A.length s (l.length : Int) K E (its.map It.d) (lp (okT (.bool true))) none (A ++ lst hs :: B))) (zaa (zba gP') (zac (zan (m := 1000) (by rw [List.length_map]; exact Nat.le_trans (Nat.le_add_right _ _) hn) (by decide)) ?_)))
 have := ze7 (hs0 := hs) (xs := []) (w := .bool true) (it := none) (s := s) (i0 := .tuple (its.map It.d)) (E := E) (l1.le (Nat.add_le_add_left (by decide) j)) gb its b ρ (B := B) hi (Nat.le_trans (Nat.add_le_add_left (Nat.mul_le_mul_right c (Nat.succ_le_succ hl)) b) hb) fe (by rw [List.append_nil]; exact ok) (by rw [List.append_nil]; exact Nat.le_trans (Nat.add_le_add_right (Nat.add_le_add_left hl _) j) (Nat.le_trans (by rw [Nat.add_assoc, Nat.add_comm 3 j]; exact Nat.add_le_add_left (Nat.add_le_add_left (by decide) j) _) hn)) h
 rw [List.append_nil] at this
 exact this
theorem Good.mono {j' c' : Nat} (g : Good j c d f) (hj : j <= j') (hc : c <= c') : Good j' c' d f := ⟨fun hb fe => (g.fine (Nat.le_trans (Nat.add_le_add_left hc _) hb) fe).mono (Nat.add_le_add_left hc _), fun lv _ _ _ _ _ _ hb fe sc h => g.ev (lv.le hj) (Nat.le_trans (Nat.add_le_add_left hc _) hb) fe sc h, fun lv _ _ _ _ _ _ _ hb fe ok hl h => g.rd (lv.le hj) (Nat.le_trans (Nat.add_le_add_left hc _) hb) fe ok (Nat.le_trans (Nat.add_le_add_left hj _) hl) h, g.nn⟩
theorem zbz (s : Int) (hi : In 3 i) : Good 1 0 (nLit s i) fun _ => .ok (.num i) := zjs s i hi (zmK s i)
theorem zjr (s : Int) (t : Bool) : Good 1 0 (.tuple [zgc, .int s, .bool t]) fun _ => .ok (.tru t) := ⟨fun _ _ => .tru t, znt s t, zmG s t, rfl⟩
theorem zjq (s : Int) (x : Str) (a : PyData.strOk x = true) (z : x.length <= 8) : Good 1 0 (.tuple [tStr, .int s, .str x]) fun _ => .ok (.txt x) := ⟨fun _ _ => .txt a z, zns s x, zmF s x, rfl⟩
theorem zhX (h : 3 <= b) : Fine b (.set S0) := .set (by decide) (fun i hi => by
 have : ∀ i ∈ S0, 0 <= i /\ i < (2 ^ 3 : Nat) := by decide
 exact In.le (this i hi) h) (by decide)
theorem zcU (s : Int) (hs : s.natAbs <= 20000) (n : Nam) : Good 1 0 (.tuple [zbj, .int s, .str n.str]) (look s n) := ⟨fun _ fe => by
 cases n with
 | a => exact fe.fa
 | b => exact fe.fb
 | c => exact fe.fc
 | s => exact zhX fe.h3
 | z => exact ⟨by decide +kernel, Nat.le_of_ble_eq_true rfl, hs⟩, zlV s n, zlb s n, rfl⟩
theorem zoG (hs : s.natAbs <= 20000) : FineR b (ltR s u v) := by
 cases e : ltO u v with
 | some t => rw [show ltR s u v = .ok (.tru t) from congrArg (boR s) e]; exact Fine.tru t
 | none => rw [show ltR s u v = .bad wSet s from congrArg (boR s) e]; exact ⟨by decide +kernel, Nat.le_of_ble_eq_true rfl, hs⟩
theorem zlJ (hs : s.natAbs <= 20000) {l r : PyData} (gl : Good j c l f) (gr : Good j c r g) : Good (j + 7) c (nBin s tLt l r) (fun ρ => (f ρ).bind fun u => (g ρ).bind fun v => ltR s u v) :=
 ⟨fun hb fe => zcV (α := Unit) (gl.fine hb fe) fun u fu => zcV (α := Unit) (gr.fine hb fe) fun v fv => zoG hs, ev_lt s gl gr, zom s gl gr, rfl⟩
theorem zjt (hs : s.natAbs <= 20000) {l r : PyData} (gl : Good j c l f) (gr : Good j c r g) : Good (j + 7) (c + 1) (nBin s tAdd l r) (fun ρ => (f ρ).bind fun u => (g ρ).bind fun v => addR s u v) := by
 refine ⟨fun {b ρ} hb fe => ?_, zny s gl gr, zmM s gl gr, rfl⟩
 have hb := Nat.le_of_succ_le hb
 have h1 := gl.fine hb fe
 have h2 := gr.fine hb fe
 cases e1 : f ρ with
 | bad t z => rw [e1] at h1; exact h1
 | ok u =>
  cases e2 : g ρ with
  | bad t z => rw [e2] at h2; exact h2
  | ok v =>
   rw [e1] at h1
   rw [e2] at h2
   exact zfQ hs fe.h1 h1 fun i hi => zfQ hs fe.h1 h2 fun j hj => Fine.num (zkj hi hj)
theorem zgI {y : It} (g : GoodI j c y) (hb : b + c <= 24) (fe : FineE b ρ) : FineR (b + c) (y.tell ρ) := by
 cases g with
 | con hs g =>
  refine zcV (α := Unit) (g.fine hb fe) fun u fu => zkp hs fun t => ?_
  cases t with
  | true => exact Fine.tru true
  | false => exact ⟨by decide +kernel, Nat.le_of_ble_eq_true rfl, hs⟩
 | @none s k bd n hs => cases n <;> exact ⟨by decide +kernel, Nat.le_of_ble_eq_true rfl, hs⟩
 | decl hs ob g _ => exact zdP hs hb fe ob g
theorem zmD {y : It} {v : Vl} (e : y.tell ρ = .ok v) : ∃ ρ', y.run ρ = .ok ρ' := by
 cases y with
 | con s d f => exact ⟨ρ, by show (conR s f ρ).bind _ = _; rw [show conR s f ρ = .ok v from e]; rfl⟩
 | none => cases e
 | decl s k bd bo n d f => exact ⟨ρ.put n v, by show (zcd s k bo f ρ).bind _ = _; rw [show zcd s k bo f ρ = .ok v from e]; rfl⟩
theorem zfI (gb : Good j c bd f) : ∀ (its : List It) (b : Nat) (ρ : Env), (∀ x ∈ its, GoodI j c x) -> b + (its.length + 1) * c <= 24 -> FineE b ρ -> FineR (b + (its.length + 1) * c) ((itsR its ρ).bind f)
 | [], b, ρ, _, hb, fe => by
  rw [List.length_nil, Nat.zero_add, Nat.one_mul] at hb ⊢
  exact gb.fine hb fe
 | x :: r, b, ρ, hi, hb, fe => by
  obtain ⟨g, hr⟩ := List.forall_mem_cons.mp hi
  obtain ⟨hb1, hb2⟩ := zeV hb
  have e : b + ((x :: r).length + 1) * c = b + c + (r.length + 1) * c := by rw [List.length_cons, Nat.succ_mul (r.length + 1) c, Nat.add_comm _ c, Nat.add_assoc]
  rw [e]
  show FineR _ (((x.run ρ).bind (itsR r)).bind f)
  have ft := zgI g hb1 fe
  cases q : x.tell ρ with
  | bad t z => rw [zhK q]; rw [q] at ft; exact ft
  | ok v =>
   obtain ⟨ρ', e'⟩ := zmD q
   rw [e']
   exact zfI gb r (b + c) ρ' hr hb2 (ze9 g hb1 fe e')
theorem zfO (s : Int) {its : List It} (gb : Good j c bd f) (hi : ∀ x ∈ its, GoodI j c x) (hl : its.length <= 3) : Good (j + 9) (4 * c) (nLet s its bd) (letR its f) := ⟨fun {b ρ} hb fe => (zfI gb its b ρ hi (Nat.le_trans (Nat.add_le_add_left (Nat.mul_le_mul_right c (Nat.succ_le_succ hl)) b) hb) fe).mono (Nat.add_le_add_left (Nat.mul_le_mul_right c (Nat.succ_le_succ hl)) b), znx gb hi hl, zmL s gb hi hl, rfl⟩
end
section
variable {b j c : Nat} {d : PyData} {f : Env -> Re Vl} {s lo hi : Int} {ρ : Env} {us : List Vl} {l : List Int}
theorem zeg {i : Int} : ∀ (l acc : List Int), i ∈ l.foldl step_dedup acc -> i ∈ acc \/ i ∈ l
 | [], acc, h => .inl h
 | k :: r, acc, h => by
  rcases zeg r _ h with h | h
  ·unfold step_dedup at h
   by_cases q : acc.any (· == k) = true
   ·rw [if_pos q] at h; exact .inl h
   ·rw [if_neg q] at h
    rcases List.mem_append.mp h with h | h
    ·exact .inl h
    ·exact .inr (List.mem_singleton.mp h ▸ List.mem_cons_self)
  ·exact .inr (List.mem_cons_of_mem _ h)
theorem zi0 (h : ∀ i ∈ l, In b i) (hl : l.length <= 4) : Fine b (.set (za1 (dedup l))) := by
 have p := zby (dedup l)
 refine .set ?_ (fun i hi => h i ((zeg l [] (p.mem_iff.mp hi)).elim (fun q => nomatch q) id)) (by rw [p.length_eq]; exact Nat.le_trans (zeY hl) (by decide))
 exact ((zbl (dedup l)).and (p.symm.nodup (zaY l [] .nil))).imp fun h => Int.lt_iff_le_and_ne.mpr h
theorem zeE (hs : s.natAbs <= 20000) (h1 : 1 <= b) {k : List Int -> Re Vl} : ∀ (us : List Vl) (k : List Int -> Re Vl), (∀ u ∈ us, Fine b u) -> (∀ l : List Int, l.length = us.length -> (∀ i ∈ l, In b i) -> FineR b (k l)) -> FineR b (zdY s us k)
 | [], k, _, q => q [] rfl fun _ h => nomatch h
 | u :: r, k, h, q => by
  obtain ⟨fu, hr⟩ := List.forall_mem_cons.mp h
  exact zfQ hs h1 fu fun i hi => zeE hs h1 (k := k) r (fun l => k (i :: l)) hr fun l e hl => q (i :: l) (congrArg (· + 1) e) (List.forall_mem_cons.mpr ⟨hi, hl⟩)
theorem zfw (hb : b + c <= 24) (fe : FineE b ρ) : ∀ (ps : List Pt) (k : List Vl -> Re Vl), (∀ p ∈ ps, Good j c p.1 p.2) -> (∀ us, us.length = ps.length -> (∀ u ∈ us, Fine (b + c) u) -> FineR (b + c) (k us)) -> FineR (b + c) (seqR (ps.map (·.2)) ρ k)
 | [], k, _, q => q [] rfl fun _ h => nomatch h
 | p :: r, k, h, q => by
  obtain ⟨g, hr⟩ := List.forall_mem_cons.mp h
  exact zcV (α := Unit) (g.fine hb fe) fun u fu => zfw hb fe r (fun us => k (u :: us)) hr fun us e hu => q (u :: us) (congrArg (· + 1) e) (List.forall_mem_cons.mpr ⟨fu, hu⟩)
theorem zfM (hs : s.natAbs <= 20000) {ps : List Pt} (hp : ∀ p ∈ ps, Good j c p.1 p.2) (hl : ps.length <= 4) : Good (j + 7) c (nSet s ps) (setR s (ps.map (·.2))) :=
 ⟨fun hb fe => zfw hb fe ps _ hp fun us e hu => zeE hs fe.h1 (k := fun l => .ok (.set (za1 (dedup l)))) us _ hu fun l e' hi => zi0 hi (by rw [e', e]; exact hl), znu s hp hl, zmH s hp hl, rfl⟩
theorem zi6 (w : Rg lo hi) : Fine 3 (.set (rI lo hi)) := by
 have h1 := w.lo
 have h2 := w.hi
 refine .set ?_ (fun i hi => ?_) (by rw [zmO]; omega)
 ·unfold rI
  rw [List.pairwise_map]
  exact List.pairwise_lt_range.imp fun h => Int.add_lt_add_left (Int.ofNat_lt.mpr h) lo
 ·have := mem_rI.mp hi
  exact ⟨by omega, Int.lt_of_le_of_lt (show i <= 6 by omega) (by decide)⟩
theorem zfN (s : Int) (w : Rg lo hi) : Good 8 0 (nRng s lo hi) fun _ => .ok (.set (rI lo hi)) := ⟨fun _ fe => (zi6 w).mono (Nat.le_trans fe.h3 (Nat.le_add_right _ _)), znv s w, zmI s w, rfl⟩
theorem GoodB.mono {j' c' : Nat} (g : GoodB j c d s f) (hj : j <= j') (hc : c <= c') : GoodB j' c' d s f := ⟨g.good.mono hj hc, g.sp, fun lv _ _ _ _ _ _ hb fe sc h => g.dm (lv.le (Nat.add_le_add_right hj 4)) (Nat.le_trans (Nat.add_le_add_left hc _) hb) fe sc h⟩
theorem zkn (s : Int) (w : Rg lo hi) : GoodB 8 0 (nRng s lo hi) s fun _ => .ok (.set (rI lo hi)) := ⟨zfN s w, fun _ => rfl, fun lv _ _ _ _ _ _ hb fe sc h => znI s w (lv.le (by decide)) hb fe sc h⟩
theorem zlM (s : Int) (hs : s.natAbs <= 20000) (n : Nam) : GoodB 8 0 (.tuple [zbj, .int s, .str n.str]) s (look s n) := zlL ((zcU s hs n).mono (by decide) (Nat.le_refl _)) (fun _ => rfl) fun _ => ⟨_, rfl, rfl⟩
theorem znj (s : Int) {i : Int} (hi : In 3 i) : GoodB 8 0 (nLit s i) s fun _ => .ok (.num i) := zlL ((zbz s hi).mono (by decide) (Nat.le_refl _)) (fun _ => rfl) fun _ => ⟨_, rfl, rfl⟩
theorem zni (hs : s.natAbs <= 20000) {ps : List Pt} (hp : ∀ p ∈ ps, Good 1 0 p.1 p.2) (hl : ps.length <= 4) : GoodB 8 0 (nSet s ps) s (setR s (ps.map (·.2))) := zlL (zfM hs hp hl) (fun _ => rfl) fun _ => ⟨_, rfl, rfl⟩
end
noncomputable def J : Nat -> Nat
 | 0 => 8
 | d + 1 => J d + 9
noncomputable def cc : Nat -> Nat
 | 0 => 0
 | d + 1 => 4 * cc d + 1
def GN (d : Nat) (D : PyData) : Prop := ∃ f, Good (J d) (cc d) D f
def GB (D : PyData) : Prop := ∃ s f, s.natAbs <= 20000 /\ GoodB 8 0 D s f
theorem J8 : ∀ d, 8 <= J d
 | 0 => Nat.le_refl 8
 | d + 1 => Nat.le_trans (J8 d) (Nat.le_add_right _ _)
theorem zhS {d : Nat} {D : PyData} {f : Env -> Re Vl} (g : Good 8 0 D f) : GN d D := ⟨f, g.mono (J8 d) (Nat.zero_le _)⟩
noncomputable def sk (cs : List Int) (k sp ba : Int) : O := .dict [(⟨#[99,101,108,108,115]⟩, .pd (.list (cs.map .int))), (⟨#[107]⟩, .pd (.int k)), (⟨#[115,112,111,116]⟩, .pd (.int sp)), (⟨#[98,97,115,101]⟩, .pd (.int ba))]
noncomputable abbrev r0 : Loc := .v (.ref 0)
structure Bd (cs : List Int) (k sp : Int) (b : Nat) : Prop where
 c : cs.length <= 60
 k0 : 0 <= k
 kb : k + b <= 20000
 s0 : 0 <= sp
 sb : sp + b <= 20000
section
variable {cs : List Int} {k sp ba : Int} {b c : Nat} {τ : Hp} {K : KV} {E : KE} {G H : zab}
theorem leD {n : Int} {b c : Nat} (q : b <= c) (h : n + c <= 20000) : n + b <= 20000 := Int.le_trans (Int.add_le_add_left (Int.ofNat_le.mpr q) n) h
theorem leS {n : Int} {b : Nat} (h : n + (b + 1 : Nat) <= 20000) : n + 1 + b <= 20000 := by rw [Int.add_right_comm, Int.add_assoc]; exact h
theorem Bd.draw (h : Bd cs k sp (b + 1)) : Bd cs (k + 1) sp b := ⟨h.c, Int.le_add_one h.k0, leS h.kb, h.s0, leD (Nat.le_succ b) h.sb⟩
theorem Bd.spot (h : Bd cs k sp (b + 1)) : Bd cs k (sp + 1) b := ⟨h.c, h.k0, leD (Nat.le_succ b) h.kb, Int.le_add_one h.s0, leS h.sb⟩
theorem Bd.le (h : Bd cs k sp c) (q : b <= c) : Bd cs k sp b := ⟨h.c, h.k0, leD q h.kb, h.s0, leD q h.sb⟩
theorem Bd.sp6 (h : Bd cs k sp b) : sp.natAbs <= 20000 := by
 have q := h.sb
 obtain ⟨n, rfl⟩ := Int.eq_ofNat_of_zero_le h.s0
 exact Int.ofNat_le.mp (Int.le_trans (Int.le_add_of_nonneg_right (Int.natCast_nonneg b)) q)
theorem zhJ {σ : Hp} {l : List PyData} {j : Int} {w : PyData} (h0 : 0 <= j) (h1 : j < l.length) (hl : l.length <= sizeLine) (e : l[j.toNat]? = some w) : zai σ (.pd (.list l)) (.pd (.int j)) = some (.pd w) := by
 have : idx l j = some w := by
  unfold idx
  rw [if_pos ⟨Int.le_trans (Int.neg_nonpos_of_nonneg (Int.natCast_nonneg _)) h0, h1, hl⟩, if_neg (Int.not_lt.mpr h0), e]
 exact congrArg (fun o => alt (Option.map V.pd o) _) this
theorem ziI {σ : Hp} (h0 : 0 <= k) (h1 : k < (cs.map PyData.int).length) (hl : cs.length <= 60) : ∃ c, zai σ (.pd (.list (cs.map .int))) (.pd (.int k)) = some (.pd (.int c)) := by
 have hj : k.toNat < cs.length := (Int.toNat_lt h0).mpr (List.length_map PyData.int ▸ h1)
 exact ⟨cs[k.toNat], zhJ h0 h1 (zan (m := 60) (by rw [List.length_map]; exact hl) (by decide)) (by rw [List.getElem?_map, List.getElem?_eq_getElem hj]; rfl)⟩
theorem draw (X : Up G H) {many : Int} (hm : 0 < many) (q : Bd cs k sp (b + 1)) (h : ∀ r, 0 <= r -> r < many -> Bd cs (k + 1) sp b -> K (.pd (.int r)) (sk cs (k + 1) sp ba :: τ)) : H 19 [r0, iv many] (sk cs k sp ba :: τ) K E := by
 have hl : (cs.map PyData.int).length <= sizeLine := zan (m := 60) (by rw [List.length_map]; exact q.c) (by decide)
 have fin : ∀ i : Int, K (.pd (.int (Int.emod i many))) (sk cs (k + 1) sp ba :: τ) := fun i => h _ (Int.emod_nonneg _ (Int.ne_of_gt hm)) (Int.emod_lt_of_pos _ hm) q.draw
 have md : ∀ i : Int, modP (.int i) (.int many) = some (.int (Int.emod i many)) := fun i => gd_i hm
 refine X 18 _ _ _ _ (Eq.mpr (by kernel_rfl : _ = when ((cs.map PyData.int).length <= sizeLine) (brn (decide (k < (cs.map PyData.int).length)) (need (zai (sk cs (k + 1) sp ba :: τ) (.pd (.list (cs.map .int))) (.pd (.int k))) fun z => need (evOp .mod z (.pd (.int many)) (sk cs (k + 1) sp ba :: τ)) fun d => K (.pd d) (sk cs (k + 1) sp ba :: τ))
  (need (mulP (.int (5 * k)) (.int k)) fun a => need (addP a (.int (3 * k))) fun b => when ((cs.map PyData.int).length <= sizeLine) (need (addP b (.int (4 * (cs.map PyData.int).length))) fun c => need (addP c (.int 2)) fun d => need (modP d (.int 89)) fun e => need (modP e (.int many)) fun f => K (.pd f) (sk cs (k + 1) sp ba :: τ))))) (zac hl ?_))
 cases e : decide (k < (cs.map PyData.int).length) with
 | true =>
  obtain ⟨c, hc⟩ := ziI (σ := sk cs (k + 1) sp ba :: τ) q.k0 (of_decide_eq_true e) q.c
  exact zaa hc (zaa (md c) (fin c))
 | false =>
  have := q.k0
  have := q.kb
  exact zaa (gd_i (by omega)) (zaa rfl (zac hl (zaa rfl (zaa rfl (zaa rfl (zaa (md _) (fin _)))))))
theorem spot (X : Up G H) (q : Bd cs k sp (b + 1)) (h : Bd cs k (sp + 1) b -> K (.pd (.int (sp + 1))) (sk cs k (sp + 1) ba :: τ)) : H 20 [r0] (sk cs k sp ba :: τ) K E := X 19 _ _ _ _ (Eq.mpr (by kernel_rfl) (h q.spot))
end
set_option backward.match.sparseCases false
noncomputable def Kn.is : Kn -> Kn -> Bool
 | .int, .int => true | .bool, .bool => true | .str, .str => true | .set, .set => true | _, _ => false
noncomputable abbrev kv (q : Kn) : Loc := .v (.pd (.str q.w))
noncomputable abbrev nlD (l : List (Nam × Kn)) : List PyData := l.map fun p => .tuple [.str p.1.str, .str p.2.w]
noncomputable def pk (q : Kn) : List (Nam × Kn) -> List Nam
 | [] => []
 | p :: r => (match p.2.is q with | true => [p.1] | false => []) ++ pk q r
noncomputable abbrev nmD (ms : List Nam) : List PyData := ms.map fun n => .str n.str
inductive NmAt (τ : Hp) : V -> List (Nam × Kn) -> Prop
 | pd (l : List (Nam × Kn)) : NmAt τ (.pd (.list (nlD l))) l
 | ref {i : Nat} {l : List (Nam × Kn)} : τ[i]? = some (.list (nlD l)) -> NmAt τ (.ref (i + 1)) l
inductive Lf (s : Int) : Kn -> PyData -> Prop
 | name (q : Kn) (n : Nam) : Lf s q (.tuple [zbj, .int s, .str n.str])
 | num {i : Int} : In 3 i -> Lf s .int (nLit s i)
 | tru (t : Bool) : Lf s .bool (.tuple [zgc, .int s, .bool t])
 | txt : Lf s .str (.tuple [tStr, .int s, .str (⟨#[119]⟩ ++ iStr s)])
 | rng {lo hi : Int} : Rg lo hi -> Lf s .set (nRng s lo hi)
noncomputable abbrev TLf (G : zab) (m : Fm) (E : KE) (d : PyData) (σ : Hp) (k : List PyData -> Hp -> Prop) : Prop := need (tgFm mc0 (.t [.n 1, .n 2]) d) fun mc' => evC G gc1 m mc' (some (.op .eq (.w 2) (.v 1))) σ (fun r σ3 => brn r (evX G gc1 m mc' (.w 1) σ3 (fun v σ4 => need (pdV v) fun d' => k [d'] σ4) E) (k [] σ3)) E
noncomputable abbrev f21 (q : Kn) (N : V) (s : Int) (a b : Option Loc) : Fm := [some r0, some (kv q), some (.v N), some (iv s), a, b, none, none, none]
section
variable {cs : List Int} {k sp ba s : Int} {b c : Nat} {τ σ τ' : Hp} {K : KV} {E : KE} {F G H : zab} {N : V} {l : List (Nam × Kn)} {q : Kn} {D : PyData} {acc : List PyData} {d : Nat} {ms : List Nam} {r : Int}
theorem Lf.gn (h : Lf s q D) (hs : s.natAbs <= 20000) (h0 : 0 <= s) : GN d D := by
 cases h with
 | name q n => exact zhS ((zcU s hs n).mono (by decide) (Nat.le_refl _))
 | num hi => exact zhS ((zbz s hi).mono (by decide) (Nat.le_refl _))
 | tru t => exact zhS ((zjr s t).mono (by decide) (Nat.le_refl _))
 | txt =>
  have l5 : (iStr s).length <= 5 := toString_length_le h0 (by decide) (by omega)
  exact zhS ((zjq s (⟨#[119]⟩ ++ iStr s) (zaI (by decide +kernel) (zbx _)) (by rw [zaC]; exact Nat.le_trans (Nat.add_le_add_left l5 1) (by decide))).mono (by decide) (Nat.le_refl _))
 | rng w => exact zhS (zfN s w)
theorem Lf.gb (h : Lf s q D) (hs : s.natAbs <= 20000) (hq : q = .int \/ q = .set) : GB D := by
 cases h with
 | name q n => exact ⟨s, _, hs, zlM s hs n⟩
 | num hi => exact ⟨s, _, hs, znj s hi⟩
 | rng w => exact ⟨s, _, hs, zkn s w⟩
 | _ => rcases hq with e | e <;> cases e
theorem Lf.g1 (h : Lf s .int D) (hs : s.natAbs <= 20000) : ∃ f, Good 1 0 D f := by
 cases h with
 | name q n => exact ⟨_, zcU s hs n⟩
 | num hi => exact ⟨_, zbz s hi⟩
theorem zod (p q : Kn) : sb p.w q.w = p.is q := by cases p <;> cases q <;> rfl
theorem zde {P : Prop} (h : P) : still σ σ N P := by cases N <;> first | exact h | exact ⟨rfl, h⟩
theorem NmAt.seq (h : NmAt τ N l) {o : O} : seqT (o :: τ) N = some (nlD l) := by
 cases h with
 | pd => rfl
 | ref e => exact zba (σ := o :: τ) (by rw [List.getElem?_cons_succ]; exact e)
theorem NmAt.items (h : NmAt τ N l) {o : O} : zaj (o :: τ) N = some (nlD l) := by
 show alt (seqT (o :: τ) N) _ = _
 rw [h.seq]; rfl
theorem NmAt.ext (h : NmAt τ N l) : NmAt (τ ++ τ') N l := by
 cases h with
 | pd => exact .pd l
 | ref e => exact .ref (zhU e)
theorem nls {KK : List PyData -> Hp -> Prop} : ∀ (l : List (Nam × Kn)) (acc : List PyData), acc.length + l.length <= sizeLine -> KK (acc ++ nmD (pk q l)) σ -> zat (TLf G (f21 q N s none none) E) (fun σ' k => still σ σ' N k) KK (nlD l) acc σ
 | [], acc, _, h => by rwa [show nmD (pk q []) = [] from rfl, List.append_nil] at h
 | p :: r, acc, hl, h => by
  refine zbK (Nat.le_trans (Nat.le_add_right _ _) hl) (Eq.mpr (by kernel_rfl : _ = brn (sb p.2.w q.w) (still σ σ N (zat (TLf G (f21 q N s none none) E) (fun σ' k => still σ σ' N k) KK (nlD r) (acc ++ [.str p.1.str]) σ)) (still σ σ N (zat (TLf G (f21 q N s none none) E) (fun σ' k => still σ σ' N k) KK (nlD r) (acc ++ []) σ))) ?_)
  rw [zod]
  have h : KK (acc ++ nmD ((match p.2.is q with | true => [p.1] | false => []) ++ pk q r)) σ := h
  cases e : p.2.is q with
  | true => rw [e] at h; exact zde (nls r _ (acc1 hl) (by rw [app1]; exact h))
  | false => rw [e] at h; exact zde (nls r _ (by rw [List.append_nil]; exact Nat.le_trans (Nat.add_le_add_left (Nat.le_succ _) _) hl) (by rw [List.append_nil]; exact h))
theorem zj6 (q : Kn) : ∀ l : List (Nam × Kn), (pk q l).length <= l.length
 | [] => Nat.le_refl _
 | p :: r => by
  have := zj6 q r
  show ((match p.2.is q with | true => [p.1] | false => []) ++ pk q r).length <= r.length + 1
  rw [List.length_append]
  cases p.2.is q with
  | true => show 1 + _ <= _; omega
  | false => show 0 + _ <= _; omega
theorem zhC : ∀ ms : List Nam, PyData.canLayAll0 (nmD ms) = true /\ PyData.depthAll (nmD ms) <= 1
 | [] => ⟨rfl, Nat.zero_le _⟩
 | n :: r => by
  obtain ⟨h1, h2⟩ := zhC r
  exact ⟨Bool.and_eq_true_iff.mpr ⟨by cases n <;> decide +kernel, h1⟩, Nat.max_le.mpr ⟨Nat.zero_le _, h2⟩⟩
noncomputable abbrev NMP (G : zab) (ds : List PyData) (s : Int) (K : KV) (E : KE) (σ : Hp) : Prop := when (ds.length <= sizeLine) (G 19 [r0, .v (.pd (.int ds.length))] σ (fun i σ => need (zai σ (.pd (.list ds)) i) fun z => need (zaK [.pd zbj, .pd (.int s), z]) fun ds => when (ds.length <= sizeLine) (K (.pd (.tuple ds)) σ)) E)
noncomputable def LFP (G : zab) (r s : Int) (K : KV) (E : KE) (σ : Hp) : Kn -> Prop
 | .int => G 19 [r0, iv 6] σ (fun i σ => need (zaK [.pd tInt, .pd (.int s), i]) fun ds => when (ds.length <= sizeLine) (K (.pd (.tuple ds)) σ)) E
 | .bool => K (.pd (.tuple [zgc, .int s, .bool (!(r == 8))])) σ
 | .str => when (s.natAbs.log2 < 1920) (need (evOp .add (.pd (.str ⟨#[119]⟩)) (.pd (.str (iStr s))) σ) fun d => K (.pd (.tuple [tStr, .int s, d])) σ)
 | .set => G 19 [r0, iv 3] σ (fun a σ => need (zaK [.pd tInt, .pd (.int s), a]) fun ds => when (ds.length <= sizeLine) (G 19 [r0, iv 3] σ (fun c σ => need (evOp .add (.pd (.int 1)) c σ) fun d => K (.pd (.tuple [za9, .int s, .tuple ds, nLitD s d])) σ) E)) E
where nLitD (s : Int) (d : PyData) : PyData := .tuple [tInt, .int s, d]
theorem lf_seg {ds : List PyData} : evSs G gc1 (fn21.body.drop 1) (f21 q N s (some (iv r)) (some (pv (.list ds)))) σ (retK K) E = brn (r == 9) (K (.pd (.tuple [zbj, .int s, .str Nam.z.str])) σ) (brn (decide (r < 4)) (need (evOp .ne (.pd (.list ds)) (.pd (.list [])) σ) fun d => truth (.pd d) fun t => brn t (NMP G ds s K E σ) (LFP G r s K E σ q)) (brn (decide (r < 4)) (NMP G ds s K E σ) (LFP G r s K E σ q))) := by
 cases q <;> kernel_rfl
theorem lf_eq : stp G 21 [r0, kv q, .v N, iv s] σ K E = G 19 [r0, iv 10] σ (fun r σ => need (zaj σ N) fun l => zat (TLf G (f21 q N s none none) E) (fun σ' k => still σ σ' N k) (fun ds σ' => when (ds.length <= sizeLine) (evSs G gc1 (fn21.body.drop 1) (f21 q N s (some (.v r)) (some (pv (.list ds)))) σ' (retK K) E)) l [] σ) E := by kernel_rfl
theorem leaf (X : Up F G) (Y : Up G H) (hs : s.natAbs <= 20000) (h0 : 0 <= s) (n : NmAt τ N l) (hl : l.length <= 100) (B : Bd cs k sp (b + 3)) (h : ∀ D k, Lf s q D -> Bd cs k sp b -> K (.pd D) (sk cs k sp ba :: τ)) : H 21 [r0, kv q, .v N, iv s] (sk cs k sp ba :: τ) K E := by
 refine Y 20 _ _ _ _ (lf_eq.mpr (draw X (by decide) B fun r r1 r2 B => zaa n.items (nls l [] (zan (m := 100) (by rw [List.length_nil, Nat.zero_add]; exact hl) (by decide)) ?_)))
 have pl := Nat.le_trans (zj6 q l) hl
 have zl : (nmD (pk q l)).length <= sizeLine := zan (m := 100) (by rw [List.length_map]; exact pl) (by decide)
 rw [List.nil_append]
 refine zac zl (lf_seg.mpr ?_)
 have lf : ∀ {k}, Bd cs k sp (b + 2) -> LFP G r s K E (sk cs k sp ba :: τ) q := fun {k} B => by
  cases q with
  | int => exact draw X (by decide) B fun i i0 i1 B => h _ _ (.num ⟨i0, Int.lt_trans i1 (by decide)⟩) (B.le (Nat.le_succ b))
  | bool => exact h _ _ (.tru _) (B.le (Nat.le_add_right b 2))
  | str =>
   have l5 : (iStr s).length <= 5 := toString_length_le h0 (by decide) (by omega)
   exact zac (zcN (Nat.lt_of_le_of_lt hs (by decide))) (zaa (zbG (zan (Nat.add_le_add_left l5 1) (by decide))) (h _ _ .txt (B.le (Nat.le_add_right b 2))))
  | set => exact draw X (by decide) B fun i i0 i1 B => draw X (by decide) B fun j j0 j1 B => h _ _ (.rng (lo := i) (hi := 1 + j) ⟨⟨i0, by omega⟩, by omega, by omega⟩) B
 refine zbg (h _ _ (.name q .z) (B.le (Nat.le_add_right b 2))) (zdc (fun _ => zaa (zhw (zhC _)) (zaa rfl (zdc (fun e => zac zl ?_) fun _ => lf B))) fun e => zaO e (lf B))
 have pos : (0 : Int) < ((nmD (pk q l)).length : Int) := by
  cases hq : pk q l with
  | nil => rw [hq] at e; cases e
  | cons x y => rw [List.length_map, List.length_cons]; omega
 refine draw X pos B fun i i0 i1 B => ?_
 have hj : i.toNat < (pk q l).length := by rw [List.length_map] at i1; omega
 exact zaa (zhJ (w := .str ((pk q l)[i.toNat]).str) i0 i1 zl (by rw [List.getElem?_map, List.getElem?_eq_getElem hj]; rfl)) (h _ _ (.name q _) (B.le (Nat.le_succ b)))
end
set_option backward.match.sparseCases true
section
variable {cs : List Int} {k sp ba s : Int} {b c : Nat} {τ σ τ' : Hp} {K : KV} {E : KE} {D F G H : zab} {N : V} {l : List (Nam × Kn)} {q : Kn} {acc : List PyData} {d : Nat} {r : Int}
theorem bd_eq : stp G 22 [r0, .v N] σ K E = G 19 [r0, iv 5] σ (fun r σ => G 20 [r0] σ (fun s σ => evSs G gc1 (fn22.body.drop 1) [some r0, some (.v N), some (.v r), some (.v s), none, none, none, none] σ (retK K) E) E) E := by kernel_rfl
theorem bd_seg : evSs G gc1 (fn22.body.drop 1) [some r0, some (.v N), some (iv r), some (iv s), none, none, none, none] σ (retK K) E = brn (decide (r < 3))
  (G 19 [r0, iv 2] σ (fun a σ => need (zaK [.pd tInt, .pd (.int s), a]) fun ds => when (ds.length <= sizeLine) (G 19 [r0, iv 4] σ (fun c σ => need (evOp .add (.pd (.int 3)) c σ) fun d => K (.pd (.tuple [za9, .int s, .tuple ds, .tuple [tInt, .int s, d]])) σ) E)) E)
  (brn (r == 3) (G 20 [r0] σ (fun w σ => G 21 [r0, kv .int, .v N, .v w] σ (fun u σ => need (zaK [.pd (nLit s 0), u, .pd (nLit s 3), .pd (nLit s 1)]) fun ds => when (ds.length <= sizeLine) (K (.pd (.tuple [tSet, .int s, .tuple ds])) σ)) E) E)
   (G 19 [r0, iv 3] σ (fun i σ => need (zai σ (.pd (.tuple [tSet, tSet, tInt])) i) fun z => G 21 [r0, .v z, .v N, iv s] σ K E) E)) := by kernel_rfl
theorem in3 {i : Int} (h0 : 0 <= i) (h1 : i <= 7) : In 3 i := ⟨h0, Int.lt_of_le_of_lt h1 (by decide)⟩
theorem three {r : Int} (h0 : 0 <= r) (h1 : r < 3) : r = 0 \/ r = 1 \/ r = 2 := by
 obtain ⟨n, rfl⟩ := Int.eq_ofNat_of_zero_le h0
 exact (show ∀ n : Nat, n < 3 -> (n : Int) = 0 \/ (n : Int) = 1 \/ (n : Int) = 2 by decide) n (Int.ofNat_lt.mp h1)
theorem bound (X0 : Up D F) (X : Up F G) (Y : Up G H) (n : NmAt τ N l) (hl : l.length <= 100) (B : Bd cs k sp (b + 8)) (h : ∀ D k sp, GB D -> Bd cs k sp b -> K (.pd D) (sk cs k sp ba :: τ)) : H 22 [r0, .v N] (sk cs k sp ba :: τ) K E := by
 refine Y 21 _ _ _ _ (bd_eq.mpr (draw X (by decide) B fun r r1 r2 B => spot X B fun B => bd_seg.mpr (zdc (fun _ => ?_) fun _ => zdc (fun _ => ?_) fun _ => ?_)))
 ·refine draw X (by decide) B fun i i0 i1 B => draw X (by decide) B fun j j0 j1 B => ?_
  exact h _ _ _ ⟨_, _, B.sp6, zkn (sp + 1) (lo := i) (hi := 3 + j) ⟨⟨i0, by omega⟩, by omega, by omega⟩⟩ (B.le (Nat.le_add_right b 4))
 ·have hs := B.sp6
  refine spot X B fun B => leaf X0 X B.sp6 B.s0 n hl (b := b + 2) B fun D k lf B => ?_
  obtain ⟨f, g⟩ := lf.g1 (Nat.le_trans (Nat.le_refl _) (B.le (Nat.le_refl _)).sp6)
  refine zaa (a := [nLit (sp + 1) 0, D, nLit (sp + 1) 3, nLit (sp + 1) 1]) rfl (zac (c := [nLit (sp + 1) 0, D, nLit (sp + 1) 3, nLit (sp + 1) 1].length <= sizeLine) (Nat.le_of_ble_eq_true rfl) ?_)
  exact h _ _ _ ⟨sp + 1, _, hs, zni (s := sp + 1) hs (ps := [(nLit (sp + 1) 0, _), (D, f), (nLit (sp + 1) 3, _), (nLit (sp + 1) 1, _)])
   (List.forall_mem_cons.mpr ⟨zbz _ (in3 (by decide) (by decide)), List.forall_mem_cons.mpr ⟨g, zcB (zbz _ (in3 (by decide) (by decide))) (zbz _ (in3 (by decide) (by decide)))⟩⟩) (Nat.le_refl 4)⟩ (B.le (Nat.le_add_right b 2))
 ·refine draw X (by decide) B fun i i0 i1 B => ?_
  have go : ∀ q : Kn, q = .int \/ q = .set -> G 21 [r0, kv q, .v N, iv (sp + 1)] (sk cs (k + 1 + 1) (sp + 1) ba :: τ) K E := fun q hq => leaf X0 X B.sp6 B.s0 n hl (b := b + 2) B fun D k lf B => h _ _ _ (lf.gb B.sp6 hq) (B.le (Nat.le_add_right b 2))
  obtain rfl | rfl | rfl := three i0 i1
  ·exact zaa rfl (go .set (.inr rfl))
  ·exact zaa rfl (go .set (.inr rfl))
  ·exact zaa rfl (go .int (.inl rfl))
end
noncomputable abbrev TN (C : Nat -> Nat) (b : Nat) : Nat := C b + 16
noncomputable abbrev LT (C : Nat -> Nat) (b : Nat) : Nat := TN C (TN C (TN C (C b))) + 1
noncomputable def Cb : Nat -> Nat -> Nat
 | 0, b => b + 8
 | d + 1, b => LT (Cb d) b + 8
theorem zfp : ∀ {d b : Nat}, b <= Cb d b
 | 0, b => Nat.le_add_right _ _
 | d + 1, b => Nat.le_trans (Nat.le_trans zfp (Nat.le_trans (Nat.le_trans zfp (Nat.le_add_right _ 16)) (Nat.le_trans (Nat.le_trans zfp (Nat.le_add_right _ 16)) (Nat.le_trans zfp (Nat.le_add_right _ 16))))) (Nat.le_add_right _ 9)
theorem zc6 : ∀ {d b c : Nat}, b <= c -> Cb d b <= Cb d c
 | 0, _, _, h => Nat.add_le_add_right h _
 | d + 1, _, _, h => Nat.add_le_add_right (zc6 (Nat.add_le_add_right (zc6 (Nat.add_le_add_right (zc6 (zc6 h)) 16)) 16)) 25
noncomputable def Dr (cs : List Int) (d b : Nat) (ba : Int) (τ : Hp) (K : KV) : Prop := ∀ D k sp τ', GN d D -> Bd cs k sp b -> K (.pd D) (sk cs k sp ba :: (τ ++ τ'))
noncomputable def NodeG (cs : List Int) (d : Nat) (e : Int) (G : zab) : Prop := ∀ {q N l k sp ba b τ K E}, NmAt τ N l -> l.length + 4 * d <= 60 -> Bd cs k sp (Cb d b) -> Dr cs d b ba τ K -> G 24 [r0, kv q, .v N, iv e] (sk cs k sp ba :: τ) K E
noncomputable def b23 : List Mine.Lake.S := zkw fn23.body[1]?
noncomputable abbrev ref (p : Nat) : Option Loc := some (.v (.ref p))
noncomputable abbrev f23 (q : Kn) (N : V) (e s : Int) (p : Nat) (a b c d f g : Option Loc) : Fm := [some r0, some (kv q), some (.v N), some (iv e), some (iv s), ref p, ref (p + 1), a, b, c, d, f, g, none, none, none, none, none, none, none, none]
section
variable {cs : List Int} {k sp ba s e h r : Int} {b d p : Nat} {τ σ τ' T J : Hp} {K : KV} {E : KE} {C D F G H : zab} {N : V} {l : List (Nam × Kn)} {q : Kn} {KN : KS} {la lh lb lc ld lf : Option Loc} {w : Kn} {n : N3} {bd vd : PyData}
theorem t_a : evSs G gc1 b23 (f23 q N e s p la lh lb lc ld lf) σ KN E = G 20 [r0] σ (fun h σ => G 19 [r0, iv 3] σ (fun r σ => need (evOp .eq r (.pd (.int 2)) σ) fun x => truth (.pd x) fun t => brn t
  (when ((lstR σ (.ref p)).isSome = true) (G 24 [r0, kv .bool, .v (.ref (p + 1)), iv (e - 1)] σ (fun c σ => need (zaK [.pd tCon, h, c]) fun ds => when (ds.length <= sizeLine) (evLM .append (.ref p) [.pd (.tuple ds)] σ (fun _ σ => KN .cont (f23 q N e s p la (some (.v h)) lb lc ld lf) σ))) E))
  (evSs G gc1 (b23.drop 2) (f23 q N e s p la (some (.v h)) lb lc ld lf) σ KN E)) E) E := by kernel_rfl
theorem t_b : evSs G gc1 (b23.drop 2) (f23 q N e s p la lh lb lc ld lf) σ KN E = G 19 [r0, iv 4] σ (fun i σ => need (zai σ (.pd (gc1 2)) i) fun z => evSs G gc1 (b23.drop 3) (f23 q N e s p la lh (some (.v z)) (lp .none) ld lf) σ KN E) E := by kernel_rfl
noncomputable abbrev P4 (G : zab) (q : Kn) (N : V) (e s : Int) (p : Nat) (la lh : Option Loc) (w : Kn) (bd : V) (ld lf : Option Loc) (KN : KS) (E : KE) (σ : Hp) : Prop := evSs G gc1 (b23.drop 4) (f23 q N e s p la lh (some (kv w)) (some (.v bd)) ld lf) σ KN E
noncomputable abbrev Pb (G : zab) (q : Kn) (N : V) (e s : Int) (p : Nat) (la lh : Option Loc) (w : Kn) (ld lf : Option Loc) (KN : KS) (E : KE) (σ : Hp) : Prop := G 22 [r0, .v (.ref (p + 1))] σ (fun v σ => P4 G q N e s p la lh w v ld lf KN E σ) E
theorem t_c1 (hw : w = .int \/ w = .set) : evSs G gc1 (b23.drop 3) (f23 q N e s p la lh (some (kv w)) (lp .none) ld lf) σ KN E = G 19 [r0, iv 2] σ (fun r σ => need (evOp .eq r (.pd (.int 0)) σ) fun x => truth (.pd x) fun t => brn t (Pb G q N e s p la lh w ld lf KN E σ) (truth (.pd x) fun t => brn t (Pb G q N e s p la lh w ld lf KN E σ) (P4 G q N e s p la lh w (.pd .none) ld lf KN E σ))) E := by
 rcases hw with rfl | rfl <;> kernel_rfl
theorem t_c2 (hw : w = .bool \/ w = .str) : evSs G gc1 (b23.drop 3) (f23 q N e s p la lh (some (kv w)) (lp .none) ld lf) σ KN E = G 19 [r0, iv 2] σ (fun r σ => need (evOp .eq r (.pd (.int 0)) σ) fun x => truth (.pd x) fun t => brn t (P4 G q N e s p la lh w (.pd .none) ld lf KN E σ) (truth (.pd x) fun t => brn t (Pb G q N e s p la lh w ld lf KN E σ) (P4 G q N e s p la lh w (.pd .none) ld lf KN E σ))) E := by
 rcases hw with rfl | rfl <;> kernel_rfl
noncomputable abbrev P6 (G : zab) (q : Kn) (N : V) (e s : Int) (p : Nat) (la lh : Option Loc) (w : Kn) (bd : V) (x v : V) (KN : KS) (E : KE) (σ : Hp) : Prop := evSs G gc1 (b23.drop 6) (f23 q N e s p la lh (some (kv w)) (some (.v bd)) (some (.v x)) (some (.v v))) σ KN E
theorem t_d {bv : V} : P4 G q N e s p la lh w bv ld lf KN E σ = G 19 [r0, iv 3] σ (fun i σ => need (zai σ (.pd (.tuple [.str N3.a.str, .str N3.b.str, .str N3.c.str])) i) fun x => G 19 [r0, iv 16] σ (fun r σ => need (evOp .lt r (.pd (.int 15)) σ) fun y => truth (.pd y) fun t => brn t
  (G 24 [r0, kv w, .v (.ref (p + 1)), iv (e - 1)] σ (fun v σ => P6 G q N e s p la lh w bv x v KN E σ) E) (P6 G q N e s p la lh w bv x (.pd .none) KN E σ)) E) E := by kernel_rfl
theorem t_e {x : Str} : P6 G q N e s p la (some (iv h)) w (.pd bd) (.pd (.str x)) (.pd vd) KN E σ = when ((lstR σ (.ref p)).isSome = true) (evLM .append (.ref p) [.pd (dIt h w bd x vd)] σ (fun _ σ => when ((lstR σ (.ref (p + 1))).isSome = true) (evLM .append (.ref (p + 1)) [.pd (.tuple [.str x, .str w.w])] σ
  (fun _ σ => KN .next (f23 q N e s p la (some (iv h)) (some (kv w)) (lp bd) (lp (.str x)) (lp vd)) σ)))) := by kernel_rfl
noncomputable abbrev hp (o : O) (T : Hp) (is : List PyData) (l : List (Nam × Kn)) (J : Hp) : Hp := o :: (T ++ .list is :: .list (nlD l) :: J)
section
variable {o : O} {is : List PyData} {x : PyData} {m : Nam × Kn}
theorem zhO : o :: ((T ++ .list is :: .list (nlD l) :: J) ++ τ') = hp o T is l (J ++ τ') := by rw [List.append_assoc]; rfl
theorem hp1 : (hp o T is l J)[T.length + 1]? = some (.list is) := by
 show (T ++ .list is :: .list (nlD l) :: J)[T.length]? = _
 exact gP'
theorem hp2' : (T ++ .list is :: .list (nlD l) :: J)[T.length + 1]? = some (.list (nlD l)) := by
 rw [List.getElem?_append_right (Nat.le_succ _), Nat.succ_sub (Nat.le_refl _), Nat.sub_self]; rfl
theorem hp2 : (hp o T is l J)[T.length + 2]? = some (.list (nlD l)) := hp2'
theorem znV (hl : is.length < sizeLine) (h : K (.pd .none) (hp o T (is ++ [x]) l J)) : evLM .append (.ref (T.length + 1)) [.pd x] (hp o T is l J) K :=
 zaa (zbn hp1) (zac hl (by
  show K _ (o :: ((T ++ .list is :: .list (nlD l) :: J).set T.length _))
  rw [setP]; exact h))
theorem app2' (hl : (nlD l).length < sizeLine) (h : K (.pd .none) (hp o T is (l ++ [m]) J)) : evLM .append (.ref (T.length + 2)) [.pd (.tuple [.str m.1.str, .str m.2.w])] (hp o T is l J) K :=
 zaa (zbn hp2) (zac hl (by
  show K _ (o :: ((T ++ .list is :: .list (nlD l) :: J).set (T.length + 1) (.list (nlD l ++ [.tuple [.str m.1.str, .str m.2.w]]))))
  have e : nlD l ++ [.tuple [.str m.1.str, .str m.2.w]] = nlD (l ++ [m]) := (List.map_append (l₁ := l) (l₂ := [m])).symm
  rw [e, List.set_append_right _ _ (Nat.le_succ _), Nat.succ_sub (Nat.le_refl _), Nat.sub_self]; exact h))
theorem zmp : (lstR (hp o T is l J) (.ref (T.length + 1))).isSome = true := by rw [zbn hp1]; rfl
theorem zn8 : (lstR (hp o T is l J) (.ref (T.length + 2))).isSome = true := by rw [zbn hp2]; rfl
theorem nm2 : NmAt (T ++ .list is :: .list (nlD l) :: J) (.ref (T.length + 1 + 1)) l := .ref hp2'
end
theorem four {r : Int} (h0 : 0 <= r) (h1 : r < 4) (σ : Hp) : ∃ w : Kn, zai σ (.pd (gc1 2)) (.pd (.int r)) = some (.pd (.str w.w)) := by
 obtain rfl | rfl | rfl | rfl : r = 0 \/ r = 1 \/ r = 2 \/ r = 3 := by
  obtain ⟨n, rfl⟩ := Int.eq_ofNat_of_zero_le h0
  exact (show ∀ n : Nat, n < 4 -> (n : Int) = 0 \/ (n : Int) = 1 \/ (n : Int) = 2 \/ (n : Int) = 3 by decide) n (Int.ofNat_lt.mp h1)
 ·exact ⟨.int, rfl⟩
 ·exact ⟨.bool, rfl⟩
 ·exact ⟨.str, rfl⟩
 ·exact ⟨.set, rfl⟩
theorem abc {r : Int} (h0 : 0 <= r) (h1 : r < 3) (σ : Hp) : ∃ n : N3, zai σ (.pd (.tuple [.str N3.a.str, .str N3.b.str, .str N3.c.str])) (.pd (.int r)) = some (.pd (.str n.str)) := by
 obtain rfl | rfl | rfl := three h0 h1
 ·exact ⟨.a, rfl⟩
 ·exact ⟨.b, rfl⟩
 ·exact ⟨.c, rfl⟩
end
section
variable {cs : List Int} {k sp ba s e h r : Int} {b d p : Nat} {τ σ τ' T J' : Hp} {K : KV} {E : KE} {C D F G H : zab} {N : V} {l : List (Nam × Kn)} {q : Kn} {KN : KS} {la lh lb lc ld lf : Option Loc} {w : Kn} {n : N3} {bd vd : PyData} {ys : List It}
theorem zhH {y : It} : ys.map It.d ++ [y.d] = (ys ++ [y]).map It.d := (List.map_append (l₁ := ys) (l₂ := [y])).symm
theorem zl7 {α : Type} {P : α -> Prop} {l : List α} {a : α} (h : ∀ x ∈ l, P x) (g : P a) : ∀ x ∈ l ++ [a], P x := fun x hx => (List.mem_append.mp hx).elim (h x) fun hx => List.mem_singleton.mp hx ▸ g
structure Nxt (cs : List Int) (d b : Nat) (q : Kn) (N : V) (e s ba : Int) (T : Hp) (la : Option Loc) (ys : List It) (l : List (Nam × Kn)) (KN : KS) : Prop where
 go : ∀ f, f = Fl.next \/ f = Fl.cont -> ∀ (y : It) (l' : List (Nam × Kn)) k sp J' lh lb lc ld lf, GoodI (J d) (cc d) y -> l'.length <= l.length + 1 -> Bd cs k sp b -> KN f (f23 q N e s (T.length + 1) la lh lb lc ld lf) (hp (sk cs k sp ba) T ((ys ++ [y]).map It.d) l' J')
theorem pushed (hy : ys.length <= 3) (hl : l.length <= 60) (y : It) (hs : y.d = dIt h w bd n.str vd) (g : GoodI (J d) (cc d) y) (B : Bd cs k sp b) (x : Nxt cs d b q N e s ba T la ys l KN) :
  P6 G q N e s (T.length + 1) la (some (iv h)) w (.pd bd) (.pd (.str n.str)) (.pd vd) KN E (hp (sk cs k sp ba) T (ys.map It.d) l J') := by
 refine t_e.mpr (zac zmp (znV (Nat.lt_of_le_of_lt (by rw [List.length_map]; exact hy) (by decide)) (zac zn8 (app2' (m := (n.nam, w)) (Nat.lt_of_le_of_lt (by rw [List.length_map]; exact hl) (by decide)) ?_))))
 rw [← hs, zhH]
 exact x.go .next (.inl rfl) y _ k sp J' _ _ _ _ _ g (by rw [za7]; exact Nat.le_refl _) B
theorem valued {bo : Env -> Option (Re (List Int))} (X : Up F G) (Nd : NodeG cs d (e - 1) G) (hy : ys.length <= 3) (hl : l.length + 4 * d <= 60) (hs : h.natAbs <= 20000) (ob : BoOk (J d) (cc d) bd bo) (hk : w = .int \/ w = .set \/ bd = .none) (B : Bd cs k sp (Cb d b + 2)) (x : Nxt cs d b q N e s ba T la ys l KN) :
  P4 G q N e s (T.length + 1) la (some (iv h)) w (.pd bd) ld lf KN E (hp (sk cs k sp ba) T (ys.map It.d) l J') := by
 have l60 := Nat.le_trans (Nat.le_add_right _ _) hl
 refine t_d.mpr (draw X (by decide) B fun i i0 i1 B => ?_)
 obtain ⟨n, en⟩ := abc i0 i1 (hp (sk cs (k + 1) sp ba) T (ys.map It.d) l J')
 refine zaa en (draw X (by decide) B fun r r1 r2 B => zaa (a := .bool (decide (r < 15))) rfl (zaa rfl (zdc (fun _ => Nd nm2 hl B fun D k sp τ' gn B => ?_) fun _ => ?_)))
 ·rw [zhO]
  obtain ⟨f, g⟩ := gn
  exact pushed hy l60 (.decl h w bd bo n D f) rfl (.decl hs ob g hk) B x
 ·exact pushed hy l60 (.none h w bd n) rfl (.none hs) (B.le zfp) x
theorem bo_of (h : GB bd) : ∃ bo, BoOk (J d) (cc d) bd bo := by
 obtain ⟨s, f, hs, g⟩ := h
 exact ⟨_, .yes hs (g.mono (J8 d) (Nat.zero_le _))⟩
theorem zmj (X1 : Up C D) (X0 : Up D F) (X : Up F G) (Nd : NodeG cs d (e - 1) G) (hy : ys.length <= 3) (hl : l.length + 4 * d <= 60) (B : Bd cs k sp (TN (Cb d) b)) (x : Nxt cs d b q N e s ba T la ys l KN) :
  evSs G gc1 b23 (f23 q N e s (T.length + 1) la lh lb lc ld lf) (hp (sk cs k sp ba) T (ys.map It.d) l J') KN E := by
 have l60 := Nat.le_trans (Nat.le_add_right _ _) hl
 refine t_a.mpr (spot X B fun B => ?_)
 have hs := B.sp6
 refine draw X (by decide) B fun r r1 r2 B => zaa (a := .bool (r == 2)) rfl (zaa rfl (zdc (fun _ => zac zmp (Nd nm2 hl (B.le (Nat.le_add_right _ 14)) fun D k sp τ' gn B => ?_)) fun _ => t_b.mpr ?_))
 ·rw [zhO]
  obtain ⟨f, g⟩ := gn
  refine zaa (a := [tCon, .int _, D]) rfl (zac (c := [tCon, PyData.int _, D].length <= sizeLine) (Nat.le_of_ble_eq_true rfl) (znV (Nat.lt_of_le_of_lt (by rw [List.length_map]; exact hy) (by decide)) ?_))
  rw [show (PyData.tuple [tCon, .int _, D]) = It.d (.con _ D f) from rfl, zhH]
  exact x.go .cont (.inr rfl) _ l k sp _ _ _ _ _ _ (.con hs g) (Nat.le_succ _) B
 ·refine draw X (by decide) B fun i i0 i1 B => ?_
  obtain ⟨w, ew⟩ := four i0 i1 (hp (sk cs (k + 1 + 1) (sp + 1) ba) T (ys.map It.d) l J')
  refine zaa ew ?_
  have no : ∀ {k}, Bd cs k (sp + 1) (Cb d b + 12) -> P4 G q N e s (T.length + 1) la (some (iv (sp + 1))) w (.pd .none) ld lf KN E (hp (sk cs k (sp + 1) ba) T (ys.map It.d) l J') := fun B => valued X Nd hy hl hs .no (.inr (.inr rfl)) (B.le (Nat.le_add_right _ 10)) x
  have yes : w = .int \/ w = .set -> ∀ {k}, Bd cs k (sp + 1) (Cb d b + 12) -> Pb G q N e s (T.length + 1) la (some (iv (sp + 1))) w ld lf KN E (hp (sk cs k (sp + 1) ba) T (ys.map It.d) l J') := fun hw k B => bound X1 X0 X nm2 (Nat.le_trans l60 (by decide)) (b := Cb d b + 4) B fun Bn k sp' gb B => by
   obtain ⟨bo, ob⟩ := bo_of (d := d) gb
   exact valued X Nd hy hl hs ob (hw.elim .inl fun q => .inr (.inl q)) (B.le (Nat.le_add_right _ 2)) x
  by_cases hw : w = .int \/ w = .set
  ·exact (t_c1 hw).mpr (draw X (by decide) B fun r r1 r2 B => zaa (a := .bool (r == 0)) rfl (zaa (a := r == 0) rfl (zbg (yes hw B) (zaa (a := r == 0) rfl (zbg (yes hw B) (no B))))))
  ·have hw' : w = .bool \/ w = .str := by cases w <;> first | exact absurd (.inl rfl) hw | exact absurd (.inr rfl) hw | exact .inl rfl | exact .inr rfl
   exact (t_c2 hw').mpr (draw X (by decide) B fun r r1 r2 B => zaa (a := .bool (r == 0)) rfl (zaa (a := r == 0) rfl (zdc (fun _ => no B) fun e0 => zaa (a := r == 0) rfl (zaO e0 (no B)))))
end
set_option backward.match.sparseCases false
section
variable {cs : List Int} {k sp ba s e h r : Int} {b d p : Nat} {τ σ τ' T J' : Hp} {K : KV} {E : KE} {C D F G H : zab} {N : V} {l : List (Nam × Kn)} {q : Kn} {KN : KS} {la lh lb lc ld lf : Option Loc} {w : Kn} {n : N3} {bd vd : PyData} {ys : List It} {its : List PyData}
noncomputable abbrev TW23 (G : zab) (E : KE) (d : PyData) (m' : Fm) (σ' : Hp) (k : KS) : Prop := need (tgFm m' (.n 7) d) fun m'' => evSs G gc1 b23 m'' σ' k E
noncomputable abbrev KF23 (G : zab) (K : KV) (E : KE) : KS := fun f m' σ' => match f with
 | .next => evSs G gc1 (fn23.body.drop 2) m' σ' (retK K) E
 | f => retK K f m' σ'
noncomputable abbrev FN23 (G : zab) (K : KV) (E : KE) (its : List PyData) (m : Fm) (σ : Hp) : Prop := forN (TW23 G E) (fun _ k => k) (KF23 G K E) its m σ
theorem let_eq : stp G 23 [r0, kv q, .v N, iv e, iv s] σ K E = need (seqT (σ ++ [O.list []]) N) fun l => when (l.length <= sizeLine) (G 19 [r0, iv 3] (σ ++ [O.list []] ++ [O.list l]) (fun r σ1 => need (evOp .add (.pd (.int 1)) r σ1) fun d => zfe [.pd d] σ1 fun x σ1 => need (zaj σ1 x) fun its => forN (TW23 G E) (fun σ' k => still σ1 σ' x k) (KF23 G K E) its
  [some r0, some (kv q), some (.v N), some (iv e), some (iv s), ref σ.length, ref (σ ++ [O.list []]).length, none, none, none, none, none, none, none, none, none, none, none, none, none, none] σ1) E) := by kernel_rfl
theorem let_end : evSs G gc1 (fn23.body.drop 2) (f23 q N e s p la lh lb lc ld lf) σ (retK K) E = need (seqT σ (.ref p)) fun l => when (l.length <= sizeLine) (G 24 [r0, kv q, .v (.ref (p + 1)), iv (e - 1)] σ (fun v σ => need (zaK [.pd tLet, .pd (.int s), .pd (.tuple l), v]) fun ds => when (ds.length <= sizeLine) (K (.pd (.tuple ds)) σ)) E) := by kernel_rfl
noncomputable def TNs (C : Nat -> Nat) (b : Nat) : Nat -> Nat
 | 0 => b
 | n + 1 => TN C (TNs C b n)
theorem laps (X1 : Up C D) (X0 : Up D F) (X : Up F G) (Nd : NodeG cs d (e - 1) G) (hL : ∀ ys bd f k sp τ', (∀ y ∈ ys, GoodI (J d) (cc d) y) -> ys.length <= 3 -> Good (J d) (cc d) bd f -> Bd cs k sp b -> K (.pd (nLet s ys bd)) (sk cs k sp ba :: (T ++ τ'))) :
  ∀ (its : List PyData) (ys : List It) (l : List (Nam × Kn)) (k sp : Int) (J' : Hp) (la lh lb lc ld lf : Option Loc), (∀ y ∈ ys, GoodI (J d) (cc d) y) -> ys.length + its.length <= 3 -> l.length + 4 * d + its.length <= 60 -> Bd cs k sp (TNs (Cb d) (Cb d b) its.length) -> FN23 G K E its (f23 q N e s (T.length + 1) la lh lb lc ld lf) (hp (sk cs k sp ba) T (ys.map It.d) l J')
 | [], ys, l, k, sp, J', la, lh, lb, lc, ld, lf, hg, hy, hl, B => by
  have yl : (ys.map It.d).length <= 3 := by rw [List.length_map]; exact hy
  refine let_end.mpr (zaa (zba hp1) (zac (zan yl (by decide)) (Nd nm2 hl B fun D k sp τ' gn B => ?_)))
  obtain ⟨f, g⟩ := gn
  have := hL ys D f k sp (.list (ys.map It.d) :: .list (nlD l) :: (J' ++ τ')) hg hy g B
  rw [zhO]
  exact zaa (a := [tLet, .int s, .tuple (ys.map It.d), D]) rfl (zac (c := [tLet, PyData.int s, .tuple (ys.map It.d), D].length <= sizeLine) (Nat.le_of_ble_eq_true rfl) this)
 | x :: r, ys, l, k, sp, J', la, lh, lb, lc, ld, lf, hg, hy, hl, B => by
  rw [List.length_cons] at hy hl
  refine zmj X1 X0 X Nd (Nat.le_trans (Nat.le_add_right _ _) hy) (Nat.le_trans (Nat.le_add_right _ _) hl) (b := TNs (Cb d) (Cb d b) r.length) B ⟨fun f hf y l' k sp J' lh lb lc ld lf g hl' B => ?_⟩
  have := laps X1 X0 X Nd hL r (ys ++ [y]) l' k sp J' (lp x) lh lb lc ld lf (zl7 hg g) (by rw [za7, Nat.add_right_comm, Nat.add_assoc]; exact hy) (Nat.le_trans (Nat.add_le_add_right (Nat.add_le_add_right hl' _) _) (by rw [Nat.add_right_comm _ 1 (4 * d), Nat.add_right_comm _ 1 r.length]; exact hl)) B
  rcases hf with rfl | rfl
  ·exact this
  ·exact this
theorem zeR {m : Nat} : m <= TN (Cb d) m := Nat.le_trans zfp (Nat.le_add_right _ _)
theorem zm6 (X1 : Up C D) (X0 : Up D F) (X : Up F G) (Y : Up G H) (Nd : NodeG cs d (e - 1) G) (n : NmAt τ N l) (hl : l.length + 4 * d + 3 <= 60) (B : Bd cs k sp (LT (Cb d) b)) (hL : ∀ ys bd f k sp τ', (∀ y ∈ ys, GoodI (J d) (cc d) y) -> ys.length <= 3 -> Good (J d) (cc d) bd f -> Bd cs k sp b -> K (.pd (nLet s ys bd)) (sk cs k sp ba :: (τ ++ τ'))) :
  H 23 [r0, kv q, .v N, iv e, iv s] (sk cs k sp ba :: τ) K E := by
 refine Y 22 _ _ _ _ (let_eq.mpr (zaa (n.ext.seq (o := sk cs k sp ba)) (zac (zan (m := 60) (by rw [List.length_map]; exact Nat.le_trans (Nat.le_trans (Nat.le_add_right _ _) (Nat.le_add_right _ _)) hl) (by decide)) ?_)))
 rw [za7, List.append_assoc]
 refine draw X (by decide) (τ := τ ++ ([O.list []] ++ [O.list (nlD l)])) B fun r r1 r2 B => ?_
 have go : ∀ its : List PyData, its.length <= 3 -> Bd cs (k + 1) sp (TNs (Cb d) (Cb d b) its.length) -> FN23 G K E its (f23 q N e s (τ.length + 1) none none none none none none) (hp (sk cs (k + 1) sp ba) τ (([] : List It).map It.d) l []) := fun its hi B => laps X1 X0 X Nd hL its [] l _ _ [] _ _ _ _ _ _ (fun _ h => nomatch h) (by rw [List.length_nil, Nat.zero_add]; exact hi) (by omega) B
 obtain rfl | rfl | rfl := three r1 r2
 ·exact Eq.mpr (by kernel_rfl) (go [.int 0] (by decide) (B.le (Nat.le_trans zeR zeR)))
 ·exact Eq.mpr (by kernel_rfl) (go [.int 0, .int 1] (by decide) (B.le zeR))
 ·exact Eq.mpr (by kernel_rfl) (go [.int 0, .int 1, .int 2] (by decide) B)
end
set_option backward.match.sparseCases true
section
variable {cs : List Int} {k sp ba s e h r : Int} {b d p : Nat} {τ σ τ' T J' : Hp} {K : KV} {E : KE} {C D F G H : zab} {N : V} {l : List (Nam × Kn)} {q : Kn}
noncomputable abbrev f24 (q : Kn) (N : V) (e s r : Int) : Fm := [some r0, some (kv q), some (.v N), some (iv e), some (iv s), some (iv r), none, none, none, none, none, none, none, none, none]
theorem nd1 : stp G 24 [r0, kv q, .v N, iv e] σ K E = G 20 [r0] σ (fun s σ => G 19 [r0, iv 7] σ (fun r σ => need (evOp .eq r (.pd (.int 6)) σ) fun x => truth (.pd x) fun t => brn t (G 19 [r0, iv 4] σ (fun i σ => need (zai σ (.pd (gc1 2)) i) fun z => evSs G gc1 (fn24.body.drop 2) [some r0, some (.v z), some (.v N), some (iv e), some (.v s), some (.v r), none, none, none, none, none, none, none, none, none] σ (retK K) E) E)
  (evSs G gc1 (fn24.body.drop 2) [some r0, some (kv q), some (.v N), some (iv e), some (.v s), some (.v r), none, none, none, none, none, none, none, none, none] σ (retK K) E)) E) E := by kernel_rfl
noncomputable abbrev zeQ (G : zab) (q : Kn) (N : V) (e : Int) (E : KE) (σ : Hp) (P : V -> V -> Hp -> Prop) : Prop := G 24 [r0, kv q, .v N, iv (e - 1)] σ (fun a σ => G 24 [r0, kv q, .v N, iv (e - 1)] σ (fun c σ => P a c σ) E) E
noncomputable abbrev binP (s : Int) (o : PyData) (K : KV) (a c : V) (σ : Hp) : Prop := need (zaK [.pd tBin, .pd (.int s), .pd o, a, c]) fun ds => when (ds.length <= sizeLine) (K (.pd (.tuple ds)) σ)
noncomputable abbrev zmw (s : Int) (K : KV) (a c : V) (σ : Hp) : Prop := need (zaK [a, c]) fun ds => when (ds.length <= sizeLine) (K (.pd (.tuple [tSet, .int s, .tuple ds])) σ)
noncomputable abbrev lt2 (G : zab) (q : Kn) (N : V) (e s r : Int) (K : KV) (E : KE) (σ : Hp) (P : Prop) : Prop := brn (decide (r < 2)) (brn (decide (r < 2)) (G 23 [r0, kv q, .v N, iv e, iv s] σ K E) P) P
noncomputable def Way (G : zab) (N : V) (e s r : Int) (K : KV) (E : KE) (σ : Hp) : Kn -> Prop
 | .int => lt2 G .int N e s r K E σ (zeQ G .int N e E σ (binP s tAdd K))
 | .bool => lt2 G .bool N e s r K E σ (brn (r == 3) (zeQ G .set N e E σ (binP s tLt K)) (zeQ G .int N e E σ (binP s tLt K)))
 | .str => brn (decide (r < 2)) (brn (decide (r < 2)) (G 23 [r0, kv .str, .v N, iv e, iv s] σ K E) (zeQ G .int N e E σ (binP s tLt K))) (G 23 [r0, kv .str, .v N, iv e, iv s] σ K E)
 | .set => lt2 G .set N e s r K E σ (zeQ G .int N e E σ (zmw s K))
theorem zma (q : Kn) : (evSs G gc1 (fn24.body.drop 3) (f24 q N e s r) σ (retK K) E = Way G N e s r K E σ q) := by cases q <;> kernel_rfl
theorem nd2 : evSs G gc1 (fn24.body.drop 2) (f24 q N e s r) (sk cs k sp ba :: τ) (retK K) E = brn (e == 0) (brn (e == 0) (G 21 [r0, kv q, .v N, iv s] (sk cs k sp ba :: τ) K E) (evSs G gc1 (fn24.body.drop 3) (f24 q N e s r) (sk cs k sp ba :: τ) (retK K) E))
  (brn (decide (s - ba > 25)) (brn (decide (s - ba > 25)) (G 21 [r0, kv q, .v N, iv s] (sk cs k sp ba :: τ) K E) (evSs G gc1 (fn24.body.drop 3) (f24 q N e s r) (sk cs k sp ba :: τ) (retK K) E))
   (brn (decide (r > 3)) (G 21 [r0, kv q, .v N, iv s] (sk cs k sp ba :: τ) K E) (evSs G gc1 (fn24.body.drop 3) (f24 q N e s r) (sk cs k sp ba :: τ) (retK K) E))) := by kernel_rfl
theorem zmi {P : V -> V -> Hp -> Prop} (Nd : NodeG cs d (e - 1) G) (n : NmAt τ N l) (hl : l.length + 4 * d <= 60) (B : Bd cs k sp (Cb d (Cb d b))) (h : ∀ D D' k sp τ', GN d D -> GN d D' -> Bd cs k sp b -> P (.pd D) (.pd D') (sk cs k sp ba :: (τ ++ τ'))) : zeQ G q N e E (sk cs k sp ba :: τ) P :=
 Nd n hl B fun D k sp τ1 g B => Nd n.ext hl B fun D' k sp τ2 g' B => by rw [List.append_assoc]; exact h D D' k sp _ g g' B
theorem zju {d : Nat} {D : PyData} {f : Env -> Re Vl} {j c : Nat} (g : Good j c D f) (hj : j <= J d + 9) (hc : c <= 4 * cc d + 1) : GN (d + 1) D := ⟨f, g.mono hj hc⟩
theorem c4 (d : Nat) : cc d <= 4 * cc d := Nat.le_mul_of_pos_left _ (by decide)
theorem zhT {l r : PyData} (hs : s.natAbs <= 20000) : GN d l -> GN d r -> GN (d + 1) (nBin s tLt l r)
 | ⟨_, a⟩, ⟨_, c⟩ => zju (zlJ hs a c) (Nat.add_le_add_left (by decide) _) (Nat.le_succ_of_le (c4 d))
theorem zkm {l r : PyData} (hs : s.natAbs <= 20000) : GN d l -> GN d r -> GN (d + 1) (nBin s tAdd l r)
 | ⟨_, a⟩, ⟨_, c⟩ => zju (zjt hs a c) (Nat.add_le_add_left (by decide) _) (Nat.succ_le_succ (c4 d))
theorem znh {l r : PyData} (hs : s.natAbs <= 20000) : GN d l -> GN d r -> GN (d + 1) (.tuple [tSet, .int s, .tuple [l, r]])
 | ⟨f, a⟩, ⟨g, c⟩ => zju (zfM hs (ps := [(l, f), (r, g)]) (zcB a c) (Nat.le_of_ble_eq_true rfl)) (Nat.add_le_add_left (by decide) _) (Nat.le_succ_of_le (c4 d))
theorem zmW (X : Up F G) (Y : Up G H) (B : Bd cs k sp (b + 3)) (h : ∀ q r k, Bd cs k (sp + 1) b -> evSs G gc1 (fn24.body.drop 2) (f24 q N e (sp + 1) r) (sk cs k (sp + 1) ba :: τ) (retK K) E) : H 24 [r0, kv q, .v N, iv e] (sk cs k sp ba :: τ) K E :=
 Y 23 _ _ _ _ (nd1.mpr (spot X B fun B => draw X (by decide) B fun r _ _ B => zaa (a := .bool (r == 6)) rfl (zaa rfl (zdc (fun _ => draw X (by decide) B fun i h0 h1 B => by
  obtain ⟨w, ew⟩ := four h0 h1 (sk cs (k + 1 + 1) (sp + 1) ba :: τ)
  exact zaa ew (h w r _ B)) fun _ => h q r _ (B.le (Nat.le_succ _))))))
theorem zoq (X0 : Up D F) (X : Up F G) (Y : Up G H) : NodeG cs 0 0 H := fun {q N l k sp ba b τ K E} n hl B h =>
 zmW X Y (b := b + 5) B fun q r k B => nd2.mpr (zcs rfl (zcs rfl (leaf X0 X B.sp6 B.s0 n (Nat.le_trans (Nat.le_add_right _ _) (Nat.le_trans hl (by decide))) (b := b + 2) B fun D k lf B => by
  have := h D k _ [] (lf.gn B.sp6 B.s0) (B.le (Nat.le_add_right b 2))
  rwa [List.append_nil] at this)))
theorem zmX {A B' : zab} (U : Up A B') (X2 : Up B' C) (X1 : Up C D) (X0 : Up D F) (X : Up F G) (Y : Up G H) (NF : NodeG cs d (e - 1) F) (NG : NodeG cs d (e - 1) G) : NodeG cs (d + 1) e H := fun {q N l k sp ba b τ K E} n hl B h =>
 zmW X Y (b := LT (Cb d) b + 5) B fun q r k B => by
  have hs := B.sp6
  have l4 : l.length + 4 * d + 4 <= 60 := hl
  have l1 := Nat.le_trans (Nat.le_add_right _ 4) l4
  have lf : G 21 [r0, kv q, .v N, iv (sp + 1)] (sk cs k (sp + 1) ba :: τ) K E := leaf X0 X hs B.s0 n (Nat.le_trans (Nat.le_trans (Nat.le_add_right _ _) l1) (by decide)) (b := LT (Cb d) b + 2) B fun D k lf B => by
   have := h D k _ [] (lf.gn hs B.s0) (B.le (Nat.le_trans (Nat.le_trans zfp (Nat.le_trans zeR (Nat.le_trans zeR (Nat.le_trans zeR (Nat.le_succ _))))) (Nat.le_add_right _ 2)))
   rwa [List.append_nil] at this
  have lt : ∀ q, G 23 [r0, kv q, .v N, iv e, iv (sp + 1)] (sk cs k (sp + 1) ba :: τ) K E := fun q => zm6 X2 X1 X0 X NF n (Nat.le_of_succ_le l4) (B.le (Nat.le_add_right _ 5)) fun ys bd f k sp τ' hg hy g B =>
   h _ k sp τ' (zju (zfO _ g hg hy) (Nat.le_refl _) (Nat.le_succ _)) B
  have B2 : Bd cs k (sp + 1) (Cb d (Cb d b)) := B.le (Nat.le_trans (Nat.le_trans (zc6 (Nat.le_refl (Cb d b))) (Nat.le_trans (Nat.le_add_right _ 16) (Nat.le_trans zeR (Nat.le_trans zeR (Nat.le_succ _))))) (Nat.le_add_right _ 5))
  have bn : ∀ (q' : Kn) (o : PyData), (∀ D D', GN d D -> GN d D' -> GN (d + 1) (nBin (sp + 1) o D D')) -> zeQ G q' N e E (sk cs k (sp + 1) ba :: τ) (binP (sp + 1) o K) := fun q' o g => zmi NG n l1 B2 fun D D' k sp' τ' a a' B =>
   zaa (a := [tBin, .int (sp + 1), o, D, D']) rfl (zac (c := [tBin, PyData.int (sp + 1), o, D, D'].length <= sizeLine) (Nat.le_of_ble_eq_true rfl) (h _ k sp' τ' (g D D' a a') B))
  have st : zeQ G .int N e E (sk cs k (sp + 1) ba :: τ) (zmw (sp + 1) K) := zmi NG n l1 B2 fun D D' k sp' τ' a a' B =>
   zaa (a := [D, D']) rfl (zac (c := [D, D'].length <= sizeLine) (Nat.le_of_ble_eq_true rfl) (h _ k sp' τ' (znh hs a a') B))
  have w : evSs G gc1 (fn24.body.drop 3) (f24 q N e (sp + 1) r) (sk cs k (sp + 1) ba :: τ) (retK K) E := (zma q).mpr (by
   cases q with
   | int => exact zbg (zbg (lt _) (bn _ _ fun _ _ => zkm hs)) (bn _ _ fun _ _ => zkm hs)
   | bool => exact zbg (zbg (lt _) (zbg (bn _ _ fun _ _ => zhT hs) (bn _ _ fun _ _ => zhT hs))) (zbg (bn _ _ fun _ _ => zhT hs) (bn _ _ fun _ _ => zhT hs))
   | str => exact zbg (zbg (lt _) (bn _ _ fun _ _ => zhT hs)) (lt _)
   | set => exact zbg (zbg (lt _) st) st)
  exact nd2.mpr (zbg (zbg lf w) (zbg (zbg lf w) (zbg lf w)))
end
noncomputable def SL (l : List PyData) : Nat := (l.map fun d => d.shown.length + 4).sum
theorem zd8 {x : Str} (h : PyData.strOk x = true) : (PyData.shown (.str x)).length <= 10 * x.length + 2 := StrLaws.reprText_len x fun c hc =>
 Nat.lt_trans (of_decide_eq_true (Array.all_eq_true_iff_forall_mem.mp h c (Array.mem_toList_iff.mp hc))) (by decide)
theorem zf8 : ∀ l : List PyData, ((PyData.shownAll l).map (·.length)).sum + 4 * l.length = SL l
 | [] => rfl
 | d :: r => by
  have := zf8 r
  show d.shown.length + ((PyData.shownAll r).map (·.length)).sum + 4 * (r.length + 1) = d.shown.length + 4 + SL r
  rw [← this, Nat.mul_succ, Nat.add_comm (4 * _) 4, Nat.add_add_add_comm]
theorem zeU (l : List PyData) : (PyData.shown (.tuple l)).length <= SL l + 4 := by
 refine Nat.le_trans (tupleText_len_le (PyData.shownAll l)) ?_
 rw [← zf8 l, PyData.shownAll_length l]
 exact Nat.add_le_add (Nat.add_le_add_left (Nat.mul_le_mul_right _ (by decide)) _) (by decide)
structure Sh (d : PyData) : Prop where
 able : d.showable = true
 deep : d.depth <= 64
 len : d.shown.length <= sizeLine
theorem zgZ : ∀ {l : List Int}, (∀ i ∈ l, In 24 i) -> SL (l.map .int) <= 23 * l.length /\ PyData.showableAll (l.map .int) = true
 | [], _ => ⟨Nat.le_refl 0, rfl⟩
 | i :: r, h => by
  obtain ⟨h1, h2⟩ := List.forall_mem_cons.mp h
  obtain ⟨i1, i2⟩ := zgZ h2
  have : (PyData.shown (.int i)).length <= 19 := zay h1
  exact ⟨by show (PyData.shown (.int i)).length + 4 + SL (r.map .int) <= 23 * (r.length + 1); exact Nat.le_trans (Nat.add_le_add (Nat.add_le_add_right this 4) i1) (Nat.le_of_eq (Nat.add_comm 23 _)), Bool.and_eq_true_iff.mpr ⟨decide_eq_true (h1.log (by decide)), i2⟩⟩
theorem zmf {v : Vl} (fv : Fine 24 v) : v.d.showable = true /\ v.d.depth <= 1 /\ v.d.shown.length <= 200 := by
 cases fv with
 | num h => exact ⟨decide_eq_true (h.log (by decide)), Nat.zero_le _, Nat.le_trans (zay h) (by decide)⟩
 | tru t => exact ⟨rfl, Nat.zero_le _, by cases t <;> decide⟩
 | txt a z => exact ⟨rfl, Nat.zero_le _, Nat.le_trans (zd8 a) (Nat.le_trans (Nat.add_le_add_right (Nat.mul_le_mul_left 10 z) 2) (by decide))⟩
 | set _ h z =>
  obtain ⟨h1, h2⟩ := zgZ h
  exact ⟨h2, by show PyData.depthAll _ + 1 <= 1; rw [zbV]; decide, Nat.le_trans (zeU _) (by omega)⟩
theorem zkx {r : Re Vl} (h : FineR 24 r) : Sh (zbc r) := by
 cases r with
 | ok v =>
  obtain ⟨h1, h2, h3⟩ := zmf h
  refine ⟨?_, ?_, Nat.le_trans (zeU [tOk, v.d]) (zan (m := 1000) ?_ (by decide))⟩
  ·show (true && (v.d.showable && true)) = true
   rw [h1]; rfl
  ·exact Nat.le_trans (Nat.succ_le_succ (Nat.max_le.mpr ⟨Nat.zero_le 1, Nat.max_le.mpr ⟨h2, Nat.zero_le 1⟩⟩)) (by decide)
  ·have : (PyData.shown tOk).length <= 100 := by decide +kernel
   exact Nat.le_trans (Nat.add_le_add_right (Nat.add_le_add (Nat.add_le_add_right this 4) (Nat.add_le_add_right h3 4)) 4) (by decide)
 | bad t s =>
  obtain ⟨h1, h2, h3⟩ := h
  have es : (PyData.shown (.int s)).length <= 20002 := by
   have : ((PyData.shown (.int s)).length : Int) <= s.natAbs + 2 := len_str_of_int s
   exact Nat.le_trans (Int.ofNat_le.mp this) (Nat.add_le_add_right h3 2)
  refine ⟨?_, Nat.le_of_ble_eq_true rfl, Nat.le_trans (zeU [tBad, .str t, .int s]) (zan (m := 30000) ?_ (by decide))⟩
  ·show (true && (true && (decide (s.natAbs.log2 < 1920) && true))) = true
   rw [decide_eq_true (zcN (Nat.lt_of_le_of_lt h3 (by decide)))]; rfl
  ·have : (PyData.shown tBad).length <= 100 := by decide +kernel
   exact Nat.le_trans (Nat.add_le_add_right (Nat.add_le_add (Nat.add_le_add_right this 4) (Nat.add_le_add (Nat.add_le_add_right (Nat.le_trans (zd8 h1) (Nat.add_le_add_right (Nat.mul_le_mul_left 10 h2) 2)) 4) (Nat.add_le_add_right es 4))) 4) (by decide)
theorem zha {d : PyData} {K : KV} {σ : Hp} (h : Sh d) (k : K (.pd (.str d.shown)) σ) : zao .repr [.pd d] σ K := zaa rfl (zbh ⟨h.able, h.deep, h.len⟩ k)
set_option backward.match.sparseCases false
noncomputable abbrev zmZ : Str := ⟨#[99,101,108,108,115]⟩
noncomputable abbrev nK : Str := ⟨#[107]⟩
noncomputable abbrev zor : Str := ⟨#[115,112,111,116]⟩
noncomputable abbrev zlo : Str := ⟨#[98,97,115,101]⟩
noncomputable abbrev ρ0 : Env := ⟨.num 2, .tru true, .txt ⟨#[116,111,108,100]⟩⟩
noncomputable abbrev nl0 : List (Nam × Kn) := [(.a, .int), (.b, .bool), (.c, .str), (.s, .set)]
noncomputable abbrev hs0 : List (Nam × Vl) := [(.a, .num 2), (.b, .tru true), (.c, .txt ⟨#[116,111,108,100]⟩), (.s, .set S0)]
noncomputable def b31 : List Mine.Lake.S := match fn31.body with
 | _ :: _ :: _ :: .for _ _ b :: _ => b
 | _ => []
noncomputable def compE (s : Option Mine.Lake.S) : Mine.Lake.X := match s with
 | some (.asg _ (.dct _ ((_, .comp _ e _ _ _) :: _))) => e
 | _ => .c .none
noncomputable def hOf (s : Option Mine.Lake.S) : List (Bool × Option Nat × List Mine.Lake.S) := match s with
 | some (.try _ h) => h
 | _ => []
noncomputable abbrev NMS : V := .pd (.list (nlD nl0))
noncomputable abbrev f31 (L : Loc) (kp lap due told fault node : Option Loc) : Fm := [some L, some r0, some (.v NMS), kp, lap, due, told, fault, node, lp (pdc ρ0), none, none, none, none, none, none, none, none, none, none]
noncomputable abbrev g31 (L : PyData) (a1 : Option Loc) : Fm := [some (pv L), a1, none, none, none, none, none, none, none, none, none, none, none, none, none, none, none, none, none, none]
section
variable {k sp ba : Int} {L : PyData} {n b : Nat} {cs : List Int} {K : KV} {E : KE} {σ τ : Hp} {e : zab} {KN : KS} {l0 : Loc} {keep due : Str} {kp lap du told fault node : Option Loc} {nd td : PyData}
noncomputable abbrev CE (e : zab) (L : PyData) (E : KE) (d : PyData) (σ : Hp) (k : List PyData -> Hp -> Prop) : Prop := need (tgFm mc0 (.n 1) d) fun mc' => evX e gc1 (g31 L none) mc' (compE fn31.body[0]?) σ (fun v σ => need (pdV v) fun d' => k [d'] σ) E
theorem x1 : stp e 31 [pv L] [] K E = evSs e gc1 fn31.body (g31 L none) [] (retK K) E := by kernel_rfl
noncomputable def dctE : Mine.Lake.X := match fn31.body with | .asg _ x :: _ => x | _ => .c .none
theorem x2 : evSs e gc1 fn31.body (g31 L none) [] (retK K) E = evX e gc1 (g31 L none) [] dctE [] (fun v σ' => evSs e gc1 (fn31.body.drop 1) (g31 L (some (.v v))) σ' (retK K) E) E := by kernel_rfl
theorem x3 {K : KV} : evX e gc1 (g31 L none) [] dctE [] K E = need (zff [] (.pd L) none (some 60)) fun d => need (zaj [] (.pd d)) fun l => zat (CE e L E) (fun σ' k => still [] σ' (.pd d) k) (fun ds σ' => when (ds.length <= sizeLine) (K (.ref σ'.length) (σ' ++ [.dict [(zmZ, .pd (.list ds)), (nK, .pd (.int 0)), (zor, .pd (.int 0)), (zlo, .pd (.int 0))]]))) l [] [] := by kernel_rfl
theorem a2 : evSs e gc1 (fn31.body.drop 1) (g31 L (some r0)) σ (retK K) E = zao .repr [.pd (pdc ρ0)] σ (fun t σ => evSs e gc1 (fn31.body.drop 3) (f31 (pv L) (some (.v t)) none none none none none) σ (retK K) E) := by kernel_rfl
noncomputable abbrev TW31 (e : zab) (E : KE) (d : PyData) (m' : Fm) (σ' : Hp) (k : KS) : Prop := need (tgFm m' (.n 4) d) fun m'' => evSs e gc1 b31 m'' σ' k E
noncomputable abbrev KF31 (e : zab) (K : KV) (E : KE) : KS := fun f m' σ' => match f with
 | .next => evSs e gc1 (fn31.body.drop 4) m' σ' (retK K) E
 | f => retK K f m' σ'
theorem a3 : evSs e gc1 (fn31.body.drop 3) (f31 l0 kp none none none none none) σ (retK K) E = forN (TW31 e E) (fun _ k => k) (KF31 e K E) [.int 0, .int 1, .int 2] (f31 l0 kp none none none none none) σ := by kernel_rfl
theorem t1 : evSs e gc1 b31 (f31 l0 kp lap du told fault node) σ KN E = e 20 [r0] σ (fun v σ => need (zdR σ (.ref 0) (.pd (.str zlo)) v) fun σ => e 19 [r0, iv 4] σ (fun i σ => need (zai σ (.pd (gc1 2)) i) fun z => need (zai σ (.ref 0) (.pd (.str zlo))) fun bb => e 23 [r0, .v z, .v NMS, iv 3, .v bb] σ (fun nd σ => evSs e gc1 (b31.drop 2) (f31 l0 kp lap du told fault (some (.v nd))) σ KN E) E) E) E := by kernel_rfl
theorem t2 : evSs e gc1 (b31.drop 2) (f31 l0 kp lap du told fault (lp nd)) σ KN E = e 29 [pv nd, .v (.ref σ.length)] (σ ++ [lst hs0]) (fun v σ => zao .repr [v] σ fun t σ => evSs e gc1 (b31.drop 3) (f31 l0 kp lap (some (.v t)) told fault (lp nd)) σ KN E) E := by kernel_rfl
noncomputable abbrev K31 (e : zab) (KN : KS) (E : KE) : KS := fun f m' σ' => match f with
 | .next => evSs e gc1 (b31.drop 4) m' σ' KN E
 | f => KN f m' σ'
theorem t3 : evSs e gc1 (b31.drop 3) (f31 l0 kp lap du told fault (lp nd)) σ KN E = e 36 [se (.pd (pdc ρ0)), pv nd] σ (fun v σ => need (zaK [.pd tOk, v]) fun ds => when (ds.length <= sizeLine) (evSs e gc1 (b31.drop 4) (f31 l0 kp lap du (lp (.tuple ds)) fault (lp nd)) σ KN E)) (fun x σ => evH e gc1 (hOf b31[3]?) x (f31 l0 kp lap du told fault (lp nd)) σ (K31 e KN E) E) := by kernel_rfl
noncomputable abbrev CK (due keep : Str) (t : V) (σ : Hp) (RF NX : Hp -> Prop) : Prop := need (evOp .ne t (.pd (.str due)) σ) fun x => truth (.pd x) fun q => brn q (truth (.pd x) fun q => brn q (RF σ) (NX σ)) (zao .repr [.pd (pdc ρ0)] σ (fun t σ => need (evOp .ne t (.pd (.str keep)) σ) fun x => truth (.pd x) fun q => brn q (RF σ) (NX σ)))
theorem t4 : evSs e gc1 (b31.drop 4) (f31 l0 (lp (.str keep)) lap (lp (.str due)) (lp td) fault (lp nd)) σ KN E = zao .repr [.pd td] σ (fun t σ => CK due keep t σ (fun σ => KN (.ret (.pd (.bool false))) (f31 l0 (lp (.str keep)) lap (lp (.str due)) (lp td) fault (lp nd)) σ) (fun σ => evSs e gc1 (b31.drop 5) (f31 l0 (lp (.str keep)) lap (lp (.str due)) (lp td) fault (lp nd)) σ KN E)) := by kernel_rfl
noncomputable abbrev zgq (m : Fm) : Loc := .lam (.meth 32 (.new (.v 9)) [.v 8]) (snap [8, 9] 0 m)
theorem t5 : evSs e gc1 (b31.drop 5) (f31 l0 (lp (.str keep)) lap (lp (.str due)) (lp td) fault (lp nd)) σ KN E = e 30 [zgq (f31 l0 (lp (.str keep)) lap (lp (.str due)) (lp td) fault (lp nd))] σ (fun v σ => zao .repr [v] σ (fun t σ => CK due keep t σ (fun σ => KN (.ret (.pd (.bool false))) (f31 l0 (lp (.str keep)) lap (lp (.str due)) (lp td) fault (lp nd)) σ) (fun σ => KN .next (f31 l0 (lp (.str keep)) lap (lp (.str due)) (lp td) fault (lp nd)) σ))) E := by kernel_rfl
theorem zeC {turn : PyData -> Hp -> (List PyData -> Hp -> Prop) -> Prop} {KK : List PyData -> Hp -> Prop} {f : Int -> Int} {d : PyData} (ht : ∀ (i : Int) (k : List PyData -> Hp -> Prop), k [.int (f i)] [] -> turn (.int i) [] k) :
  ∀ (cs : List Int) (acc : List PyData), acc.length + cs.length <= sizeLine -> KK (acc ++ (cs.map f).map .int) [] -> zat turn (fun σ' k => still [] σ' (.pd d) k) KK (cs.map .int) acc []
 | [], acc, _, h => by rw [List.map_nil, List.map_nil, List.append_nil] at h; exact h
 | i :: r, acc, hl, h => zbK (Nat.le_trans (Nat.le_add_right _ _) hl) (ht i _ (zeC ht r _ (acc1 hl) (by rw [app1]; exact h)))
end
set_option backward.match.sparseCases true
section
variable {k sp ba : Int} {L : PyData} {b : Nat} {cs : List Int} {K : KV} {E : KE} {σ τ : Hp} {C D F G e : zab} {KN : KS} {l0 : Loc} {keep due : Str} {kp lap du told fault node : Option Loc} {nd td : PyData} {r : Re Vl} {f : Env -> Re Vl}
theorem zjv : FineE 3 ρ0 := ⟨by decide, .num ⟨by decide, by decide⟩, .tru true, .txt (by decide +kernel) (by decide)⟩
theorem hok0 : HOk 3 hs0 ρ0 := ⟨fun n => by cases n <;> rfl, fun p hp => by
 rcases List.mem_cons.mp hp with rfl | hp
 ·exact .num ⟨by decide, by decide⟩
 rcases List.mem_cons.mp hp with rfl | hp
 ·exact .tru true
 rcases List.mem_cons.mp hp with rfl | hp
 ·exact .txt (by decide +kernel) (by decide)
 rcases List.mem_cons.mp hp with rfl | hp
 ·exact zhX (by decide)
 ·cases hp⟩
theorem sh0 : Sh (pdc ρ0) := ⟨by decide +kernel, by decide +kernel, by decide +kernel⟩
theorem zkZ (x : Str) : sb x x = true := beq_self_eq_true _
theorem nse {t u : Str} (h : u = t) : evOp .ne (.pd (.str t)) (.pd (.str u)) σ = some (.bool false) := by
 subst h
 exact congrArg (fun b => some (PyData.bool (!b))) (zkZ u)
theorem ck {RF NX : Hp -> Prop} (hd : due = (zbc r).shown) (hk : keep = (pdc ρ0).shown) (h : NX σ) : CK due keep (.pd (.str (zbc r).shown)) σ RF NX :=
 zaa (nse hd) (zaa rfl (zaO rfl (zha sh0 (zaa (nse hk) (zaa rfl (zaO rfl h))))))
def znX (nd : PyData) (f : Env -> Re Vl) : Prop := ∀ {G}, Lv (J 2 + 9) G -> ∀ {σ K E}, OutA (f ρ0) K E σ -> G 32 [se (.pd (pdc ρ0)), pv nd] σ K E
theorem heard {n : Nat} (hn : J 2 + 9 <= n) (g : znX nd f) (h : ∀ τ, K (.pd (zbc (f ρ0))) (σ ++ τ)) : G1 (n + 2) 30 [zgq (f31 l0 kp lap du told fault (lp nd))] σ K E := by
 refine zaU (n + 1) 29 _ _ _ _ (Eq.mpr (by kernel_rfl : _ = G1 (n + 1) 0 [zgq (f31 l0 kp lap du told fault (lp nd))] σ (fun v σ => need (zaK [.pd tOk, v]) fun ds => when (ds.length <= sizeLine) (K (.pd (.tuple ds)) σ)) (fun e σ => evH (G1 (n + 1)) gc1 (hOf fn30.body[0]?) e [some (zgq (f31 l0 kp lap du told fault (lp nd))), none, none] σ (retK K) E)) ?_)
 refine Eq.mpr (by kernel_rfl : _ = G1 n 32 [se (.pd (pdc ρ0)), pv nd] σ (fun v σ => need (zaK [.pd tOk, v]) fun ds => when (ds.length <= sizeLine) (K (.pd (.tuple ds)) σ)) (fun e σ => evH (G1 (n + 1)) gc1 (hOf fn30.body[0]?) e [some (zgq (f31 l0 kp lap du told fault (lp nd))), none, none] σ (retK K) E)) (g ⟨n, hn, rfl⟩ fun τ => ?_)
 have h := h τ
 cases q : f ρ0 with
 | ok v =>
  rw [q] at h
  show need (zaK [.pd tOk, .pd v.d]) fun ds => when (ds.length <= sizeLine) (K (.pd (.tuple ds)) (σ ++ τ))
  exact zaa (a := [tOk, v.d]) rfl (zac (c := [tOk, v.d].length <= sizeLine) (Nat.le_of_ble_eq_true rfl) h)
 | bad t s => rw [q] at h; exact Eq.mpr (by kernel_rfl) h
structure C31 (C D F G e : zab) : Prop where
 u1 : Up C D
 u2 : Up D F
 u3 : Up F G
 u4 : Up G e
 lv : Lv (J 2 + 9) e
 hrd : ∀ {l0 kp lap du told fault nd f σ K E}, znX nd f -> (∀ τ, K (.pd (zbc (f ρ0))) (σ ++ τ)) -> e 30 [zgq (f31 l0 kp lap du told fault (lp nd))] σ K E
theorem zgD (Z : C31 C D F G e) (hk : keep = (pdc ρ0).shown) (N : NodeG cs 2 (3 - 1) G) (B : Bd cs k sp (LT (Cb 2) b + 2)) (h : ∀ k sp ba τ du told fault node, Bd cs k sp b -> KN .next (f31 l0 (lp (.str keep)) lap du told fault node) (sk cs k sp ba :: τ)) :
  evSs e gc1 b31 (f31 l0 (lp (.str keep)) lap du told fault node) (sk cs k sp ba :: τ) KN E := by
 refine t1.mpr (spot Z.u4 B fun B => zaa (a := sk cs k (sp + 1) (sp + 1) :: τ) (by kernel_rfl) (draw Z.u4 (by decide) B fun i i0 i1 B => ?_))
 obtain ⟨w, ew⟩ := four i0 i1 (sk cs (k + 1) (sp + 1) (sp + 1) :: τ)
 refine zaa ew (zaa (a := .pd (.int (sp + 1))) rfl (zm6 Z.u1 Z.u2 Z.u3 Z.u4 N (.pd nl0) (by decide) B fun ys bd f k sp' τ' hg hy g B => ?_))
 have gl := zfO (sp + 1) g hg hy
 refine t2.mpr (gl.rd Z.lv (b := 3) (by decide) zjv hok0 (by decide) fun X => ?_)
 have sh := zkx ((gl.fine (b := 3) (by decide) zjv).mono (by decide))
 refine zha sh (t3.mpr (zjX (Z.lv.le (Nat.le_succ _)) g hg hy (b := 3) (by decide) zjv (by kernel_rfl) fun Y => ?_))
 have fin : ∀ fault Z', evSs e gc1 (b31.drop 4) (f31 l0 (lp (.str keep)) lap (lp (.str (zbc (letR ys f ρ0)).shown)) (lp (zbc (letR ys f ρ0))) fault (lp (nLet (sp + 1) ys bd))) (sk cs k sp' (sp + 1) :: Z') KN E := fun fault Z' =>
  t4.mpr (zha sh (ck rfl hk (t5.mpr (Z.hrd (fun lv _ _ _ h => zm5 lv g hg hy (b := 3) (by decide) zjv (by kernel_rfl) h) fun Y' => zha sh (ck rfl hk (h k sp' (sp + 1) (Z' ++ Y') _ _ _ _ B))))))
 cases q : letR ys f ρ0 with
 | ok v =>
  rw [q] at fin
  show need (zaK [.pd tOk, .pd v.d]) fun ds => when (ds.length <= sizeLine) (evSs e gc1 (b31.drop 4) (f31 l0 (lp (.str keep)) lap (lp (.str (zbc (.ok v)).shown)) (lp (.tuple ds)) fault (lp (nLet (sp + 1) ys bd))) _ KN E)
  exact zaa (a := [tOk, v.d]) rfl (zac (c := [tOk, v.d].length <= sizeLine) (Nat.le_of_ble_eq_true rfl) (fin fault _))
 | bad t s => rw [q] at fin; exact Eq.mpr (by kernel_rfl) (fin none ((τ ++ τ') ++ lst hs0 :: ([] ++ X) ++ Y))
end
set_option backward.match.sparseCases false
section
variable {k sp ba : Int} {L : PyData} {b : Nat} {cs : List Int} {K : KV} {E : KE} {σ τ : Hp} {C D F G e : zab} {KN : KS} {l0 : Loc} {keep : Str}
noncomputable abbrev LB (b : Nat) : Nat := LT (Cb 2) b + 2
theorem turns (Z : C31 C D F G e) (hk : keep = (pdc ρ0).shown) (N : NodeG cs 2 (3 - 1) G) (h : ∀ m σ, KF31 e K E .next m σ) (B : Bd cs k sp (LB (LB (LB 0)))) :
  forN (TW31 e E) (fun _ k => k) (KF31 e K E) [.int 0, .int 1, .int 2] (f31 l0 (lp (.str keep)) none none none none none) (sk cs k sp ba :: τ) :=
 zgD (lap := lp (.int 0)) (KN := fun f m' σ' => match f with | .ret v => KF31 e K E (.ret v) m' σ' | _ => forN (TW31 e E) (fun _ k => k) (KF31 e K E) [.int 1, .int 2] m' σ') Z hk N B fun k sp ba τ du told fault node B =>
 zgD (lap := lp (.int 1)) (KN := fun f m' σ' => match f with | .ret v => KF31 e K E (.ret v) m' σ' | _ => forN (TW31 e E) (fun _ k => k) (KF31 e K E) [.int 2] m' σ') Z hk N B fun k sp ba τ du told fault node B =>
 zgD (lap := lp (.int 2)) (KN := fun f m' σ' => match f with | .ret v => KF31 e K E (.ret v) m' σ' | _ => forN (TW31 e E) (fun _ k => k) (KF31 e K E) [] m' σ') Z hk N B fun k sp ba τ du told fault node B => h _ _
theorem zjN (l : List Int) (hl : l.length <= 63) : ∃ cs : List Int, zff [] (.pd (.list (l.map .int))) none (some 60) = some (.list (cs.map .int)) /\ cs.length <= 60 := by
 refine ⟨l.take (clipAt (l.map PyData.int).length 60), (congrArg (fun o => alt o _) (gd_i (by rw [List.length_map]; exact Nat.le_trans hl (by decide)))).trans ?_, ?_⟩
 ·show some (PyData.list (cut (l.map .int) none (some 60))) = _
  unfold cut
  simp only [Option.elim, List.drop_zero, Nat.sub_zero, List.map_take]
 ·rw [List.length_take, List.length_map]
  exact Nat.le_trans (Nat.min_le_left _ _) (Int.ofNat_le.mp (by rw [clipAt_cast]; exact Int.max_le.mpr ⟨by decide, Int.min_le_left _ _⟩))
theorem zjn (l : List Int) (hl : l.length <= 63) (Z : C31 C D F G e) (N : ∀ cs, NodeG cs 2 (3 - 1) G) : stp e 31 [pv (.list (l.map .int))] [] (fun v _ => v = .pd (.bool true)) E := by
 obtain ⟨cs, hc, cl⟩ := zjN l hl
 refine x1.mpr (x2.mpr (x3.mpr (zaa hc (zaa rfl (zeC (f := fun i => Int.emod i 1000003) (fun i k h => h) cs [] (zan (m := 60) (by rw [List.length_nil, Nat.zero_add]; exact cl) (by decide)) (zac (zan (m := 60) (by rw [List.nil_append, List.length_map, List.length_map]; exact cl) (by decide)) ?_))))))
 have cl' : (cs.map fun i => Int.emod i 1000003).length <= 60 := by rw [List.length_map]; exact cl
 show evSs e gc1 (fn31.body.drop 1) (g31 (.list (l.map .int)) (some r0)) (sk (cs.map fun i => Int.emod i 1000003) 0 0 0 :: []) (retK _) E
 generalize (cs.map fun i => Int.emod i 1000003) = ds at cl'
 have B : Bd ds 0 0 (LB (LB (LB 0))) := ⟨cl', Int.le_refl 0, by decide +kernel, Int.le_refl 0, by decide +kernel⟩
 exact a2.mpr (zha sh0 (a3.mpr (turns (K := fun v _ => v = .pd (.bool true)) Z rfl (N ds) (fun m σ => show V.pd (.bool true) = V.pd (.bool true) from rfl) B)))
end
theorem NodeG.e {cs : List Int} {d : Nat} {e f : Int} {G : zab} (h : NodeG cs d e G) (q : e = f) : NodeG cs d f G := q ▸ h
theorem n0 (cs : List Int) (n : Nat) : NodeG cs 0 (1 - 1) (G1 (n + 3)) := NodeG.e (zoq (zaU n) (zaU (n + 1)) (zaU (n + 2))) (by decide)
theorem n1 (cs : List Int) (n : Nat) : NodeG cs 1 (2 - 1) (G1 (n + 6)) := NodeG.e (zmX (e := 1) (zaU n) (zaU (n + 1)) (zaU (n + 2)) (zaU (n + 3)) (zaU (n + 4)) (zaU (n + 5)) (n0 cs (n + 1)) (n0 cs (n + 2))) (by decide)
theorem n2 (cs : List Int) (n : Nat) : NodeG cs 2 (3 - 1) (G1 (n + 8)) := NodeG.e (zmX (e := 2) (zaU (n + 2)) (zaU (n + 3)) (zaU (n + 4)) (zaU (n + 5)) (zaU (n + 6)) (zaU (n + 7)) (n1 cs n) (n1 cs (n + 1))) (by decide)
theorem law3 (l : List Int) (hl : l.length <= 63) : zaD tab1 gc1 500 31 [.v (.pd (.list (l.map .int)))] [] (fun v _ => v = .pd (.bool true)) (fun _ _ => False) :=
 zaU 499 30 _ _ _ _ (zjn l hl (C := G1 495) (D := G1 496) (F := G1 497) (G := G1 498) ⟨zaU _, zaU _, zaU _, zaU _, ⟨499, by decide, rfl⟩, fun g h => heard (n := 497) (by decide) g h⟩ fun cs => n2 cs 490)
end Mine.Lake.Pl
open PySem PySem.W PyProof.Rows
namespace Mine.Lake
theorem prom1 : rw.row.toRowW.promised := by w_witness
end Mine.Lake
theorem PySem.Challenge.cw_pq0379_03_holds : PySem.Challenge.rw_pq0379_03.Holds :=
 Mine.Lake.holds_of (Mine.Lake.walk1 Mine.Lake.Pl.law3) Mine.Lake.prom1
