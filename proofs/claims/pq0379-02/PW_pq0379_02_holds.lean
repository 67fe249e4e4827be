import PyProof.Rows.All
import Wide.All
import OpenK.AllK
import Wide.FinOn
import KE.KDeep
import KE.KRevSl
import KE.KSortedM
import KE.KPairTest
import KE.KUnpack
import KE.KItem
import KE.KSuperObj
import PyProof.InstStoreFacts
import PyProof.ExcClass3
import PyProof.ExcBaseAll.Exception
import PyProof.ReprLen
import PyProof.StrLawsRepr
import PyProof.Rows.RegStrFacts
import PySem.Challenge.RW_pq0379_02
set_option Elab.async false
set_option linter.all false
namespace Mine
open PySem PySem.W PyProof.Rows
set_option maxRecDepth 100000
set_option maxHeartbeats 0
noncomputable abbrev pw : Program := PySem.Challenge.pw_pq0379_02
noncomputable abbrev rw : OpenLaw := PySem.Challenge.rw_pq0379_02
-- where the text's defs stand: read off the given term, never written out
noncomputable def st (i : Nat) : Stmt := (pw.main.body[i]?).getD default
noncomputable def ms (i j : Nat) : Stmt := match st i with | .ClassDef _ _ _ b .. => (b[j]?).getD default | _ => default
noncomputable def fa : Stmt → Arguments | .FunctionDef _ a .. => a | _ => default
noncomputable def fb : Stmt → List Stmt | .FunctionDef _ _ b .. => b | _ => []
noncomputable def fs : Stmt → Scope | .FunctionDef _ _ _ _ _ _ s .. => s | _ => default
noncomputable def fp : Stmt → Pos | .FunctionDef _ _ _ _ _ _ _ _ _ p => p | _ => default
noncomputable def K (P : Params) : Frag := [
  (1, ⟨(.type "dict"), none, (.dict #[⟨PyData.keyHash P (Str.ofString "builtins"), .str (Str.ofString "builtins") 162, (.ref 4)⟩, ⟨PyData.keyHash P (Str.ofString "__main__"), .str (Str.ofString "__main__") 163, (.ref 5)⟩] 2), #[]⟩),
  (2, ⟨.none, none, (.dict #[⟨PyData.keyHash P (Str.ofString "type.__subclasses__.Exception.0"), .str (Str.ofString "type.__subclasses__.Exception.0") 269, (.int (75) 0)⟩, ⟨PyData.keyHash P (Str.ofString "type.__subclasses__.Exception.n"), .str (Str.ofString "type.__subclasses__.Exception.n") 270, (.int (1) 0)⟩] 2), #[]⟩),
  (3, ⟨(.type "dict"), none, (.dict #[⟨PyData.keyHash P (Str.ofString "__name__"), .str (Str.ofString "__name__") 165, (.str (Str.ofString "law_pq0379_02") 730)⟩, ⟨PyData.keyHash P (Str.ofString "__doc__"), .str (Str.ofString "__doc__") 166, .none⟩, ⟨PyData.keyHash P (Str.ofString "__package__"), .str (Str.ofString "__package__") 167, .none⟩, ⟨PyData.keyHash P (Str.ofString "__loader__"), .str (Str.ofString "__loader__") 168, (.builtin "__main__.__loader__#opaque")⟩, ⟨PyData.keyHash P (Str.ofString "__spec__"), .str (Str.ofString "__spec__") 169, .none⟩, ⟨PyData.keyHash P (Str.ofString "__annotations__"), .str (Str.ofString "__annotations__") 170, (.ref 6)⟩, ⟨PyData.keyHash P (Str.ofString "__builtins__"), .str (Str.ofString "__builtins__") 171, (.ref 4)⟩, ⟨PyData.keyHash P (Str.ofString "__file__"), .str (Str.ofString "__file__") 173, (.str (Str.ofString "/claim/cut.py") 172)⟩, ⟨PyData.keyHash P (Str.ofString "__cached__"), .str (Str.ofString "__cached__") 174, .none⟩, ⟨PyData.keyHash P (Str.ofString "range_of"), .str (Str.ofString "range_of") 196, (.ref 21)⟩, ⟨PyData.keyHash P (Str.ofString "put_behind"), .str (Str.ofString "put_behind") 205, (.ref 28)⟩, ⟨PyData.keyHash P (Str.ofString "from_values"), .str (Str.ofString "from_values") 214, (.ref 35)⟩, ⟨PyData.keyHash P (Str.ofString "next_from"), .str (Str.ofString "next_from") 224, (.ref 42)⟩, ⟨PyData.keyHash P (Str.ofString "has"), .str (Str.ofString "has") 232, (.ref 49)⟩, ⟨PyData.keyHash P (Str.ofString "FdError"), .str (Str.ofString "FdError") 272, (.ref 75)⟩, ⟨PyData.keyHash P (Str.ofString "SpotFault"), .str (Str.ofString "SpotFault") 307, (.ref 104)⟩, ⟨PyData.keyHash P (Str.ofString "EvalFault"), .str (Str.ofString "EvalFault") 323, (.ref 116)⟩, ⟨PyData.keyHash P (Str.ofString "LimitFault"), .str (Str.ofString "LimitFault") 339, (.ref 128)⟩, ⟨PyData.keyHash P (Str.ofString "MOST_VALUES"), .str (Str.ofString "MOST_VALUES") 343, (.int (100000) 342)⟩, ⟨PyData.keyHash P (Str.ofString "MOST_POWER"), .str (Str.ofString "MOST_POWER") 345, (.int (1000) 344)⟩, ⟨PyData.keyHash P (Str.ofString "MOST_SHOWN"), .str (Str.ofString "MOST_SHOWN") 347, (.int (1000) 346)⟩, ⟨PyData.keyHash P (Str.ofString "is_array"), .str (Str.ofString "is_array") 354, (.ref 137)⟩, ⟨PyData.keyHash P (Str.ofString "is_set"), .str (Str.ofString "is_set") 361, (.ref 144)⟩, ⟨PyData.keyHash P (Str.ofString "number_of"), .str (Str.ofString "number_of") 369, (.ref 151)⟩, ⟨PyData.keyHash P (Str.ofString "truth_of"), .str (Str.ofString "truth_of") 377, (.ref 158)⟩, ⟨PyData.keyHash P (Str.ofString "text_of"), .str (Str.ofString "text_of") 385, (.ref 165)⟩, ⟨PyData.keyHash P (Str.ofString "set_of"), .str (Str.ofString "set_of") 393, (.ref 172)⟩, ⟨PyData.keyHash P (Str.ofString "list_of"), .str (Str.ofString "list_of") 401, (.ref 179)⟩, ⟨PyData.keyHash P (Str.ofString "elements_of"), .str (Str.ofString "elements_of") 409, (.ref 186)⟩, ⟨PyData.keyHash P (Str.ofString "row_of"), .str (Str.ofString "row_of") 416, (.ref 193)⟩, ⟨PyData.keyHash P (Str.ofString "span"), .str (Str.ofString "span") 424, (.ref 200)⟩, ⟨PyData.keyHash P (Str.ofString "quotient"), .str (Str.ofString "quotient") 434, (.ref 207)⟩, ⟨PyData.keyHash P (Str.ofString "within_figures"), .str (Str.ofString "within_figures") 441, (.ref 214)⟩, ⟨PyData.keyHash P (Str.ofString "power"), .str (Str.ofString "power") 452, (.ref 221)⟩, ⟨PyData.keyHash P (Str.ofString "are_same"), .str (Str.ofString "are_same") 458, (.ref 226)⟩, ⟨PyData.keyHash P (Str.ofString "are_compared"), .str (Str.ofString "are_compared") 468, (.ref 233)⟩, ⟨PyData.keyHash P (Str.ofString "joined_sets"), .str (Str.ofString "joined_sets") 474, (.ref 238)⟩, ⟨PyData.keyHash P (Str.ofString "reckoned"), .str (Str.ofString "reckoned") 484, (.ref 245)⟩, ⟨PyData.keyHash P (Str.ofString "show_text"), .str (Str.ofString "show_text") 490, (.ref 250)⟩, ⟨PyData.keyHash P (Str.ofString "folded"), .str (Str.ofString "folded") 496, (.ref 255)⟩, ⟨PyData.keyHash P (Str.ofString "FOLDING"), .str (Str.ofString "FOLDING") 505, (.ref 256)⟩, ⟨PyData.keyHash P (Str.ofString "scopes_of"), .str (Str.ofString "scopes_of") 511, (.ref 261)⟩, ⟨PyData.keyHash P (Str.ofString "Evaluator"), .str (Str.ofString "Evaluator") 675, (.ref 363)⟩, ⟨PyData.keyHash P (Str.ofString "fitted_one"), .str (Str.ofString "fitted_one") 681, (.ref 372)⟩, ⟨PyData.keyHash P (Str.ofString "called"), .str (Str.ofString "called") 687, (.ref 377)⟩, ⟨PyData.keyHash P (Str.ofString "alone"), .str (Str.ofString "alone") 696, (.ref 384)⟩, ⟨PyData.keyHash P (Str.ofString "of_value"), .str (Str.ofString "of_value") 702, (.ref 389)⟩, ⟨PyData.keyHash P (Str.ofString "indexes_of"), .str (Str.ofString "indexes_of") 712, (.ref 396)⟩, ⟨PyData.keyHash P (Str.ofString "indexed"), .str (Str.ofString "indexed") 718, (.ref 401)⟩, ⟨PyData.keyHash P (Str.ofString "united"), .str (Str.ofString "united") 729, (.ref 408)⟩, ⟨PyData.keyHash P (Str.ofString "_law_draw"), .str (Str.ofString "_law_draw") 740, (.ref 415)⟩, ⟨PyData.keyHash P (Str.ofString "_law_spot"), .str (Str.ofString "_law_spot") 747, (.ref 422)⟩, ⟨PyData.keyHash P (Str.ofString "_law_number"), .str (Str.ofString "_law_number") 756, (.ref 429)⟩, ⟨PyData.keyHash P (Str.ofString "_law_wrong"), .str (Str.ofString "_law_wrong") 763, (.ref 436)⟩, ⟨PyData.keyHash P (Str.ofString "_law_end"), .str (Str.ofString "_law_end") 772, (.ref 443)⟩, ⟨PyData.keyHash P (Str.ofString "_law_lot"), .str (Str.ofString "_law_lot") 778, (.ref 448)⟩, ⟨PyData.keyHash P (Str.ofString "_law_right"), .str (Str.ofString "_law_right") 790, (.ref 455)⟩, ⟨PyData.keyHash P (Str.ofString "_law_left"), .str (Str.ofString "_law_left") 801, (.ref 462)⟩, ⟨PyData.keyHash P (Str.ofString "_law_counted"), .str (Str.ofString "_law_counted") 809, (.ref 469)⟩, ⟨PyData.keyHash P (Str.ofString "_law_told"), .str (Str.ofString "_law_told") 815, (.ref 474)⟩, ⟨PyData.keyHash P (Str.ofString "_law_holds"), .str (Str.ofString "_law_holds") 821, (.ref 479)⟩, ⟨PyData.keyHash P (Str.ofString "_law_due"), .str (Str.ofString "_law_due") 833, (.ref 486)⟩, ⟨PyData.keyHash P (Str.ofString "_law_heard"), .str (Str.ofString "_law_heard") 841, (.ref 493)⟩, ⟨PyData.keyHash P (Str.ofString "law"), .str (Str.ofString "law") 847, (.ref 498)⟩] 64), #[]⟩),
  (20, ⟨(.type "code"), none, (.fields #[(.str (Str.ofString "range_of") 189), (.str (Str.ofString "range_of") 190), (.str (Str.ofString "/claim/cut.py") 191), (.int (2) 0), (.int (2) 0), (.int (0) 0), (.int (0) 0), (.int (3) 0), (.ref 15), (.bool true), (.int (181) 0), (.ref 16), .none, (.ref 17), (.ref 18), (.ref 19), (.int (194) 0), (.int (2) 0), (.str (Str.ofString "/claim/cut.py") 195)]), #[]⟩),
  (21, ⟨(.type "function"), none, (.func (fnX (Str.ofString "range_of") (Str.ofString "range_of") (fa (st 1)) (fb (st 1)) (fs (st 1)) [] .none .none .none (.str (Str.ofString "fdsolve.domains") 187) none (.ref 20) .none)), #[]⟩),
  (27, ⟨(.type "code"), none, (.fields #[(.str (Str.ofString "put_behind") 197), (.str (Str.ofString "put_behind") 198), (.str (Str.ofString "/claim/cut.py") 199), (.int (4) 0), (.int (3) 0), (.int (0) 0), (.int (0) 0), (.int (3) 0), (.ref 22), (.bool true), (.int (181) 0), (.ref 23), .none, (.ref 24), (.ref 25), (.ref 26), (.int (203) 0), (.int (4) 0), (.str (Str.ofString "/claim/cut.py") 204)]), #[]⟩),
  (28, ⟨(.type "function"), none, (.func (fnX (Str.ofString "put_behind") (Str.ofString "put_behind") (fa (st 2)) (fb (st 2)) (fs (st 2)) [] .none .none .none (.str (Str.ofString "fdsolve.domains") 187) none (.ref 27) .none)), #[]⟩),
  (34, ⟨(.type "code"), none, (.fields #[(.str (Str.ofString "from_values") 206), (.str (Str.ofString "from_values") 207), (.str (Str.ofString "/claim/cut.py") 208), (.int (10) 0), (.int (1) 0), (.int (0) 0), (.int (0) 0), (.int (3) 0), (.ref 29), (.bool true), (.int (181) 0), (.ref 30), .none, (.ref 31), (.ref 32), (.ref 33), (.int (212) 0), (.int (10) 0), (.str (Str.ofString "/claim/cut.py") 213)]), #[]⟩),
  (35, ⟨(.type "function"), none, (.func (fnX (Str.ofString "from_values") (Str.ofString "from_values") (fa (st 3)) (fb (st 3)) (fs (st 3)) [] .none .none .none (.str (Str.ofString "fdsolve.domains") 187) none (.ref 34) .none)), #[]⟩),
  (41, ⟨(.type "code"), none, (.fields #[(.str (Str.ofString "next_from") 215), (.str (Str.ofString "next_from") 216), (.str (Str.ofString "/claim/cut.py") 217), (.int (15) 0), (.int (2) 0), (.int (0) 0), (.int (0) 0), (.int (3) 0), (.ref 36), (.bool true), (.int (181) 0), (.ref 37), .none, (.ref 38), (.ref 39), (.ref 40), (.int (222) 0), (.int (15) 0), (.str (Str.ofString "/claim/cut.py") 223)]), #[]⟩),
  (42, ⟨(.type "function"), none, (.func (fnX (Str.ofString "next_from") (Str.ofString "next_from") (fa (st 4)) (fb (st 4)) (fs (st 4)) [] .none .none .none (.str (Str.ofString "fdsolve.domains") 187) none (.ref 41) .none)), #[]⟩),
  (48, ⟨(.type "code"), none, (.fields #[(.str (Str.ofString "has") 225), (.str (Str.ofString "has") 226), (.str (Str.ofString "/claim/cut.py") 227), (.int (20) 0), (.int (2) 0), (.int (0) 0), (.int (0) 0), (.int (3) 0), (.ref 43), (.bool true), (.int (181) 0), (.ref 44), .none, (.ref 45), (.ref 46), (.ref 47), (.int (230) 0), (.int (20) 0), (.str (Str.ofString "/claim/cut.py") 231)]), #[]⟩),
  (49, ⟨(.type "function"), none, (.func (fnX (Str.ofString "has") (Str.ofString "has") (fa (st 5)) (fb (st 5)) (fs (st 5)) [] .none .none .none (.str (Str.ofString "fdsolve.domains") 187) none (.ref 48) .none)), #[]⟩),
  (50, ⟨(.type "tuple"), none, (.seq #[(.type "Exception")] 0), #[]⟩),
  (53, ⟨(.type "cell"), none, (.cell (some (.ref 75))), #[]⟩),
  (58, ⟨(.type "tuple"), none, (.seq #[(.ref 53)] 0), #[]⟩),
  (64, ⟨(.type "code"), none, (.fields #[(.str (Str.ofString "__init__") 247), (.str (Str.ofString "FdError.__init__") 248), (.str (Str.ofString "/claim/cut.py") 249), (.int (25) 0), (.int (2) 0), (.int (0) 0), (.int (0) 0), (.int (3) 0), (.ref 59), (.bool true), (.int (181) 0), (.ref 60), .none, (.ref 61), (.ref 62), (.ref 63), (.int (253) 0), (.int (25) 0), (.str (Str.ofString "/claim/cut.py") 254)]), #[]⟩),
  (65, ⟨(.type "function"), none, (.func (fnX (Str.ofString "__init__") (Str.ofString "FdError.__init__") (fa (ms 7 0)) (fb (ms 7 0)) (fs (ms 7 0)) [((Str.ofString "__class__"), 53)] .none .none .none (.str (Str.ofString "fdsolve.errors") 233) none (.ref 64) (.ref 58))), #[]⟩),
  (71, ⟨(.type "code"), none, (.fields #[(.str (Str.ofString "told") 256), (.str (Str.ofString "FdError.told") 257), (.str (Str.ofString "/claim/cut.py") 258), (.int (29) 0), (.int (1) 0), (.int (0) 0), (.int (0) 0), (.int (3) 0), (.ref 66), (.bool true), (.int (181) 0), (.ref 67), .none, (.ref 68), (.ref 69), (.ref 70), (.int (260) 0), (.int (29) 0), (.str (Str.ofString "/claim/cut.py") 261)]), #[]⟩),
  (72, ⟨(.type "function"), none, (.func (fnX (Str.ofString "told") (Str.ofString "FdError.told") (fa (ms 7 1)) (fb (ms 7 1)) (fs (ms 7 1)) [] .none .none .none (.str (Str.ofString "fdsolve.errors") 233) none (.ref 71) .none)), #[]⟩),
  (73, ⟨(.type "tuple"), none, (.seq #[(.str (Str.ofString "what") 263)] 0), #[]⟩),
  (74, ⟨(.type "dict"), none, (.dict #[⟨PyData.keyHash P (Str.ofString "__module__"), .str (Str.ofString "__module__") 242, (.str (Str.ofString "fdsolve.errors") 233)⟩, ⟨PyData.keyHash P (Str.ofString "__firstlineno__"), .str (Str.ofString "__firstlineno__") 246, (.int (23) 245)⟩, ⟨PyData.keyHash P (Str.ofString "__init__"), .str (Str.ofString "__init__") 255, (.ref 65)⟩, ⟨PyData.keyHash P (Str.ofString "told"), .str (Str.ofString "told") 262, (.ref 72)⟩, ⟨PyData.keyHash P (Str.ofString "__static_attributes__"), .str (Str.ofString "__static_attributes__") 264, (.ref 73)⟩, ⟨PyData.keyHash P (Str.ofString "__weakref__"), .str (Str.ofString "__weakref__") 267, (.ref 76)⟩, ⟨PyData.keyHash P (Str.ofString "__doc__"), .str (Str.ofString "__doc__") 268, .none⟩] 4), #[]⟩),
  (75, ⟨(.type "type"), none, (.cls { name := (Str.ofString "FdError"), bases := [(.type "Exception")], mro := [(.ref 75), (.type "Exception"), (.type "BaseException"), (.type "object")], ns := 74, qualname := (Str.ofString "FdError"), hasDict := true, slotNames := [], subclasses := [(.ref 104), (.ref 128)], abstract := false, collection := none, hasDel := false }), #[(some (.ref 50)), none, (some (.str (Str.ofString "FdError") 235)), (some (.str (Str.ofString "FdError") 243)), (some (.builtin "Exception.__new__")), (some (.bool true))]⟩),
  (76, ⟨(.type "getset_descriptor"), none, (.fields #[(.str (Str.ofString "__weakref__") 266), (.ref 75), (.builtin "ExceptionGroup.__weakref__"), .none]), #[]⟩),
  (79, ⟨(.type "tuple"), none, (.seq #[(.ref 75)] 0), #[]⟩),
  (82, ⟨(.type "cell"), none, (.cell (some (.ref 104))), #[]⟩),
  (87, ⟨(.type "tuple"), none, (.seq #[(.ref 82)] 0), #[]⟩),
  (93, ⟨(.type "code"), none, (.fields #[(.str (Str.ofString "__init__") 285), (.str (Str.ofString "SpotFault.__init__") 286), (.str (Str.ofString "/claim/cut.py") 287), (.int (33) 0), (.int (3) 0), (.int (0) 0), (.int (0) 0), (.int (3) 0), (.ref 88), (.bool true), (.int (181) 0), (.ref 89), .none, (.ref 90), (.ref 91), (.ref 92), (.int (292) 0), (.int (33) 0), (.str (Str.ofString "/claim/cut.py") 293)]), #[]⟩),
  (94, ⟨(.type "function"), none, (.func (fnX (Str.ofString "__init__") (Str.ofString "SpotFault.__init__") (fa (ms 8 0)) (fb (ms 8 0)) (fs (ms 8 0)) [((Str.ofString "__class__"), 82)] .none .none .none (.str (Str.ofString "fdsolve.errors") 233) none (.ref 93) (.ref 87))), #[]⟩),
  (100, ⟨(.type "code"), none, (.fields #[(.str (Str.ofString "told") 295), (.str (Str.ofString "SpotFault.told") 296), (.str (Str.ofString "/claim/cut.py") 297), (.int (37) 0), (.int (1) 0), (.int (0) 0), (.int (0) 0), (.int (3) 0), (.ref 95), (.bool true), (.int (181) 0), (.ref 96), .none, (.ref 97), (.ref 98), (.ref 99), (.int (299) 0), (.int (37) 0), (.str (Str.ofString "/claim/cut.py") 300)]), #[]⟩),
  (101, ⟨(.type "function"), none, (.func (fnX (Str.ofString "told") (Str.ofString "SpotFault.told") (fa (ms 8 1)) (fb (ms 8 1)) (fs (ms 8 1)) [] .none .none .none (.str (Str.ofString "fdsolve.errors") 233) none (.ref 100) .none)), #[]⟩),
  (102, ⟨(.type "tuple"), none, (.seq #[(.str (Str.ofString "spot") 302)] 0), #[]⟩),
  (103, ⟨(.type "dict"), none, (.dict #[⟨PyData.keyHash P (Str.ofString "__module__"), .str (Str.ofString "__module__") 280, (.str (Str.ofString "fdsolve.errors") 233)⟩, ⟨PyData.keyHash P (Str.ofString "__firstlineno__"), .str (Str.ofString "__firstlineno__") 284, (.int (31) 283)⟩, ⟨PyData.keyHash P (Str.ofString "__init__"), .str (Str.ofString "__init__") 294, (.ref 94)⟩, ⟨PyData.keyHash P (Str.ofString "told"), .str (Str.ofString "told") 301, (.ref 101)⟩, ⟨PyData.keyHash P (Str.ofString "__static_attributes__"), .str (Str.ofString "__static_attributes__") 303, (.ref 102)⟩, ⟨PyData.keyHash P (Str.ofString "__doc__"), .str (Str.ofString "__doc__") 305, .none⟩] 3), #[]⟩),
  (104, ⟨(.type "type"), none, (.cls { name := (Str.ofString "SpotFault"), bases := [(.ref 75)], mro := [(.ref 104), (.ref 75), (.type "Exception"), (.type "BaseException"), (.type "object")], ns := 103, qualname := (Str.ofString "SpotFault"), hasDict := true, slotNames := [], subclasses := [(.ref 116)], abstract := false, collection := none, hasDel := false }), #[(some (.ref 79)), none, (some (.str (Str.ofString "SpotFault") 273)), (some (.str (Str.ofString "SpotFault") 281)), (some (.builtin "Exception.__new__")), (some (.bool true))]⟩),
  (107, ⟨(.type "tuple"), none, (.seq #[(.ref 104)] 0), #[]⟩),
  (114, ⟨(.type "tuple"), none, (.seq #[] 0), #[]⟩),
  (115, ⟨(.type "dict"), none, (.dict #[⟨PyData.keyHash P (Str.ofString "__module__"), .str (Str.ofString "__module__") 315, (.str (Str.ofString "fdsolve.errors") 233)⟩, ⟨PyData.keyHash P (Str.ofString "__firstlineno__"), .str (Str.ofString "__firstlineno__") 319, (.int (39) 318)⟩, ⟨PyData.keyHash P (Str.ofString "__static_attributes__"), .str (Str.ofString "__static_attributes__") 320, (.ref 114)⟩, ⟨PyData.keyHash P (Str.ofString "__doc__"), .str (Str.ofString "__doc__") 321, .none⟩] 2), #[]⟩),
  (116, ⟨(.type "type"), none, (.cls { name := (Str.ofString "EvalFault"), bases := [(.ref 104)], mro := [(.ref 116), (.ref 104), (.ref 75), (.type "Exception"), (.type "BaseException"), (.type "object")], ns := 115, qualname := (Str.ofString "EvalFault"), hasDict := true, slotNames := [], subclasses := [], abstract := false, collection := none, hasDel := false }), #[(some (.ref 107)), none, (some (.str (Str.ofString "EvalFault") 308)), (some (.str (Str.ofString "EvalFault") 316)), (some (.builtin "Exception.__new__")), (some (.bool true))]⟩),
  (119, ⟨(.type "tuple"), none, (.seq #[(.ref 75)] 0), #[]⟩),
  (126, ⟨(.type "tuple"), none, (.seq #[] 0), #[]⟩),
  (127, ⟨(.type "dict"), none, (.dict #[⟨PyData.keyHash P (Str.ofString "__module__"), .str (Str.ofString "__module__") 331, (.str (Str.ofString "fdsolve.errors") 233)⟩, ⟨PyData.keyHash P (Str.ofString "__firstlineno__"), .str (Str.ofString "__firstlineno__") 335, (.int (41) 334)⟩, ⟨PyData.keyHash P (Str.ofString "__static_attributes__"), .str (Str.ofString "__static_attributes__") 336, (.ref 126)⟩, ⟨PyData.keyHash P (Str.ofString "__doc__"), .str (Str.ofString "__doc__") 337, .none⟩] 2), #[]⟩),
  (128, ⟨(.type "type"), none, (.cls { name := (Str.ofString "LimitFault"), bases := [(.ref 75)], mro := [(.ref 128), (.ref 75), (.type "Exception"), (.type "BaseException"), (.type "object")], ns := 127, qualname := (Str.ofString "LimitFault"), hasDict := true, slotNames := [], subclasses := [], abstract := false, collection := none, hasDel := false }), #[(some (.ref 119)), none, (some (.str (Str.ofString "LimitFault") 324)), (some (.str (Str.ofString "LimitFault") 332)), (some (.builtin "Exception.__new__")), (some (.bool true))]⟩),
  (136, ⟨(.type "code"), none, (.fields #[(.str (Str.ofString "is_array") 348), (.str (Str.ofString "is_array") 349), (.str (Str.ofString "/claim/cut.py") 350), (.int (47) 0), (.int (1) 0), (.int (0) 0), (.int (0) 0), (.int (3) 0), (.ref 131), (.bool true), (.int (181) 0), (.ref 132), .none, (.ref 133), (.ref 134), (.ref 135), (.int (352) 0), (.int (47) 0), (.str (Str.ofString "/claim/cut.py") 353)]), #[]⟩),
  (137, ⟨(.type "function"), none, (.func (fnX (Str.ofString "is_array") (Str.ofString "is_array") (fa (st 15)) (fb (st 15)) (fs (st 15)) [] .none .none .none (.str (Str.ofString "fdsolve.values") 340) none (.ref 136) .none)), #[]⟩),
  (143, ⟨(.type "code"), none, (.fields #[(.str (Str.ofString "is_set") 355), (.str (Str.ofString "is_set") 356), (.str (Str.ofString "/claim/cut.py") 357), (.int (49) 0), (.int (1) 0), (.int (0) 0), (.int (0) 0), (.int (3) 0), (.ref 138), (.bool true), (.int (181) 0), (.ref 139), .none, (.ref 140), (.ref 141), (.ref 142), (.int (359) 0), (.int (49) 0), (.str (Str.ofString "/claim/cut.py") 360)]), #[]⟩),
  (144, ⟨(.type "function"), none, (.func (fnX (Str.ofString "is_set") (Str.ofString "is_set") (fa (st 16)) (fb (st 16)) (fs (st 16)) [] .none .none .none (.str (Str.ofString "fdsolve.values") 340) none (.ref 143) .none)), #[]⟩),
  (150, ⟨(.type "code"), none, (.fields #[(.str (Str.ofString "number_of") 362), (.str (Str.ofString "number_of") 363), (.str (Str.ofString "/claim/cut.py") 364), (.int (51) 0), (.int (2) 0), (.int (0) 0), (.int (0) 0), (.int (3) 0), (.ref 145), (.bool true), (.int (181) 0), (.ref 146), .none, (.ref 147), (.ref 148), (.ref 149), (.int (367) 0), (.int (51) 0), (.str (Str.ofString "/claim/cut.py") 368)]), #[]⟩),
  (151, ⟨(.type "function"), none, (.func (fnX (Str.ofString "number_of") (Str.ofString "number_of") (fa (st 17)) (fb (st 17)) (fs (st 17)) [] .none .none .none (.str (Str.ofString "fdsolve.values") 340) none (.ref 150) .none)), #[]⟩),
  (157, ⟨(.type "code"), none, (.fields #[(.str (Str.ofString "truth_of") 370), (.str (Str.ofString "truth_of") 371), (.str (Str.ofString "/claim/cut.py") 372), (.int (55) 0), (.int (2) 0), (.int (0) 0), (.int (0) 0), (.int (3) 0), (.ref 152), (.bool true), (.int (181) 0), (.ref 153), .none, (.ref 154), (.ref 155), (.ref 156), (.int (375) 0), (.int (55) 0), (.str (Str.ofString "/claim/cut.py") 376)]), #[]⟩),
  (158, ⟨(.type "function"), none, (.func (fnX (Str.ofString "truth_of") (Str.ofString "truth_of") (fa (st 18)) (fb (st 18)) (fs (st 18)) [] .none .none .none (.str (Str.ofString "fdsolve.values") 340) none (.ref 157) .none)), #[]⟩),
  (164, ⟨(.type "code"), none, (.fields #[(.str (Str.ofString "text_of") 378), (.str (Str.ofString "text_of") 379), (.str (Str.ofString "/claim/cut.py") 380), (.int (59) 0), (.int (2) 0), (.int (0) 0), (.int (0) 0), (.int (3) 0), (.ref 159), (.bool true), (.int (181) 0), (.ref 160), .none, (.ref 161), (.ref 162), (.ref 163), (.int (383) 0), (.int (59) 0), (.str (Str.ofString "/claim/cut.py") 384)]), #[]⟩),
  (165, ⟨(.type "function"), none, (.func (fnX (Str.ofString "text_of") (Str.ofString "text_of") (fa (st 19)) (fb (st 19)) (fs (st 19)) [] .none .none .none (.str (Str.ofString "fdsolve.values") 340) none (.ref 164) .none)), #[]⟩),
  (171, ⟨(.type "code"), none, (.fields #[(.str (Str.ofString "set_of") 386), (.str (Str.ofString "set_of") 387), (.str (Str.ofString "/claim/cut.py") 388), (.int (63) 0), (.int (2) 0), (.int (0) 0), (.int (0) 0), (.int (3) 0), (.ref 166), (.bool true), (.int (181) 0), (.ref 167), .none, (.ref 168), (.ref 169), (.ref 170), (.int (391) 0), (.int (63) 0), (.str (Str.ofString "/claim/cut.py") 392)]), #[]⟩),
  (172, ⟨(.type "function"), none, (.func (fnX (Str.ofString "set_of") (Str.ofString "set_of") (fa (st 20)) (fb (st 20)) (fs (st 20)) [] .none .none .none (.str (Str.ofString "fdsolve.values") 340) none (.ref 171) .none)), #[]⟩),
  (178, ⟨(.type "code"), none, (.fields #[(.str (Str.ofString "list_of") 394), (.str (Str.ofString "list_of") 395), (.str (Str.ofString "/claim/cut.py") 396), (.int (67) 0), (.int (2) 0), (.int (0) 0), (.int (0) 0), (.int (3) 0), (.ref 173), (.bool true), (.int (181) 0), (.ref 174), .none, (.ref 175), (.ref 176), (.ref 177), (.int (399) 0), (.int (67) 0), (.str (Str.ofString "/claim/cut.py") 400)]), #[]⟩),
  (179, ⟨(.type "function"), none, (.func (fnX (Str.ofString "list_of") (Str.ofString "list_of") (fa (st 21)) (fb (st 21)) (fs (st 21)) [] .none .none .none (.str (Str.ofString "fdsolve.values") 340) none (.ref 178) .none)), #[]⟩),
  (185, ⟨(.type "code"), none, (.fields #[(.str (Str.ofString "elements_of") 402), (.str (Str.ofString "elements_of") 403), (.str (Str.ofString "/claim/cut.py") 404), (.int (71) 0), (.int (2) 0), (.int (0) 0), (.int (0) 0), (.int (3) 0), (.ref 180), (.bool true), (.int (181) 0), (.ref 181), .none, (.ref 182), (.ref 183), (.ref 184), (.int (407) 0), (.int (71) 0), (.str (Str.ofString "/claim/cut.py") 408)]), #[]⟩),
  (186, ⟨(.type "function"), none, (.func (fnX (Str.ofString "elements_of") (Str.ofString "elements_of") (fa (st 22)) (fb (st 22)) (fs (st 22)) [] .none .none .none (.str (Str.ofString "fdsolve.values") 340) none (.ref 185) .none)), #[]⟩),
  (192, ⟨(.type "code"), none, (.fields #[(.str (Str.ofString "row_of") 410), (.str (Str.ofString "row_of") 411), (.str (Str.ofString "/claim/cut.py") 412), (.int (73) 0), (.int (1) 0), (.int (0) 0), (.int (0) 0), (.int (3) 0), (.ref 187), (.bool true), (.int (181) 0), (.ref 188), .none, (.ref 189), (.ref 190), (.ref 191), (.int (414) 0), (.int (73) 0), (.str (Str.ofString "/claim/cut.py") 415)]), #[]⟩),
  (193, ⟨(.type "function"), none, (.func (fnX (Str.ofString "row_of") (Str.ofString "row_of") (fa (st 23)) (fb (st 23)) (fs (st 23)) [] .none .none .none (.str (Str.ofString "fdsolve.values") 340) none (.ref 192) .none)), #[]⟩),
  (199, ⟨(.type "code"), none, (.fields #[(.str (Str.ofString "span") 417), (.str (Str.ofString "span") 418), (.str (Str.ofString "/claim/cut.py") 419), (.int (75) 0), (.int (2) 0), (.int (0) 0), (.int (0) 0), (.int (3) 0), (.ref 194), (.bool true), (.int (181) 0), (.ref 195), .none, (.ref 196), (.ref 197), (.ref 198), (.int (422) 0), (.int (75) 0), (.str (Str.ofString "/claim/cut.py") 423)]), #[]⟩),
  (200, ⟨(.type "function"), none, (.func (fnX (Str.ofString "span") (Str.ofString "span") (fa (st 24)) (fb (st 24)) (fs (st 24)) [] .none .none .none (.str (Str.ofString "fdsolve.values") 340) none (.ref 199) .none)), #[]⟩),
  (206, ⟨(.type "code"), none, (.fields #[(.str (Str.ofString "quotient") 425), (.str (Str.ofString "quotient") 426), (.str (Str.ofString "/claim/cut.py") 427), (.int (79) 0), (.int (3) 0), (.int (0) 0), (.int (0) 0), (.int (3) 0), (.ref 201), (.bool true), (.int (181) 0), (.ref 202), .none, (.ref 203), (.ref 204), (.ref 205), (.int (432) 0), (.int (79) 0), (.str (Str.ofString "/claim/cut.py") 433)]), #[]⟩),
  (207, ⟨(.type "function"), none, (.func (fnX (Str.ofString "quotient") (Str.ofString "quotient") (fa (st 25)) (fb (st 25)) (fs (st 25)) [] .none .none .none (.str (Str.ofString "fdsolve.values") 340) none (.ref 206) .none)), #[]⟩),
  (213, ⟨(.type "code"), none, (.fields #[(.str (Str.ofString "within_figures") 435), (.str (Str.ofString "within_figures") 436), (.str (Str.ofString "/claim/cut.py") 437), (.int (84) 0), (.int (1) 0), (.int (0) 0), (.int (0) 0), (.int (3) 0), (.ref 208), (.bool true), (.int (181) 0), (.ref 209), .none, (.ref 210), (.ref 211), (.ref 212), (.int (439) 0), (.int (84) 0), (.str (Str.ofString "/claim/cut.py") 440)]), #[]⟩),
  (214, ⟨(.type "function"), none, (.func (fnX (Str.ofString "within_figures") (Str.ofString "within_figures") (fa (st 26)) (fb (st 26)) (fs (st 26)) [] .none .none .none (.str (Str.ofString "fdsolve.values") 340) none (.ref 213) .none)), #[]⟩),
  (220, ⟨(.type "code"), none, (.fields #[(.str (Str.ofString "power") 442), (.str (Str.ofString "power") 443), (.str (Str.ofString "/claim/cut.py") 444), (.int (88) 0), (.int (3) 0), (.int (0) 0), (.int (0) 0), (.int (3) 0), (.ref 215), (.bool true), (.int (181) 0), (.ref 216), .none, (.ref 217), (.ref 218), (.ref 219), (.int (450) 0), (.int (88) 0), (.str (Str.ofString "/claim/cut.py") 451)]), #[]⟩),
  (221, ⟨(.type "function"), none, (.func (fnX (Str.ofString "power") (Str.ofString "power") (fa (st 27)) (fb (st 27)) (fs (st 27)) [] .none .none .none (.str (Str.ofString "fdsolve.values") 340) none (.ref 220) .none)), #[]⟩),
  (225, ⟨(.type "code"), none, (.fields #[(.str (Str.ofString "are_same") 453), (.str (Str.ofString "are_same") 454), (.str (Str.ofString "/claim/cut.py") 455), (.int (97) 0), (.int (2) 0), (.int (0) 0), (.int (0) 0), (.int (3) 0), (.ref 222), (.bool true), (.int (181) 0), (.ref 223), .none, .none, .none, (.ref 224), (.int (456) 0), (.int (97) 0), (.str (Str.ofString "/claim/cut.py") 457)]), #[]⟩),
  (226, ⟨(.type "function"), none, (.func (fnX (Str.ofString "are_same") (Str.ofString "are_same") (fa (st 28)) (fb (st 28)) (fs (st 28)) [] .none .none .none (.str (Str.ofString "fdsolve.values") 340) none (.ref 225) .none)), #[]⟩),
  (232, ⟨(.type "code"), none, (.fields #[(.str (Str.ofString "are_compared") 459), (.str (Str.ofString "are_compared") 460), (.str (Str.ofString "/claim/cut.py") 461), (.int (103) 0), (.int (4) 0), (.int (0) 0), (.int (0) 0), (.int (3) 0), (.ref 227), (.bool true), (.int (181) 0), (.ref 228), .none, (.ref 229), (.ref 230), (.ref 231), (.int (466) 0), (.int (103) 0), (.str (Str.ofString "/claim/cut.py") 467)]), #[]⟩),
  (233, ⟨(.type "function"), none, (.func (fnX (Str.ofString "are_compared") (Str.ofString "are_compared") (fa (st 29)) (fb (st 29)) (fs (st 29)) [] .none .none .none (.str (Str.ofString "fdsolve.values") 340) none (.ref 232) .none)), #[]⟩),
  (237, ⟨(.type "code"), none, (.fields #[(.str (Str.ofString "joined_sets") 469), (.str (Str.ofString "joined_sets") 470), (.str (Str.ofString "/claim/cut.py") 471), (.int (115) 0), (.int (3) 0), (.int (0) 0), (.int (0) 0), (.int (3) 0), (.ref 234), (.bool true), (.int (181) 0), (.ref 235), .none, .none, .none, (.ref 236), (.int (472) 0), (.int (115) 0), (.str (Str.ofString "/claim/cut.py") 473)]), #[]⟩),
  (238, ⟨(.type "function"), none, (.func (fnX (Str.ofString "joined_sets") (Str.ofString "joined_sets") (fa (st 30)) (fb (st 30)) (fs (st 30)) [] .none .none .none (.str (Str.ofString "fdsolve.values") 340) none (.ref 237) .none)), #[]⟩),
  (244, ⟨(.type "code"), none, (.fields #[(.str (Str.ofString "reckoned") 475), (.str (Str.ofString "reckoned") 476), (.str (Str.ofString "/claim/cut.py") 477), (.int (123) 0), (.int (4) 0), (.int (0) 0), (.int (0) 0), (.int (3) 0), (.ref 239), (.bool true), (.int (181) 0), (.ref 240), .none, (.ref 241), (.ref 242), (.ref 243), (.int (482) 0), (.int (123) 0), (.str (Str.ofString "/claim/cut.py") 483)]), #[]⟩),
  (245, ⟨(.type "function"), none, (.func (fnX (Str.ofString "reckoned") (Str.ofString "reckoned") (fa (st 31)) (fb (st 31)) (fs (st 31)) [] .none .none .none (.str (Str.ofString "fdsolve.values") 340) none (.ref 244) .none)), #[]⟩),
  (249, ⟨(.type "code"), none, (.fields #[(.str (Str.ofString "show_text") 485), (.str (Str.ofString "show_text") 486), (.str (Str.ofString "/claim/cut.py") 487), (.int (135) 0), (.int (1) 0), (.int (0) 0), (.int (0) 0), (.int (3) 0), (.ref 246), (.bool true), (.int (181) 0), (.ref 247), .none, .none, .none, (.ref 248), (.int (488) 0), (.int (135) 0), (.str (Str.ofString "/claim/cut.py") 489)]), #[]⟩),
  (250, ⟨(.type "function"), none, (.func (fnX (Str.ofString "show_text") (Str.ofString "show_text") (fa (st 32)) (fb (st 32)) (fs (st 32)) [] .none .none .none (.str (Str.ofString "fdsolve.values") 340) none (.ref 249) .none)), #[]⟩),
  (254, ⟨(.type "code"), none, (.fields #[(.str (Str.ofString "folded") 491), (.str (Str.ofString "folded") 492), (.str (Str.ofString "/claim/cut.py") 493), (.int (147) 0), (.int (3) 0), (.int (0) 0), (.int (0) 0), (.int (3) 0), (.ref 251), (.bool true), (.int (181) 0), (.ref 252), .none, .none, .none, (.ref 253), (.int (494) 0), (.int (147) 0), (.str (Str.ofString "/claim/cut.py") 495)]), #[]⟩),
  (255, ⟨(.type "function"), none, (.func (fnX (Str.ofString "folded") (Str.ofString "folded") (fa (st 33)) (fb (st 33)) (fs (st 33)) [] .none .none .none (.str (Str.ofString "fdsolve.values") 340) none (.ref 254) .none)), #[]⟩),
  (256, ⟨(.type "tuple"), none, (.seq #[(.str (Str.ofString "forall") 497), (.str (Str.ofString "exists") 498), (.str (Str.ofString "xorall") 499), (.str (Str.ofString "iffall") 500), (.str (Str.ofString "sum") 501), (.str (Str.ofString "product") 502), (.str (Str.ofString "min") 503), (.str (Str.ofString "max") 504)] 0), #[]⟩),
  (260, ⟨(.type "code"), none, (.fields #[(.str (Str.ofString "scopes_of") 506), (.str (Str.ofString "scopes_of") 507), (.str (Str.ofString "/claim/cut.py") 508), (.int (167) 0), (.int (3) 0), (.int (0) 0), (.int (0) 0), (.int (3) 0), (.ref 257), (.bool true), (.int (181) 0), (.ref 258), .none, .none, .none, (.ref 259), (.int (509) 0), (.int (167) 0), (.str (Str.ofString "/claim/cut.py") 510)]), #[]⟩),
  (261, ⟨(.type "function"), none, (.func (fnX (Str.ofString "scopes_of") (Str.ofString "scopes_of") (fa (st 35)) (fb (st 35)) (fs (st 35)) [] .none .none .none (.str (Str.ofString "fdsolve.values") 340) none (.ref 260) .none)), #[]⟩),
  (274, ⟨(.type "code"), none, (.fields #[(.str (Str.ofString "__init__") 524), (.str (Str.ofString "Evaluator.__init__") 525), (.str (Str.ofString "/claim/cut.py") 526), (.int (188) 0), (.int (2) 0), (.int (0) 0), (.int (0) 0), (.int (3) 0), (.ref 269), (.bool true), (.int (181) 0), (.ref 270), .none, (.ref 271), (.ref 272), (.ref 273), (.int (529) 0), (.int (188) 0), (.str (Str.ofString "/claim/cut.py") 530)]), #[]⟩),
  (275, ⟨(.type "function"), none, (.func (fnX (Str.ofString "__init__") (Str.ofString "Evaluator.__init__") (fa (ms 36 0)) (fb (ms 36 0)) (fs (ms 36 0)) [] .none .none .none (.str (Str.ofString "fdsolve.values") 340) none (.ref 274) .none)), #[]⟩),
  (281, ⟨(.type "code"), none, (.fields #[(.str (Str.ofString "value_of") 532), (.str (Str.ofString "Evaluator.value_of") 533), (.str (Str.ofString "/claim/cut.py") 534), (.int (191) 0), (.int (2) 0), (.int (0) 0), (.int (0) 0), (.int (3) 0), (.ref 276), (.bool true), (.int (181) 0), (.ref 277), .none, (.ref 278), (.ref 279), (.ref 280), (.int (539) 0), (.int (191) 0), (.str (Str.ofString "/claim/cut.py") 540)]), #[]⟩),
  (282, ⟨(.type "function"), none, (.func (fnX (Str.ofString "value_of") (Str.ofString "Evaluator.value_of") (fa (ms 36 1)) (fb (ms 36 1)) (fs (ms 36 1)) [] .none .none .none (.str (Str.ofString "fdsolve.values") 340) none (.ref 281) .none)), #[]⟩),
  (286, ⟨(.type "code"), none, (.fields #[(.str (Str.ofString "values_of") 542), (.str (Str.ofString "Evaluator.values_of") 543), (.str (Str.ofString "/claim/cut.py") 544), (.int (217) 0), (.int (2) 0), (.int (0) 0), (.int (0) 0), (.int (3) 0), (.ref 283), (.bool true), (.int (181) 0), (.ref 284), .none, .none, .none, (.ref 285), (.int (545) 0), (.int (217) 0), (.str (Str.ofString "/claim/cut.py") 546)]), #[]⟩),
  (287, ⟨(.type "function"), none, (.func (fnX (Str.ofString "values_of") (Str.ofString "Evaluator.values_of") (fa (ms 36 2)) (fb (ms 36 2)) (fs (ms 36 2)) [] .none .none .none (.str (Str.ofString "fdsolve.values") 340) none (.ref 286) .none)), #[]⟩),
  (291, ⟨(.type "code"), none, (.fields #[(.str (Str.ofString "built") 548), (.str (Str.ofString "Evaluator.built") 549), (.str (Str.ofString "/claim/cut.py") 550), (.int (220) 0), (.int (4) 0), (.int (0) 0), (.int (0) 0), (.int (3) 0), (.ref 288), (.bool true), (.int (181) 0), (.ref 289), .none, .none, .none, (.ref 290), (.int (551) 0), (.int (220) 0), (.str (Str.ofString "/claim/cut.py") 552)]), #[]⟩),
  (292, ⟨(.type "function"), none, (.func (fnX (Str.ofString "built") (Str.ofString "Evaluator.built") (fa (ms 36 3)) (fb (ms 36 3)) (fs (ms 36 3)) [] .none .none .none (.str (Str.ofString "fdsolve.values") 340) none (.ref 291) .none)), #[]⟩),
  (298, ⟨(.type "code"), none, (.fields #[(.str (Str.ofString "gathered") 554), (.str (Str.ofString "Evaluator.gathered") 555), (.str (Str.ofString "/claim/cut.py") 556), (.int (241) 0), (.int (2) 0), (.int (0) 0), (.int (0) 0), (.int (3) 0), (.ref 293), (.bool true), (.int (181) 0), (.ref 294), .none, (.ref 295), (.ref 296), (.ref 297), (.int (563) 0), (.int (241) 0), (.str (Str.ofString "/claim/cut.py") 564)]), #[]⟩),
  (299, ⟨(.type "function"), none, (.func (fnX (Str.ofString "gathered") (Str.ofString "Evaluator.gathered") (fa (ms 36 4)) (fb (ms 36 4)) (fs (ms 36 4)) [] .none .none .none (.str (Str.ofString "fdsolve.values") 340) none (.ref 298) .none)), #[]⟩),
  (305, ⟨(.type "code"), none, (.fields #[(.str (Str.ofString "of_one") 566), (.str (Str.ofString "Evaluator.of_one") 567), (.str (Str.ofString "/claim/cut.py") 568), (.int (249) 0), (.int (4) 0), (.int (0) 0), (.int (0) 0), (.int (3) 0), (.ref 300), (.bool true), (.int (181) 0), (.ref 301), .none, (.ref 302), (.ref 303), (.ref 304), (.int (574) 0), (.int (249) 0), (.str (Str.ofString "/claim/cut.py") 575)]), #[]⟩),
  (306, ⟨(.type "function"), none, (.func (fnX (Str.ofString "of_one") (Str.ofString "Evaluator.of_one") (fa (ms 36 5)) (fb (ms 36 5)) (fs (ms 36 5)) [] .none .none .none (.str (Str.ofString "fdsolve.values") 340) none (.ref 305) .none)), #[]⟩),
  (312, ⟨(.type "code"), none, (.fields #[(.str (Str.ofString "of_two") 577), (.str (Str.ofString "Evaluator.of_two") 578), (.str (Str.ofString "/claim/cut.py") 579), (.int (255) 0), (.int (5) 0), (.int (0) 0), (.int (0) 0), (.int (3) 0), (.ref 307), (.bool true), (.int (181) 0), (.ref 308), .none, (.ref 309), (.ref 310), (.ref 311), (.int (589) 0), (.int (255) 0), (.str (Str.ofString "/claim/cut.py") 590)]), #[]⟩),
  (313, ⟨(.type "function"), none, (.func (fnX (Str.ofString "of_two") (Str.ofString "Evaluator.of_two") (fa (ms 36 6)) (fb (ms 36 6)) (fs (ms 36 6)) [] .none .none .none (.str (Str.ofString "fdsolve.values") 340) none (.ref 312) .none)), #[]⟩),
  (319, ⟨(.type "code"), none, (.fields #[(.str (Str.ofString "element") 592), (.str (Str.ofString "Evaluator.element") 593), (.str (Str.ofString "/claim/cut.py") 594), (.int (283) 0), (.int (2) 0), (.int (0) 0), (.int (0) 0), (.int (3) 0), (.ref 314), (.bool true), (.int (181) 0), (.ref 315), .none, (.ref 316), (.ref 317), (.ref 318), (.int (605) 0), (.int (283) 0), (.str (Str.ofString "/claim/cut.py") 606)]), #[]⟩),
  (320, ⟨(.type "function"), none, (.func (fnX (Str.ofString "element") (Str.ofString "Evaluator.element") (fa (ms 36 7)) (fb (ms 36 7)) (fs (ms 36 7)) [] .none .none .none (.str (Str.ofString "fdsolve.values") 340) none (.ref 319) .none)), #[]⟩),
  (326, ⟨(.type "code"), none, (.fields #[(.str (Str.ofString "chosen") 608), (.str (Str.ofString "Evaluator.chosen") 609), (.str (Str.ofString "/claim/cut.py") 610), (.int (296) 0), (.int (2) 0), (.int (0) 0), (.int (0) 0), (.int (3) 0), (.ref 321), (.bool true), (.int (181) 0), (.ref 322), .none, (.ref 323), (.ref 324), (.ref 325), (.int (615) 0), (.int (296) 0), (.str (Str.ofString "/claim/cut.py") 616)]), #[]⟩),
  (327, ⟨(.type "function"), none, (.func (fnX (Str.ofString "chosen") (Str.ofString "Evaluator.chosen") (fa (ms 36 8)) (fb (ms 36 8)) (fs (ms 36 8)) [] .none .none .none (.str (Str.ofString "fdsolve.values") 340) none (.ref 326) .none)), #[]⟩),
  (333, ⟨(.type "code"), none, (.fields #[(.str (Str.ofString "asserted") 618), (.str (Str.ofString "Evaluator.asserted") 619), (.str (Str.ofString "/claim/cut.py") 620), (.int (302) 0), (.int (2) 0), (.int (0) 0), (.int (0) 0), (.int (3) 0), (.ref 328), (.bool true), (.int (181) 0), (.ref 329), .none, (.ref 330), (.ref 331), (.ref 332), (.int (623) 0), (.int (302) 0), (.str (Str.ofString "/claim/cut.py") 624)]), #[]⟩),
  (334, ⟨(.type "function"), none, (.func (fnX (Str.ofString "asserted") (Str.ofString "Evaluator.asserted") (fa (ms 36 9)) (fb (ms 36 9)) (fs (ms 36 9)) [] .none .none .none (.str (Str.ofString "fdsolve.values") 340) none (.ref 333) .none)), #[]⟩),
  (340, ⟨(.type "code"), none, (.fields #[(.str (Str.ofString "within") 626), (.str (Str.ofString "Evaluator.within") 627), (.str (Str.ofString "/claim/cut.py") 628), (.int (307) 0), (.int (2) 0), (.int (0) 0), (.int (0) 0), (.int (3) 0), (.ref 335), (.bool true), (.int (181) 0), (.ref 336), .none, (.ref 337), (.ref 338), (.ref 339), (.int (633) 0), (.int (307) 0), (.str (Str.ofString "/claim/cut.py") 634)]), #[]⟩),
  (341, ⟨(.type "function"), none, (.func (fnX (Str.ofString "within") (Str.ofString "Evaluator.within") (fa (ms 36 10)) (fb (ms 36 10)) (fs (ms 36 10)) [] .none .none .none (.str (Str.ofString "fdsolve.values") 340) none (.ref 340) .none)), #[]⟩),
  (347, ⟨(.type "code"), none, (.fields #[(.str (Str.ofString "ranges_of") 636), (.str (Str.ofString "Evaluator.ranges_of") 637), (.str (Str.ofString "/claim/cut.py") 638), (.int (319) 0), (.int (4) 0), (.int (0) 0), (.int (0) 0), (.int (3) 0), (.ref 342), (.bool true), (.int (181) 0), (.ref 343), .none, (.ref 344), (.ref 345), (.ref 346), (.int (648) 0), (.int (319) 0), (.str (Str.ofString "/claim/cut.py") 649)]), #[]⟩),
  (348, ⟨(.type "function"), none, (.func (fnX (Str.ofString "ranges_of") (Str.ofString "Evaluator.ranges_of") (fa (ms 36 11)) (fb (ms 36 11)) (fs (ms 36 11)) [] .none .none .none (.str (Str.ofString "fdsolve.values") 340) none (.ref 347) .none)), #[]⟩),
  (354, ⟨(.type "code"), none, (.fields #[(.str (Str.ofString "domain_of") 651), (.str (Str.ofString "Evaluator.domain_of") 652), (.str (Str.ofString "/claim/cut.py") 653), (.int (334) 0), (.int (2) 0), (.int (0) 0), (.int (0) 0), (.int (3) 0), (.ref 349), (.bool true), (.int (181) 0), (.ref 350), .none, (.ref 351), (.ref 352), (.ref 353), (.int (658) 0), (.int (334) 0), (.str (Str.ofString "/claim/cut.py") 659)]), #[]⟩),
  (355, ⟨(.type "function"), none, (.func (fnX (Str.ofString "domain_of") (Str.ofString "Evaluator.domain_of") (fa (ms 36 12)) (fb (ms 36 12)) (fs (ms 36 12)) [] .none .none .none (.str (Str.ofString "fdsolve.values") 340) none (.ref 354) .none)), #[]⟩),
  (359, ⟨(.type "code"), none, (.fields #[(.str (Str.ofString "fitted") 661), (.str (Str.ofString "Evaluator.fitted") 662), (.str (Str.ofString "/claim/cut.py") 663), (.int (340) 0), (.int (4) 0), (.int (0) 0), (.int (0) 0), (.int (3) 0), (.ref 356), (.bool true), (.int (181) 0), (.ref 357), .none, .none, .none, (.ref 358), (.int (664) 0), (.int (340) 0), (.str (Str.ofString "/claim/cut.py") 665)]), #[]⟩),
  (360, ⟨(.type "function"), none, (.func (fnX (Str.ofString "fitted") (Str.ofString "Evaluator.fitted") (fa (ms 36 13)) (fb (ms 36 13)) (fs (ms 36 13)) [] .none .none .none (.str (Str.ofString "fdsolve.values") 340) none (.ref 359) .none)), #[]⟩),
  (361, ⟨(.type "tuple"), none, (.seq #[(.str (Str.ofString "scope") 667)] 0), #[]⟩),
  (362, ⟨(.type "dict"), none, (.dict #[⟨PyData.keyHash P (Str.ofString "__module__"), .str (Str.ofString "__module__") 519, (.str (Str.ofString "fdsolve.values") 340)⟩, ⟨PyData.keyHash P (Str.ofString "__firstlineno__"), .str (Str.ofString "__firstlineno__") 523, (.int (186) 522)⟩, ⟨PyData.keyHash P (Str.ofString "__init__"), .str (Str.ofString "__init__") 531, (.ref 275)⟩, ⟨PyData.keyHash P (Str.ofString "value_of"), .str (Str.ofString "value_of") 541, (.ref 282)⟩, ⟨PyData.keyHash P (Str.ofString "values_of"), .str (Str.ofString "values_of") 547, (.ref 287)⟩, ⟨PyData.keyHash P (Str.ofString "built"), .str (Str.ofString "built") 553, (.ref 292)⟩, ⟨PyData.keyHash P (Str.ofString "gathered"), .str (Str.ofString "gathered") 565, (.ref 299)⟩, ⟨PyData.keyHash P (Str.ofString "of_one"), .str (Str.ofString "of_one") 576, (.ref 306)⟩, ⟨PyData.keyHash P (Str.ofString "of_two"), .str (Str.ofString "of_two") 591, (.ref 313)⟩, ⟨PyData.keyHash P (Str.ofString "element"), .str (Str.ofString "element") 607, (.ref 320)⟩, ⟨PyData.keyHash P (Str.ofString "chosen"), .str (Str.ofString "chosen") 617, (.ref 327)⟩, ⟨PyData.keyHash P (Str.ofString "asserted"), .str (Str.ofString "asserted") 625, (.ref 334)⟩, ⟨PyData.keyHash P (Str.ofString "within"), .str (Str.ofString "within") 635, (.ref 341)⟩, ⟨PyData.keyHash P (Str.ofString "ranges_of"), .str (Str.ofString "ranges_of") 650, (.ref 348)⟩, ⟨PyData.keyHash P (Str.ofString "domain_of"), .str (Str.ofString "domain_of") 660, (.ref 355)⟩, ⟨PyData.keyHash P (Str.ofString "fitted"), .str (Str.ofString "fitted") 666, (.ref 360)⟩, ⟨PyData.keyHash P (Str.ofString "__static_attributes__"), .str (Str.ofString "__static_attributes__") 668, (.ref 361)⟩, ⟨PyData.keyHash P (Str.ofString "__dict__"), .str (Str.ofString "__dict__") 670, (.ref 364)⟩, ⟨PyData.keyHash P (Str.ofString "__weakref__"), .str (Str.ofString "__weakref__") 672, (.ref 365)⟩, ⟨PyData.keyHash P (Str.ofString "__doc__"), .str (Str.ofString "__doc__") 673, .none⟩] 4), #[]⟩),
  (363, ⟨(.type "type"), none, (.cls { name := (Str.ofString "Evaluator"), bases := [(.type "object")], mro := [(.ref 363), (.type "object")], ns := 362, qualname := (Str.ofString "Evaluator"), hasDict := true, slotNames := [], subclasses := [], abstract := false, collection := none, hasDel := false }), #[none, none, (some (.str (Str.ofString "Evaluator") 512)), (some (.str (Str.ofString "Evaluator") 520)), (some (.builtin "object.__new__")), (some (.bool true))]⟩),
  (364, ⟨(.type "getset_descriptor"), none, (.fields #[(.str (Str.ofString "__dict__") 669), (.ref 363), (.builtin "function.__dict__"), (.builtin "function.__dict__#set")]), #[]⟩),
  (365, ⟨(.type "getset_descriptor"), none, (.fields #[(.str (Str.ofString "__weakref__") 671), (.ref 363), (.builtin "ExceptionGroup.__weakref__"), .none]), #[]⟩),
  (371, ⟨(.type "code"), none, (.fields #[(.str (Str.ofString "fitted_one") 676), (.str (Str.ofString "fitted_one") 677), (.str (Str.ofString "/claim/cut.py") 678), (.int (347) 0), (.int (4) 0), (.int (0) 0), (.int (0) 0), (.int (3) 0), (.ref 368), (.bool true), (.int (181) 0), (.ref 369), .none, .none, .none, (.ref 370), (.int (679) 0), (.int (347) 0), (.str (Str.ofString "/claim/cut.py") 680)]), #[]⟩),
  (372, ⟨(.type "function"), none, (.func (fnX (Str.ofString "fitted_one") (Str.ofString "fitted_one") (fa (st 37)) (fb (st 37)) (fs (st 37)) [] .none .none .none (.str (Str.ofString "fdsolve.values") 340) none (.ref 371) .none)), #[]⟩),
  (376, ⟨(.type "code"), none, (.fields #[(.str (Str.ofString "called") 682), (.str (Str.ofString "called") 683), (.str (Str.ofString "/claim/cut.py") 684), (.int (356) 0), (.int (3) 0), (.int (0) 0), (.int (0) 0), (.int (3) 0), (.ref 373), (.bool true), (.int (181) 0), (.ref 374), .none, .none, .none, (.ref 375), (.int (685) 0), (.int (356) 0), (.str (Str.ofString "/claim/cut.py") 686)]), #[]⟩),
  (377, ⟨(.type "function"), none, (.func (fnX (Str.ofString "called") (Str.ofString "called") (fa (st 38)) (fb (st 38)) (fs (st 38)) [] .none .none .none (.str (Str.ofString "fdsolve.values") 340) none (.ref 376) .none)), #[]⟩),
  (383, ⟨(.type "code"), none, (.fields #[(.str (Str.ofString "alone") 688), (.str (Str.ofString "alone") 689), (.str (Str.ofString "/claim/cut.py") 690), (.int (380) 0), (.int (3) 0), (.int (0) 0), (.int (0) 0), (.int (3) 0), (.ref 378), (.bool true), (.int (181) 0), (.ref 379), .none, (.ref 380), (.ref 381), (.ref 382), (.int (694) 0), (.int (380) 0), (.str (Str.ofString "/claim/cut.py") 695)]), #[]⟩),
  (384, ⟨(.type "function"), none, (.func (fnX (Str.ofString "alone") (Str.ofString "alone") (fa (st 39)) (fb (st 39)) (fs (st 39)) [] .none .none .none (.str (Str.ofString "fdsolve.values") 340) none (.ref 383) .none)), #[]⟩),
  (388, ⟨(.type "code"), none, (.fields #[(.str (Str.ofString "of_value") 697), (.str (Str.ofString "of_value") 698), (.str (Str.ofString "/claim/cut.py") 699), (.int (384) 0), (.int (3) 0), (.int (0) 0), (.int (0) 0), (.int (3) 0), (.ref 385), (.bool true), (.int (181) 0), (.ref 386), .none, .none, .none, (.ref 387), (.int (700) 0), (.int (384) 0), (.str (Str.ofString "/claim/cut.py") 701)]), #[]⟩),
  (389, ⟨(.type "function"), none, (.func (fnX (Str.ofString "of_value") (Str.ofString "of_value") (fa (st 40)) (fb (st 40)) (fs (st 40)) [] .none .none .none (.str (Str.ofString "fdsolve.values") 340) none (.ref 388) .none)), #[]⟩),
  (395, ⟨(.type "code"), none, (.fields #[(.str (Str.ofString "indexes_of") 703), (.str (Str.ofString "indexes_of") 704), (.str (Str.ofString "/claim/cut.py") 705), (.int (403) 0), (.int (3) 0), (.int (0) 0), (.int (0) 0), (.int (3) 0), (.ref 390), (.bool true), (.int (181) 0), (.ref 391), .none, (.ref 392), (.ref 393), (.ref 394), (.int (710) 0), (.int (403) 0), (.str (Str.ofString "/claim/cut.py") 711)]), #[]⟩),
  (396, ⟨(.type "function"), none, (.func (fnX (Str.ofString "indexes_of") (Str.ofString "indexes_of") (fa (st 41)) (fb (st 41)) (fs (st 41)) [] .none .none .none (.str (Str.ofString "fdsolve.values") 340) none (.ref 395) .none)), #[]⟩),
  (400, ⟨(.type "code"), none, (.fields #[(.str (Str.ofString "indexed") 713), (.str (Str.ofString "indexed") 714), (.str (Str.ofString "/claim/cut.py") 715), (.int (409) 0), (.int (3) 0), (.int (0) 0), (.int (0) 0), (.int (3) 0), (.ref 397), (.bool true), (.int (181) 0), (.ref 398), .none, .none, .none, (.ref 399), (.int (716) 0), (.int (409) 0), (.str (Str.ofString "/claim/cut.py") 717)]), #[]⟩),
  (401, ⟨(.type "function"), none, (.func (fnX (Str.ofString "indexed") (Str.ofString "indexed") (fa (st 42)) (fb (st 42)) (fs (st 42)) [] .none .none .none (.str (Str.ofString "fdsolve.values") 340) none (.ref 400) .none)), #[]⟩),
  (407, ⟨(.type "code"), none, (.fields #[(.str (Str.ofString "united") 719), (.str (Str.ofString "united") 720), (.str (Str.ofString "/claim/cut.py") 721), (.int (425) 0), (.int (3) 0), (.int (0) 0), (.int (0) 0), (.int (3) 0), (.ref 402), (.bool true), (.int (181) 0), (.ref 403), .none, (.ref 404), (.ref 405), (.ref 406), (.int (727) 0), (.int (425) 0), (.str (Str.ofString "/claim/cut.py") 728)]), #[]⟩),
  (408, ⟨(.type "function"), none, (.func (fnX (Str.ofString "united") (Str.ofString "united") (fa (st 43)) (fb (st 43)) (fs (st 43)) [] .none .none .none (.str (Str.ofString "fdsolve.values") 340) none (.ref 407) .none)), #[]⟩),
  (414, ⟨(.type "code"), none, (.fields #[(.str (Str.ofString "_law_draw") 732), (.str (Str.ofString "_law_draw") 733), (.str (Str.ofString "/claim/cut.py") 734), (.int (433) 0), (.int (2) 0), (.int (0) 0), (.int (0) 0), (.int (3) 0), (.ref 409), (.bool true), (.int (181) 0), (.ref 410), .none, (.ref 411), (.ref 412), (.ref 413), (.int (738) 0), (.int (433) 0), (.str (Str.ofString "/claim/cut.py") 739)]), #[]⟩),
  (415, ⟨(.type "function"), none, (.func (fnX (Str.ofString "_law_draw") (Str.ofString "_law_draw") (fa (st 45)) (fb (st 45)) (fs (st 45)) [] .none .none .none (.str (Str.ofString "law_pq0379_02") 730) none (.ref 414) .none)), #[]⟩),
  (421, ⟨(.type "code"), none, (.fields #[(.str (Str.ofString "_law_spot") 741), (.str (Str.ofString "_law_spot") 742), (.str (Str.ofString "/claim/cut.py") 743), (.int (439) 0), (.int (1) 0), (.int (0) 0), (.int (0) 0), (.int (3) 0), (.ref 416), (.bool true), (.int (181) 0), (.ref 417), .none, (.ref 418), (.ref 419), (.ref 420), (.int (745) 0), (.int (439) 0), (.str (Str.ofString "/claim/cut.py") 746)]), #[]⟩),
  (422, ⟨(.type "function"), none, (.func (fnX (Str.ofString "_law_spot") (Str.ofString "_law_spot") (fa (st 46)) (fb (st 46)) (fs (st 46)) [] .none .none .none (.str (Str.ofString "law_pq0379_02") 730) none (.ref 421) .none)), #[]⟩),
  (428, ⟨(.type "code"), none, (.fields #[(.str (Str.ofString "_law_number") 748), (.str (Str.ofString "_law_number") 749), (.str (Str.ofString "/claim/cut.py") 750), (.int (442) 0), (.int (1) 0), (.int (0) 0), (.int (0) 0), (.int (3) 0), (.ref 423), (.bool true), (.int (181) 0), (.ref 424), .none, (.ref 425), (.ref 426), (.ref 427), (.int (754) 0), (.int (442) 0), (.str (Str.ofString "/claim/cut.py") 755)]), #[]⟩),
  (429, ⟨(.type "function"), none, (.func (fnX (Str.ofString "_law_number") (Str.ofString "_law_number") (fa (st 47)) (fb (st 47)) (fs (st 47)) [] .none .none .none (.str (Str.ofString "law_pq0379_02") 730) none (.ref 428) .none)), #[]⟩),
  (435, ⟨(.type "code"), none, (.fields #[(.str (Str.ofString "_law_wrong") 757), (.str (Str.ofString "_law_wrong") 758), (.str (Str.ofString "/claim/cut.py") 759), (.int (447) 0), (.int (1) 0), (.int (0) 0), (.int (0) 0), (.int (3) 0), (.ref 430), (.bool true), (.int (181) 0), (.ref 431), .none, (.ref 432), (.ref 433), (.ref 434), (.int (761) 0), (.int (447) 0), (.str (Str.ofString "/claim/cut.py") 762)]), #[]⟩),
  (436, ⟨(.type "function"), none, (.func (fnX (Str.ofString "_law_wrong") (Str.ofString "_law_wrong") (fa (st 48)) (fb (st 48)) (fs (st 48)) [] .none .none .none (.str (Str.ofString "law_pq0379_02") 730) none (.ref 435) .none)), #[]⟩),
  (442, ⟨(.type "code"), none, (.fields #[(.str (Str.ofString "_law_end") 764), (.str (Str.ofString "_law_end") 765), (.str (Str.ofString "/claim/cut.py") 766), (.int (449) 0), (.int (1) 0), (.int (0) 0), (.int (0) 0), (.int (3) 0), (.ref 437), (.bool true), (.int (181) 0), (.ref 438), .none, (.ref 439), (.ref 440), (.ref 441), (.int (770) 0), (.int (449) 0), (.str (Str.ofString "/claim/cut.py") 771)]), #[]⟩),
  (443, ⟨(.type "function"), none, (.func (fnX (Str.ofString "_law_end") (Str.ofString "_law_end") (fa (st 49)) (fb (st 49)) (fs (st 49)) [] .none .none .none (.str (Str.ofString "law_pq0379_02") 730) none (.ref 442) .none)), #[]⟩),
  (447, ⟨(.type "code"), none, (.fields #[(.str (Str.ofString "_law_lot") 773), (.str (Str.ofString "_law_lot") 774), (.str (Str.ofString "/claim/cut.py") 775), (.int (464) 0), (.int (1) 0), (.int (0) 0), (.int (0) 0), (.int (3) 0), (.ref 444), (.bool true), (.int (181) 0), (.ref 445), .none, .none, .none, (.ref 446), (.int (776) 0), (.int (464) 0), (.str (Str.ofString "/claim/cut.py") 777)]), #[]⟩),
  (448, ⟨(.type "function"), none, (.func (fnX (Str.ofString "_law_lot") (Str.ofString "_law_lot") (fa (st 50)) (fb (st 50)) (fs (st 50)) [] .none .none .none (.str (Str.ofString "law_pq0379_02") 730) none (.ref 447) .none)), #[]⟩),
  (454, ⟨(.type "code"), none, (.fields #[(.str (Str.ofString "_law_right") 779), (.str (Str.ofString "_law_right") 780), (.str (Str.ofString "/claim/cut.py") 781), (.int (475) 0), (.int (1) 0), (.int (0) 0), (.int (0) 0), (.int (3) 0), (.ref 449), (.bool true), (.int (181) 0), (.ref 450), .none, (.ref 451), (.ref 452), (.ref 453), (.int (788) 0), (.int (475) 0), (.str (Str.ofString "/claim/cut.py") 789)]), #[]⟩),
  (455, ⟨(.type "function"), none, (.func (fnX (Str.ofString "_law_right") (Str.ofString "_law_right") (fa (st 51)) (fb (st 51)) (fs (st 51)) [] .none .none .none (.str (Str.ofString "law_pq0379_02") 730) none (.ref 454) .none)), #[]⟩),
  (461, ⟨(.type "code"), none, (.fields #[(.str (Str.ofString "_law_left") 791), (.str (Str.ofString "_law_left") 792), (.str (Str.ofString "/claim/cut.py") 793), (.int (485) 0), (.int (1) 0), (.int (0) 0), (.int (0) 0), (.int (3) 0), (.ref 456), (.bool true), (.int (181) 0), (.ref 457), .none, (.ref 458), (.ref 459), (.ref 460), (.int (799) 0), (.int (485) 0), (.str (Str.ofString "/claim/cut.py") 800)]), #[]⟩),
  (462, ⟨(.type "function"), none, (.func (fnX (Str.ofString "_law_left") (Str.ofString "_law_left") (fa (st 52)) (fb (st 52)) (fs (st 52)) [] .none .none .none (.str (Str.ofString "law_pq0379_02") 730) none (.ref 461) .none)), #[]⟩),
  (468, ⟨(.type "code"), none, (.fields #[(.str (Str.ofString "_law_counted") 802), (.str (Str.ofString "_law_counted") 803), (.str (Str.ofString "/claim/cut.py") 804), (.int (493) 0), (.int (2) 0), (.int (0) 0), (.int (0) 0), (.int (3) 0), (.ref 463), (.bool true), (.int (181) 0), (.ref 464), .none, (.ref 465), (.ref 466), (.ref 467), (.int (807) 0), (.int (493) 0), (.str (Str.ofString "/claim/cut.py") 808)]), #[]⟩),
  (469, ⟨(.type "function"), none, (.func (fnX (Str.ofString "_law_counted") (Str.ofString "_law_counted") (fa (st 53)) (fb (st 53)) (fs (st 53)) [] .none .none .none (.str (Str.ofString "law_pq0379_02") 730) none (.ref 468) .none)), #[]⟩),
  (473, ⟨(.type "code"), none, (.fields #[(.str (Str.ofString "_law_told") 810), (.str (Str.ofString "_law_told") 811), (.str (Str.ofString "/claim/cut.py") 812), (.int (497) 0), (.int (2) 0), (.int (0) 0), (.int (0) 0), (.int (3) 0), (.ref 470), (.bool true), (.int (181) 0), (.ref 471), .none, .none, .none, (.ref 472), (.int (813) 0), (.int (497) 0), (.str (Str.ofString "/claim/cut.py") 814)]), #[]⟩),
  (474, ⟨(.type "function"), none, (.func (fnX (Str.ofString "_law_told") (Str.ofString "_law_told") (fa (st 54)) (fb (st 54)) (fs (st 54)) [] .none .none .none (.str (Str.ofString "law_pq0379_02") 730) none (.ref 473) .none)), #[]⟩),
  (478, ⟨(.type "code"), none, (.fields #[(.str (Str.ofString "_law_holds") 816), (.str (Str.ofString "_law_holds") 817), (.str (Str.ofString "/claim/cut.py") 818), (.int (520) 0), (.int (2) 0), (.int (0) 0), (.int (0) 0), (.int (3) 0), (.ref 475), (.bool true), (.int (181) 0), (.ref 476), .none, .none, .none, (.ref 477), (.int (819) 0), (.int (520) 0), (.str (Str.ofString "/claim/cut.py") 820)]), #[]⟩),
  (479, ⟨(.type "function"), none, (.func (fnX (Str.ofString "_law_holds") (Str.ofString "_law_holds") (fa (st 55)) (fb (st 55)) (fs (st 55)) [] .none .none .none (.str (Str.ofString "law_pq0379_02") 730) none (.ref 478) .none)), #[]⟩),
  (485, ⟨(.type "code"), none, (.fields #[(.str (Str.ofString "_law_due") 822), (.str (Str.ofString "_law_due") 823), (.str (Str.ofString "/claim/cut.py") 824), (.int (532) 0), (.int (4) 0), (.int (0) 0), (.int (0) 0), (.int (3) 0), (.ref 480), (.bool true), (.int (181) 0), (.ref 481), .none, (.ref 482), (.ref 483), (.ref 484), (.int (831) 0), (.int (532) 0), (.str (Str.ofString "/claim/cut.py") 832)]), #[]⟩),
  (486, ⟨(.type "function"), none, (.func (fnX (Str.ofString "_law_due") (Str.ofString "_law_due") (fa (st 56)) (fb (st 56)) (fs (st 56)) [] .none .none .none (.str (Str.ofString "law_pq0379_02") 730) none (.ref 485) .none)), #[]⟩),
  (492, ⟨(.type "code"), none, (.fields #[(.str (Str.ofString "_law_heard") 834), (.str (Str.ofString "_law_heard") 835), (.str (Str.ofString "/claim/cut.py") 836), (.int (540) 0), (.int (1) 0), (.int (0) 0), (.int (0) 0), (.int (3) 0), (.ref 487), (.bool true), (.int (181) 0), (.ref 488), .none, (.ref 489), (.ref 490), (.ref 491), (.int (839) 0), (.int (540) 0), (.str (Str.ofString "/claim/cut.py") 840)]), #[]⟩),
  (493, ⟨(.type "function"), none, (.func (fnX (Str.ofString "_law_heard") (Str.ofString "_law_heard") (fa (st 57)) (fb (st 57)) (fs (st 57)) [] .none .none .none (.str (Str.ofString "law_pq0379_02") 730) none (.ref 492) .none)), #[]⟩),
  (497, ⟨(.type "code"), none, (.fields #[(.str (Str.ofString "law") 842), (.str (Str.ofString "law") 843), (.str (Str.ofString "/claim/cut.py") 844), (.int (547) 0), (.int (1) 0), (.int (0) 0), (.int (0) 0), (.int (3) 0), (.ref 494), (.bool true), (.int (181) 0), (.ref 495), .none, .none, .none, (.ref 496), (.int (845) 0), (.int (547) 0), (.str (Str.ofString "/claim/cut.py") 846)]), #[]⟩),
  (498, ⟨(.type "function"), none, (.func (fnX (Str.ofString "law") (Str.ofString "law") (fa (st 58)) (fb (st 58)) (fs (st 58)) [] .none .none .none (.str (Str.ofString "law_pq0379_02") 730) none (.ref 497) .none)), #[]⟩)]
noncomputable def loose : List PySem.Str := [(Str.ofString "range_of"), (Str.ofString "put_behind"), (Str.ofString "from_values"), (Str.ofString "next_from"), (Str.ofString "has"), (Str.ofString "FdError"), (Str.ofString "SpotFault"), (Str.ofString "EvalFault"), (Str.ofString "LimitFault"), (Str.ofString "MOST_VALUES"), (Str.ofString "MOST_POWER"), (Str.ofString "MOST_SHOWN"), (Str.ofString "is_array"), (Str.ofString "is_set"), (Str.ofString "number_of"), (Str.ofString "truth_of"), (Str.ofString "text_of"), (Str.ofString "set_of"), (Str.ofString "list_of"), (Str.ofString "elements_of"), (Str.ofString "row_of"), (Str.ofString "span"), (Str.ofString "quotient"), (Str.ofString "within_figures"), (Str.ofString "power"), (Str.ofString "are_same"), (Str.ofString "are_compared"), (Str.ofString "joined_sets"), (Str.ofString "reckoned"), (Str.ofString "show_text"), (Str.ofString "folded"), (Str.ofString "FOLDING"), (Str.ofString "scopes_of"), (Str.ofString "Evaluator"), (Str.ofString "fitted_one"), (Str.ofString "called"), (Str.ofString "alone"), (Str.ofString "of_value"), (Str.ofString "indexes_of"), (Str.ofString "indexed"), (Str.ofString "united"), (Str.ofString "_law_draw"), (Str.ofString "_law_spot"), (Str.ofString "_law_number"), (Str.ofString "_law_wrong"), (Str.ofString "_law_end"), (Str.ofString "_law_lot"), (Str.ofString "_law_right"), (Str.ofString "_law_left"), (Str.ofString "_law_counted"), (Str.ofString "_law_told"), (Str.ofString "_law_holds"), (Str.ofString "_law_due"), (Str.ofString "_law_heard")]
noncomputable def KA : List Addr := (K ⟨fun _ => 0, fun _ => 0, id, fun _ => 0, fun _ _ => 0, fun _ => false, fun _ => 0, .refcount, .text, fun _ => 0, fun _ => none, fun _ => false, fun _ _ _ => true, fun _ _ _ => true, true, fun _ => false, fun _ => none, fun _ => none, fun _ _ _ => 0, fun _ _ => none, fun _ => none, fun _ => (0, false, ""), fun _ => none, fun d => d, fun _ => false⟩).map (·.1)
theorem KA_eq : ∀ P, KA = (K P).map (·.1) := fun _ => by kernel_rfl
noncomputable abbrev lawD : DefRec := ⟨Str.ofString "law", fa (st 58), fb (st 58), fs (st 58), fp (st 58)⟩
noncomputable def q : Program := { pw with main := { pw.main with body := [st 58] } }
noncomputable abbrev N : Nat := 6200
theorem said : rw.wellSaid = true := (congrFun PySem.W.Fast.te9446332074065402090 _).trans (by kernel_rfl)
theorem openEnds_fast (p : Program) (w : World) (N : Nat) : openEnds treeTable p w N =
   ((PySem.W.Fast.tw10274390034422433532 PySem.W.Fast.tw14364793385576792824 (PySem.W.opening p) w N (PySem.W.Fast.tw1435165496053646825 (PySem.W.opening p)).1 (PySem.W.Fast.tw1435165496053646825 (PySem.W.opening p)).2).bind (PySem.W.Fast.tw14289696077712309145 p)).bind (fun s₀ =>
     match s₀.heap.isNs mainGlobals && s₀.gens.size == 0 with
  | true => (PySem.W.Fast.tw14082659384304107361 PySem.W.Fast.tw14364793385576792824 p w s₀.heap.objs.size (s₀.heap.nsMap mainGlobals "__annotations__") N s₀ (topStub p)).bind fun s₁ => match staticsOk (importedModules p.main.body) s₀.heap s₁.heap && namesBound p s₁.heap && gensDone s₁ && laidKept s₀.heap s₁.heap with
      | true => some s₁
      | false => none
  | false => none) := by
  unfold openEnds fencedOpening
  rw [PySem.W.Fast.te10274390034422433532, PySem.W.Fast.te14364793385576792824, PySem.W.Fast.te1435165496053646825, PySem.W.Fast.te14289696077712309145]
  congr 1
  funext s₀
  unfold topFrom
  rw [PySem.W.Fast.te14082659384304107361]
  rfl
noncomputable abbrev HK : Hook := kHook K KA KA_eq
noncomputable abbrev XT (s : Shared) : Bool := xlAt q [] s && recOk [] s
theorem left : LeftO pw q loose XT HK.obs HK.val N := fun w => by
  rw [openEnds_fast, PySem.W.Fast.te4187177175401517315]
  kernel_rfl
theorem holds_of (call : WalkO q loose (XL q []) HK.says rw.row.toRowW lawD [] fun f vs => PySem.call f vs) (hw : rw.row.toRowW.promised) : rw.Holds :=
  holds_law said fun ok => holds_open (r := rw.row) (q := q) (loose := loose) (Xt := XT) (XP := XL q []) (Yf := HK.obs) (Ya := HK.val) (YP := HK.says) (N := N) (d := lawD) (kwd := [])
    left HK.of HK.keeps (fun s e => xl_of s (Bool.and_eq_true_iff.mp e).1) XL.keeps (by kernel_rfl) (by kernel_rfl) (by kernel_rfl) (fun s e => recFacts_of (Bool.and_eq_true_iff.mp e).2) (by kernel_rfl) ok (by decide +kernel)
    ⟨rfl, rfl, rfl, rfl, rfl, by decide +kernel⟩ hw call
end Mine
namespace Mine
open PySem PySem.W PyProof.Rows
set_option genSizeOf false
set_option genInjectivity false

/-! THE ABSTRACT MACHINE: values, its little language, what a program of it does (a predicate transformer). -/
inductive V where
  | pd (d : PyData)
  | ref (i : Nat)
  | evr (sc : V)
  | rng (lo hi : Int)
  | ty (n : String)
  | set (l : List Int)
inductive O where
  | list (l : List PyData)
  | dict (l : List (Str × V))
noncomputable abbrev Hp := List O
structure Exc where
  lim : Bool
  what : Str
  spot : PyData
inductive Op where
  | add | sub | mul | mod | pow | eq | ne | lt | le | gt | ge | isin | notin | is | isnot
  deriving DecidableEq
inductive Prim where
  | len | isi | int | repr | tuple | range | sorted | set | abs | min | max
  deriving DecidableEq
inductive LM where
  | append
  deriving DecidableEq
inductive Tg where
  | n (i : Nat)
  | t (l : List Tg)
inductive X where
  | c (d : PyData)
  | g (i : Nat)
  | v (i : Nat)
  | w (i : Nat)
  | ty (n : String)
  | tup (l : List X)
  | lst (m : Bool) (l : List X)
  | dct (m : Bool) (l : List (Str × X))
  | op (o : Op) (a b : X)
  | neg (a : X)
  | not (a : X)
  | and (a b : X)
  | or (a b : X)
  | ite (t a b : X)
  | sub (a i : X)
  | slice (a : X) (lo hi : Option Int)
  | scope (a : X)
  | fault (i : Nat) (spot : Bool)
  | call (f : Nat) (l : List X)
  | lam (a : X) (vis : List Nat)
  | lcall (i : Nat)
  | meth (f : Nat) (o : X) (l : List X)
  | new (a : X)
  | prim (p : Prim) (l : List X)
  | lm (m : LM) (o : X) (l : List X)
  | fstr (l : List X)
  | comp (m : Bool) (e : X) (t : Tg) (it : X) (c : Option X)
inductive S where
  | asg (i : Nat) (e : X)
  | asgs (l : List Nat) (es : List X)
  | unp (l : List Nat) (e : X)
  | seti (o k e : X)
  | ex (e : X)
  | ret (e : X)
  | ite (t : X) (a b : List S)
  | for (t : Tg) (it : X) (b : List S)
  | bad
  | raise (lim : Bool) (l : List X)
  | try (b : List S) (h : List (Bool × Option Nat × List S))
inductive Loc where
  | v (x : V)
  | fault (e : Exc)
  | lam (b : X) (m : List (Option V))
inductive Fl where
  | next | ret (v : V)
noncomputable abbrev Fm := List (Option Loc)
noncomputable abbrev KV := V → Hp → Prop
noncomputable abbrev KE := Exc → Hp → Prop

noncomputable abbrev sb (a b : Str) : Bool := a.cps.toList == b.cps.toList
noncomputable def need {α : Type} (o : Option α) (k : α → Prop) : Prop := match o with | some a => k a | none => False
noncomputable def alt {β : Type} (a b : Option β) : Option β := match a with
  | some x => some x
  | none => b
noncomputable def when (c : Prop) [Decidable c] (k : Prop) : Prop := match decide c with | true => k | false => False
theorem when_i {c : Prop} [Decidable c] {k : Prop} (h : c) (q : k) : when c k := by
  unfold when
  rw [decide_eq_true h]; exact q
theorem when_e {c : Prop} [Decidable c] {k : Prop} (h : when c k) : c ∧ k := by
  unfold when at h
  by_cases q : c
  · rw [decide_eq_true q] at h; exact ⟨q, h⟩
  · rw [decide_eq_false q] at h; exact h.elim
-- the same, shut to the elaborator (it would reckon lengths of texts)
@[irreducible] noncomputable def whenL (c : Prop) [Decidable c] (k : Prop) : Prop := when c k
theorem whenL_i {c : Prop} [Decidable c] {k : Prop} (h : c) (q : k) : whenL c k := by
  unfold whenL; exact when_i h q
theorem whenL_e {c : Prop} [Decidable c] {k : Prop} (h : whenL c k) : c ∧ k := by
  unfold whenL at h; exact when_e h
noncomputable def gd {β : Type} (c : Prop) [Decidable c] (x : β) : Option β := if c then some x else none
noncomputable def asInt : PyData → Option Int
  | .int i => some i
  | .bool b => some (if b then 1 else 0)
  | _ => none
noncomputable def intP : PyData → Option Int
  | .int i => some i
  | _ => none
noncomputable def strP : PyData → Option Str
  | .str x => some x
  | _ => none
noncomputable def boolP : PyData → Option Bool
  | .bool b => some b
  | _ => none
noncomputable def listP : PyData → Option (List PyData)
  | .list l => some l
  | _ => none
noncomputable def tupP : PyData → Option (List PyData)
  | .tuple l => some l
  | _ => none
noncomputable def dictP : PyData → Option (List (PyData × PyData))
  | .dict l => some l
  | _ => none
noncomputable def b2 {α β γ : Type} (f : PyData → Option α) (g : PyData → Option β) (a b : PyData) (k : α → β → Option γ) : Option γ := (f a).bind fun x => (g b).bind fun y => k x y
noncomputable def pdV : V → Option PyData
  | .pd d => some d
  | _ => none
noncomputable def refV : V → Option Nat
  | .ref i => some i
  | _ => none
noncomputable def evrV : V → Option V
  | .evr s => some s
  | _ => none
noncomputable def valL : Loc → Option V
  | .v x => some x
  | _ => none
noncomputable def fltL : Loc → Option Exc
  | .fault e => some e
  | _ => none
noncomputable def lamL : Loc → Option (X × List (Option V))
  | .lam b m => some (b, m)
  | _ => none
noncomputable def locA {α : Type} (f : Loc → Option α) (m : Fm) (i : Nat) : Option α := (m[i]?).bind fun l => l.bind f
noncomputable abbrev locV : Fm → Nat → Option V := locA valL
noncomputable def tyV : V → Option String
  | .ty n => some n
  | _ => none
noncomputable def rngV : V → Option (Int × Int)
  | .rng a b => some (a, b)
  | _ => none
noncomputable def lstO : O → Option (List PyData)
  | .list l => some l
  | _ => none
noncomputable def dctO : O → Option (List (Str × V))
  | .dict l => some l
  | _ => none
noncomputable abbrev intV (v : V) : Option Int := (pdV v).bind intP
noncomputable abbrev boolV (v : V) : Option Bool := (pdV v).bind boolP
noncomputable def newV (v : V) : Option V := alt (((pdV v).bind dictP).map fun l => .pd (.dict l)) ((refV v).map .ref)
noncomputable abbrev strV (v : V) : Option Str := (pdV v).bind strP
-- a mutable list, dict, with its place
noncomputable def lstR (σ : Hp) (v : V) : Option (Nat × List PyData) := (refV v).bind fun i => (σ[i]?).bind fun o => (lstO o).map fun l => (i, l)
noncomputable def dctR (σ : Hp) (v : V) : Option (Nat × List (Str × V)) := (refV v).bind fun i => (σ[i]?).bind fun o => (dctO o).map fun l => (i, l)
noncomputable def allPd : List V → Option (List PyData)
  | [] => some []
  | v :: r => (pdV v).bind fun d => (allPd r).map (d :: ·)
noncomputable def kvPd : List (Str × V) → Option (List (PyData × PyData))
  | [] => some []
  | (k, v) :: r => (pdV v).bind fun d => (kvPd r).map ((.str k, d) :: ·)
noncomputable def rdO : O → Option PyData
  | .list l => some (.list l)
  | .dict l => (kvPd l).map .dict
-- what an object holds, as data
noncomputable def rd (σ : Hp) : V → Option PyData
  | .pd d => some d
  | .ref i => (σ[i]?).bind rdO
  | _ => none
noncomputable def lookS (k : Str) : List (Str × V) → Option V
  | [] => none
  | (a, v) :: r => match sb a k with | true => some v | false => lookS k r
noncomputable def setS (k : Str) (v : V) : List (Str × V) → List (Str × V)
  | [] => [(k, v)]
  | (a, u) :: r => match sb a k with | true => (a, v) :: r | false => (a, u) :: setS k v r
noncomputable def lookP (k : Str) : List (PyData × PyData) → Option PyData
  | [] => none
  | (.str a, v) :: r => match sb a k with | true => some v | false => lookP k r
  | _ :: _ => none
noncomputable def freshK (k : Str) : List Str → Bool
  | [] => true
  | a :: r => !sb a k && freshK k r
noncomputable def nodupK : List Str → Bool
  | [] => true
  | k :: r => freshK k r && nodupK r
noncomputable def eqP (a b : PyData) : Option Bool := alt (b2 strP strP a b fun x y => some (sb x y)) (alt (b2 intP intP a b fun i j => some (i == j)) (gd (a.canLay0 = true ∧ b.canLay0 = true ∧ a.depth ≤ 64) (PyData.eqv a b)))
-- membership among texts, among ints
noncomputable def okS (x : Str) : Bool := x.cps.toList.all fun c => decide (c < 0x110000)
noncomputable def inS (x : Str) : List PyData → Option Bool
  | [] => some false
  | d :: r => (strP d).bind fun y => (gd (okS y = true) (sb y x)).bind fun b => (inS x r).map (b || ·)
noncomputable def inI (i : Int) : List PyData → Option Bool
  | [] => some false
  | d :: r => (intP d).bind fun j => (inI i r).map ((j == i) || ·)
noncomputable def inL (d : PyData) (l : List PyData) : Option Bool := alt ((strP d).bind fun x => (gd (okS x = true) x).bind fun x => inS x l) (alt ((intP d).bind fun i => inI i l) (gd (d.canLay0 = true ∧ PyData.canLayAll0 l = true ∧ d.depth ≤ 64) (l.any fun y => PyData.eqv y d)))
noncomputable def addP (a b : PyData) : Option PyData := alt (b2 strP strP a b fun x y => gd (x.length + y.length ≤ sizeLine) (.str (x ++ y))) (alt (b2 listP listP a b fun x y => gd (x.length + y.length ≤ sizeLine) (.list (x ++ y))) (alt (b2 tupP tupP a b fun x y => gd (x.length + y.length ≤ sizeLine) (.tuple (x ++ y))) (b2 intP intP a b fun i j => some (.int (i + j)))))
noncomputable def subP (a b : PyData) : Option PyData := b2 intP intP a b fun i j => some (.int (i - j))
noncomputable def mulP (a b : PyData) : Option PyData := b2 intP intP a b fun i j => gd (-(2 ^ 64) < i ∧ i < 2 ^ 64) (.int (i * j))
noncomputable def modP (a b : PyData) : Option PyData := b2 intP intP a b fun i j => gd (0 < j) (.int (Int.emod i j))
noncomputable def powP (a b : PyData) : Option PyData := b2 intP intP a b fun i j => gd (0 ≤ j ∧ (Builtin.Int.intBits i : Int) * j ≤ 2 ^ 27) (.int (i ^ j.toNat))
noncomputable def ordP (f : Int → Int → Bool) (a b : PyData) : Option Bool := b2 intP intP a b fun i j => some (f i j)
noncomputable def opP (o : Op) (a b : PyData) : Option PyData := match o with
  | .add => addP a b
  | .sub => subP a b
  | .mul => mulP a b
  | .mod => modP a b
  | .pow => powP a b
  | .eq => (eqP a b).map .bool
  | .ne => (eqP a b).map fun r => .bool (!r)
  | .lt => (ordP (fun i j => decide (i < j)) a b).map .bool
  | .le => (ordP (fun i j => decide (i ≤ j)) a b).map .bool
  | .gt => (ordP (fun i j => decide (i > j)) a b).map .bool
  | .ge => (ordP (fun i j => decide (i ≥ j)) a b).map .bool
  | _ => none
noncomputable def setV : V → Option (List Int)
  | .set l => some l
  | _ => none
noncomputable def inV (x : V) (σ : Hp) (y : V) : Option Bool := alt ((setV y).bind fun l => (intV x).map l.contains) (alt ((dctR σ y).bind fun p => (strV x).bind fun k => some (lookS k p.2).isSome)
  ((rd σ y).bind fun d => alt ((listP d).bind fun l => (pdV x).bind fun c => inL c l) (alt ((tupP d).bind fun l => (pdV x).bind fun c => inL c l) ((dictP d).bind fun l => (strV x).bind fun k => some (lookP k l).isSome))))
noncomputable def evOp (o : Op) (a b : V) (σ : Hp) : Option PyData := match o with
  | .isin => (inV a σ b).map .bool
  | .notin => (inV a σ b).map fun r => .bool (!r)
  | o => (rd σ a).bind fun x => (rd σ b).bind fun y => opP o x y
noncomputable def lookT {κ α : Type} [DecidableEq κ] : List (κ × α) → κ → Option α
  | [], _ => none
  | (a, k) :: r, x => if a = x then some k else lookT r x
-- isinstance, by the words
noncomputable def isiL : PyData → List (String × Bool)
  | .bool _ => [("bool", true), ("int", true), ("tuple", false)]
  | .int _ => [("int", true), ("tuple", false), ("list", false)]
  | .str _ => [("int", false), ("tuple", false)]
  | .tuple _ => [("int", false), ("tuple", true), ("list", false)]
  | .list _ => [("list", true)]
  | _ => []
noncomputable def isiP (d : PyData) (n : String) : Option Bool := lookT (isiL d) n
noncomputable def rangeL (a b : Int) : List PyData := (List.range (b - a).toNat).map fun (k : Nat) => PyData.int (a + k)
noncomputable def seqT (σ : Hp) (v : V) : Option (List PyData) := (rd σ v).bind fun d => alt (listP d) (tupP d)
-- the things that a loop runs over
noncomputable def itemsOf (σ : Hp) (v : V) : Option (List PyData) := alt (seqT σ v) ((rngV v).bind fun p => gd (-(2 ^ 62) ≤ p.1 ∧ p.1 < 2 ^ 62 ∧ -(2 ^ 62) ≤ p.2 ∧ p.2 < 2 ^ 62) (rangeL p.1 p.2))
noncomputable def still (σ σ' : Hp) (v : V) (k : Prop) : Prop := match v with
  | .ref i => σ'[i]? = σ[i]? ∧ k
  | _ => k
noncomputable def one (vs : List V) (k : V → Prop) : Prop := match vs with
  | [v] => k v
  | _ => False
noncomputable def two (vs : List V) (k : V → V → Prop) : Prop := match vs with
  | [v, u] => k v u
  | _ => False
noncomputable def allInt : List PyData → Option (List Int)
  | [] => some []
  | d :: r => (intP d).bind fun i => (allInt r).map (i :: ·)
noncomputable def insI (i : Int) : List Int → List Int
  | [] => [i]
  | j :: r => if i ≤ j then i :: j :: r else j :: insI i r
noncomputable def sortI : List Int → List Int
  | [] => []
  | i :: r => insI i (sortI r)
noncomputable def dedup (l : List Int) : List Int := l.foldl step_dedup []
noncomputable def evTuple (v : V) (σ : Hp) (K : KV) : Prop := match rngV v with
  | some p => when (-(2 ^ 62) ≤ p.1 ∧ p.1 < 2 ^ 62 ∧ -(2 ^ 62) ≤ p.2 ∧ p.2 < 2 ^ 62 ∧ p.2 - p.1 ≤ 2 ^ 24) (K (.pd (.tuple (rangeL p.1 p.2))) σ)
  | none => need (seqT σ v) fun l => when (l.length ≤ sizeLine) (K (.pd (.tuple l)) σ)
noncomputable def sortL (σ : Hp) (v : V) : Option (List Int) := alt ((setV v).bind fun l => gd (l.length ≤ 4) l) ((seqT σ v).bind fun l => gd (l.length < 64) l |>.bind allInt)
noncomputable def evRange (vs : List V) (σ : Hp) (K : KV) : Prop := match vs with
  | [v] => need (intV v) fun n => K (.rng 0 n) σ
  | vs => two vs fun v u => need (intV v) fun a => need (intV u) fun b => K (.rng a b) σ
noncomputable def evPrim (p : Prim) (vs : List V) (σ : Hp) (K : KV) : Prop := match p with
  | .len => one vs fun v => need (seqT σ v) fun l => when (l.length ≤ sizeLine) (K (.pd (.int l.length)) σ)
  | .isi => two vs fun v u => need (pdV v) fun d => need (tyV u) fun n => need (isiP d n) fun b => K (.pd (.bool b)) σ
  | .int => one vs fun v => need (pdV v) fun d => need (asInt d) fun i => K (.pd (.int i)) σ
  | .repr => one vs fun v => need (rd σ v) fun d => whenL (d.showable = true ∧ d.depth ≤ 64 ∧ d.shown.length ≤ sizeLine) (K (.pd (.str d.shown)) σ)
  | .tuple => one vs fun v => evTuple v σ K
  | .range => evRange vs σ K
  | .abs => one vs fun v => need (intV v) fun a => K (.pd (.int a.natAbs)) σ
  | .sorted => one vs fun v => need (sortL σ v) fun l => K (.pd (.list ((sortI l).map .int))) σ
  | .set => one vs fun v => need ((seqT σ v).bind allInt) fun l => when (l.length < 1000) (K (.set (dedup l)) σ)
  | .min => two vs fun v u => need (intV v) fun a => need (intV u) fun b => K (.pd (.int (if b < a then b else a))) σ
  | .max => two vs fun v u => need (intV v) fun a => need (intV u) fun b => K (.pd (.int (if a < b then b else a))) σ
noncomputable def evLM (m : LM) (o : V) (vs : List V) (σ : Hp) (K : KV) : Prop := match m with
  | .append => one vs fun v => need (pdV v) fun d => need (lstR σ o) fun p => when (p.2.length < sizeLine) (K (.pd .none) (σ.set p.1 (.list (p.2 ++ [d]))))
-- an item: list, tuple by an int; a dict by a text
noncomputable def idx (l : List PyData) (i : Int) : Option PyData := if -(l.length : Int) ≤ i ∧ i < l.length ∧ l.length ≤ sizeLine then l[(if i < 0 then i + l.length else i).toNat]? else none
noncomputable def evSub (σ : Hp) (a i : V) : Option V := alt ((strV i).bind fun k => alt ((dctR σ a).bind fun p => lookS k p.2) (((pdV a).bind dictP).bind fun l => (lookP k l).map .pd))
  ((intV i).bind fun i => (rd σ a).bind fun d => alt ((listP d).bind fun l => (idx l i).map .pd) ((tupP d).bind fun l => (idx l i).map .pd))
noncomputable def cut (l : List PyData) (lo hi : Option Int) : List PyData :=
  let n := l.length
  let a := lo.elim 0 (clipAt n)
  let b := hi.elim n (clipAt n)
  (l.drop a).take (b - a)
noncomputable def notNeg : Option Int → Bool
  | none => true
  | some i => decide (0 ≤ i)
noncomputable def evCut (σ : Hp) (a : V) (lo hi : Option Int) : Option PyData := (rd σ a).bind fun d => alt ((listP d).bind fun l => gd (l.length ≤ sizeLine) (.list (cut l lo hi))) ((tupP d).bind fun l => gd (l.length ≤ sizeLine ∧ notNeg lo = true ∧ notNeg hi = true) (.tuple (cut l lo hi)))
noncomputable def textOf : PyData → Option Str
  | .str x => some x
  | .int i => if i.natAbs.log2 < 1920 then some (Str.ofString (toString i)) else none
  | _ => none
noncomputable abbrev txt (v : V) : Option Str := (pdV v).bind textOf
noncomputable def setAt {α : Type} : List α → Nat → α → List α
  | [], _, _ => []
  | _ :: r, 0, x => x :: r
  | y :: r, n + 1, x => y :: setAt r n x
mutual
noncomputable def tgFm (m : Fm) : Tg → PyData → Option Fm
  | .n i, d => if i < m.length then some (setAt m i (some (.v (.pd d)))) else none
  | .t l, .tuple ds => tgsFm m l ds
  | .t _, _ => none
noncomputable def tgsFm (m : Fm) : List Tg → List PyData → Option Fm
  | [], [] => some m
  | t :: ts, d :: ds => (tgFm m t d).bind fun m' => tgsFm m' ts ds
  | _, _ => none
end
noncomputable def snap (vis : List Nat) : Nat → Fm → List (Option V)
  | _, [] => []
  | i, o :: r => (match vis.contains i with | true => o.bind valL | false => none) :: snap vis (i + 1) r
noncomputable def unsnap (m : List (Option V)) : Fm := m.map fun o => o.map .v
-- an Option of pure data becomes a value
noncomputable abbrev kd (o : Option PyData) (K : KV) (σ : Hp) : Prop := need o fun d => K (.pd d) σ
noncomputable abbrev truth (v : V) (k : Bool → Prop) : Prop := need (boolV v) k
noncomputable def hN (x : Option Nat) (a : Nat → Prop) (b : Prop) : Prop := match x with
  | some i => a i
  | none => b
noncomputable def brn (b : Bool) (x y : Prop) : Prop := match b with
  | true => x
  | false => y
-- a loop's turns over its items; a comprehension's
noncomputable def forN (turn : PyData → Fm → Hp → (Fl → Fm → Hp → Prop) → Prop) (ok : Hp → Prop → Prop) (K : Fl → Fm → Hp → Prop) : List PyData → Fm → Hp → Prop
  | [], m, σ => K .next m σ
  | d :: r, m, σ => turn d m σ fun f m' σ' => match f with
    | .ret v => K (.ret v) m' σ'
    | _ => ok σ' (forN turn ok K r m' σ')
-- the turn hands on what it adds
noncomputable def compN (turn : PyData → Hp → (List PyData → Hp → Prop) → Prop) (ok : Hp → Prop → Prop) (K : List PyData → Hp → Prop) : List PyData → List PyData → Hp → Prop
  | [], acc, σ => K acc σ
  | d :: r, acc, σ => when (acc.length ≤ sizeLine) (turn d σ fun o σ' => ok σ' (compN turn ok K r (acc ++ o) σ'))
noncomputable def made (m : Bool) (l : List PyData) (σ : Hp) (K : KV) : Prop := when (l.length ≤ sizeLine) (brn m (K (.ref σ.length) (σ ++ [.list l])) (K (.pd (.list l)) σ))
noncomputable abbrev mc0 : Fm := List.replicate 12 none
noncomputable abbrev CallS := Nat → List Loc → Hp → KV → KE → Prop

section
variable (G : CallS) (gc : Nat → PyData)
mutual
noncomputable def evX (m : Fm) (mc : Fm) : X → Hp → KV → KE → Prop
  | .c d, σ, K, _ => K (.pd d) σ
  | .g i, σ, K, _ => K (.pd (gc i)) σ
  | .v i, σ, K, _ => need (locV m i) fun x => K x σ
  | .w i, σ, K, _ => need (locV mc i) fun x => K x σ
  | .ty n, σ, K, _ => K (.ty n) σ
  | .tup l, σ, K, E => evXs m mc l σ (fun vs σ' => need (allPd vs) fun ds => when (ds.length ≤ sizeLine) (K (.pd (.tuple ds)) σ')) E
  | .lst b l, σ, K, E => evXs m mc l σ (fun vs σ' => need (allPd vs) fun ds => made b ds σ' K) E
  | .dct b l, σ, K, E => evKs m mc l σ (fun kvs σ' => when (nodupK (kvs.map (·.1)) = true) (brn b (K (.ref σ'.length) (σ' ++ [.dict kvs])) (need (kvPd kvs) fun ds => K (.pd (.dict ds)) σ'))) E
  | .op o a b, σ, K, E => evX m mc a σ (fun x σ1 => evX m mc b σ1 (fun y σ2 => kd (evOp o x y σ2) K σ2) E) E
  | .neg a, σ, K, E => evX m mc a σ (fun x σ1 => need (intV x) fun i => K (.pd (.int (-i))) σ1) E
  | .not a, σ, K, E => evX m mc a σ (fun x σ1 => truth x fun b => K (.pd (.bool (!b))) σ1) E
  | .and a b, σ, K, E => evX m mc a σ (fun x σ1 => truth x fun t => brn t (evX m mc b σ1 K E) (K x σ1)) E
  | .or a b, σ, K, E => evX m mc a σ (fun x σ1 => truth x fun t => brn t (K x σ1) (evX m mc b σ1 K E)) E
  | .ite t a b, σ, K, E => evX m mc t σ (fun x σ1 => truth x fun r => brn r (evX m mc a σ1 K E) (evX m mc b σ1 K E)) E
  | .sub a i, σ, K, E => evX m mc a σ (fun x σ1 => evX m mc i σ1 (fun y σ2 => need (evSub σ2 x y) fun z => K z σ2) E) E
  | .slice a lo hi, σ, K, E => evX m mc a σ (fun x σ1 => kd (evCut σ1 x lo hi) K σ1) E
  | .scope a, σ, K, E => evX m mc a σ (fun x σ1 => need (evrV x) fun s => K s σ1) E
  | .fault i b, σ, K, _ => need (locA fltL m i) fun e => when ((!b || !e.lim) = true) (K (.pd (if b then e.spot else .str e.what)) σ)
  | .call f l, σ, K, E => evAs m mc l σ (fun as σ' => G f as σ' K E) E
  | .lam _ _, _, _, _ => False
  | .lcall i, σ, K, E => need (locA lamL m i) fun p => G 0 [.lam p.1 p.2] σ K E
  | .meth f o l, σ, K, E => evX m mc o σ (fun x σ1 => need (evrV x) fun s => evXs m mc l σ1 (fun vs σ' => G f (.v (.evr s) :: vs.map .v) σ' K E) E) E
  | .new a, σ, K, E => evX m mc a σ (fun x σ1 => need (newV x) fun d => K (.evr d) σ1) E
  | .prim p l, σ, K, E => evXs m mc l σ (fun vs σ' => evPrim p vs σ' K) E
  | .lm q o l, σ, K, E => evX m mc o σ (fun x σ1 => when ((lstR σ1 x).isSome = true) (evXs m mc l σ1 (fun vs σ' => evLM q x vs σ' K) E)) E
  | .fstr l, σ, K, E => evFs m mc l Str.empty σ (fun x σ' => K (.pd (.str x)) σ') E
  | .comp b e t it c, σ, K, E => evX m mc it σ (fun x σ1 => need (itemsOf σ1 x) fun l =>
      compN (fun d σ2 k => need (tgFm mc0 t d) fun mc' => evC m mc' c σ2 (fun r σ3 => brn r (evX m mc' e σ3 (fun v σ4 => need (pdV v) fun d' => k [d'] σ4) E) (k [] σ3)) E)
        (fun σ' k => still σ1 σ' x k) (fun ds σ' => made b ds σ' K) l [] σ1) E
noncomputable def evC (m : Fm) (mc : Fm) : Option X → Hp → (Bool → Hp → Prop) → KE → Prop
  | none, σ, K, _ => K true σ
  | some e, σ, K, E => evX m mc e σ (fun v σ' => truth v fun r => K r σ') E
noncomputable def evXs (m : Fm) (mc : Fm) : List X → Hp → (List V → Hp → Prop) → KE → Prop
  | [], σ, K, _ => K [] σ
  | x :: r, σ, K, E => evX m mc x σ (fun v σ1 => evXs m mc r σ1 (fun vs σ2 => K (v :: vs) σ2) E) E
noncomputable def evFs (m : Fm) (mc : Fm) : List X → Str → Hp → (Str → Hp → Prop) → KE → Prop
  | [], acc, σ, K, _ => whenL (acc.length ≤ sizeLine) (K acc σ)
  | x :: r, acc, σ, K, E => evX m mc x σ (fun v σ1 => need (txt v) fun y => whenL (y.length ≤ sizeLine ∧ (acc ++ y).length ≤ sizeLine) (evFs m mc r (acc ++ y) σ1 K E)) E
noncomputable def evKs (m : Fm) (mc : Fm) : List (Str × X) → Hp → (List (Str × V) → Hp → Prop) → KE → Prop
  | [], σ, K, _ => K [] σ
  | (k, x) :: r, σ, K, E => evX m mc x σ (fun v σ1 => evKs m mc r σ1 (fun vs σ2 => K ((k, v) :: vs) σ2) E) E
noncomputable def evAs (m : Fm) (mc : Fm) : List X → Hp → (List Loc → Hp → Prop) → KE → Prop
  | [], σ, K, _ => K [] σ
  | .lam b vis :: r, σ, K, E => evAs m mc r σ (fun vs σ2 => K (.lam b (snap vis 0 m) :: vs) σ2) E
  | x :: r, σ, K, E => evX m mc x σ (fun v σ1 => evAs m mc r σ1 (fun vs σ2 => K (.v v :: vs) σ2) E) E
end

noncomputable abbrev KS := Fl → Fm → Hp → Prop
noncomputable def asgN : List Nat → List V → Fm → Option Fm
  | [], [], m => some m
  | i :: r, v :: q, m => if i < m.length then asgN r q (setAt m i (some (.v v))) else none
  | _, _, _ => none
noncomputable def seqItems (d : PyData) : Option (List PyData) := alt (listP d) (tupP d)
noncomputable def evSet (σ : Hp) (o k v : V) : Option Hp := (strV k).bind fun s => (dctR σ o).bind fun p => gd (p.2.length ≤ sizeLine) (σ.set p.1 (.dict (setS s v p.2)))
-- what a raise makes of its arguments
noncomputable def excOf (lim : Bool) (vs : List V) : Option Exc := match vs with
  | [a] => (strV a).bind fun w => gd (lim = true) ⟨true, w, .none⟩
  | [a, b] => (strV a).bind fun w => (pdV b).bind fun d => gd (lim = false) ⟨false, w, d⟩
  | _ => none
mutual
noncomputable def evS : S → Fm → Hp → KS → KE → Prop
  | .asg i e, m, σ, K, E => evX G gc m [] e σ (fun v σ' => when (i < m.length) (K .next (setAt m i (some (.v v))) σ')) E
  | .asgs l es, m, σ, K, E => evXs G gc m [] es σ (fun vs σ' => need (asgN l vs m) fun m' => K .next m' σ') E
  | .unp l e, m, σ, K, E => evX G gc m [] e σ (fun v σ' => need (rd σ' v) fun d => need (seqItems d) fun ds => need (asgN l (ds.map .pd) m) fun m' => K .next m' σ') E
  | .seti o k e, m, σ, K, E => evX G gc m [] e σ (fun v σ1 => evX G gc m [] o σ1 (fun x σ2 => evX G gc m [] k σ2 (fun y σ3 => need (evSet σ3 x y v) fun σ4 => K .next m σ4) E) E) E
  | .ex e, m, σ, K, E => evX G gc m [] e σ (fun _ σ' => K .next m σ') E
  | .ret e, m, σ, K, E => evX G gc m [] e σ (fun v σ' => K (.ret v) m σ') E
  | .ite t a b, m, σ, K, E => evX G gc m [] t σ (fun v σ' => truth v fun r => brn r (evSs a m σ' K E) (evSs b m σ' K E)) E
  | .for t it b, m, σ, K, E => evX G gc m [] it σ (fun x σ1 => need (itemsOf σ1 x) fun l =>
      forN (fun d m' σ' k => need (tgFm m' t d) fun m'' => evSs b m'' σ' k E) (fun σ' k => still σ1 σ' x k) K l m σ1) E
  | .bad, _, _, _, _ => False
  | .raise lim l, m, σ, _, E => evXs G gc m [] l σ (fun vs σ' => need (excOf lim vs) fun e => E e σ') E
  | .try b h, m, σ, K, E => evSs b m σ K (fun e σ' => evH h e m σ' K E)
noncomputable def evSs : List S → Fm → Hp → KS → KE → Prop
  | [], m, σ, K, _ => K .next m σ
  | s :: r, m, σ, K, E => evS s m σ (fun f m' σ' => match f with
      | .next => evSs r m' σ' K E
      | f => K f m' σ') E
noncomputable def evH : List (Bool × Option Nat × List S) → Exc → Fm → Hp → KS → KE → Prop
  | [], e, _, σ, _, E => E e σ
  | (lim, x, b) :: r, e, m, σ, K, E => if lim = e.lim then
      hN x (fun i => when (i < m.length) (evSs b (setAt m i (some (.fault e))) σ (fun f m' σ' => K f (setAt m' i none) σ') (fun _ _ => False))) (evSs b m σ K (fun _ _ => False))
    else evH r e m σ K E
end
end
structure Fn where
  size : Nat
  ps : List Nat
  body : List S
noncomputable def putPs : List Nat → List Loc → Fm → Option Fm
  | [], [], m => some m
  | i :: r, a :: q, m => if i < m.length then putPs r q (setAt m i (some a)) else none
  | _, _, _ => none
-- calls, by the depth that is left; 0 is the call of a lambda
noncomputable def callN (tab : Nat → Option Fn) (gc : Nat → PyData) : Nat → CallS
  | 0, _, _, _, _, _ => False
  | n + 1, f, as, σ, K, E => match f, as with
    | 0, [.lam b m] => evX (callN tab gc n) gc (unsnap m) [] b σ K E
    | f, as => need (tab f) fun fn => need (putPs fn.ps as (List.replicate fn.size none)) fun m =>
      evSs (callN tab gc n) gc fn.body m σ (fun fl _ σ' => match fl with
        | .ret v => K v σ'
        | .next => K (.pd .none) σ') E
/-! taking answers apart -/
section
variable {α β γ : Type} {P : Prop}
theorem bd_e {o : Option α} {k : α → Option β} {b : β} (h : o.bind k = some b) (c : ∀ a, o = some a → k a = some b → P) : P := by
  cases o with
  | none => cases h
  | some a => exact c a rfl h
theorem map_e {o : Option α} {f : α → β} {b : β} (h : o.map f = some b) (c : ∀ a, o = some a → f a = b → P) : P := by
  cases o with
  | none => cases h
  | some a => exact c a rfl (Option.some.inj h)
theorem alt_e {a b : Option β} {c : β} (h : alt a b = some c) (l : a = some c → P) (r : b = some c → P) : P := by
  cases a with
  | none => exact r h
  | some x => exact l h
theorem gd_e {c : Prop} [Decidable c] {x y : β} (h : gd c x = some y) (k : c → x = y → P) : P := by
  by_cases q : c
  · exact k q (Option.some.inj ((if_pos q).symm.trans h))
  · cases (if_neg q).symm.trans h
theorem b2_e {f : PyData → Option α} {g : PyData → Option β} {a b : PyData} {k : α → β → Option γ} {c : γ} (h : b2 f g a b k = some c) (n : ∀ x y, f a = some x → g b = some y → k x y = some c → P) : P :=
  bd_e h fun x h1 h => bd_e h fun y h2 h => n x y h1 h2 h
@[elab_as_elim] theorem some_m {P : β → Prop} {x y : β} (h : some x = some y) (k : P x) : P y := Option.some.inj h ▸ k
@[elab_as_elim] theorem gd_m {P : β → Prop} {c : Prop} [Decidable c] {x y : β} (h : gd c x = some y) (k : c → P x) : P y := gd_e h fun q e => e ▸ k q
@[elab_as_elim] theorem map_m {P : β → Prop} {o : Option α} {f : α → β} {b : β} (h : o.map f = some b) (k : ∀ a, o = some a → P (f a)) : P b := map_e h fun a q e => e ▸ k a q
theorem need_e {o : Option α} {k : α → Prop} (h : need o k) (c : ∀ a, o = some a → k a → P) : P := by
  cases o with
  | none => exact h.elim
  | some a => exact c a rfl h
theorem one_e {vs : List V} {k : V → Prop} (h : one vs k) (c : ∀ v, vs = [v] → k v → P) : P := by
  cases vs with
  | nil => exact h.elim
  | cons v r =>
    cases r with
    | nil => exact c v rfl h
    | cons => exact h.elim
theorem two_e {vs : List V} {k : V → V → Prop} (h : two vs k) (c : ∀ v u, vs = [v, u] → k v u → P) : P := by
  cases vs with
  | nil => exact h.elim
  | cons v r =>
    cases r with
    | nil => exact h.elim
    | cons u r =>
      cases r with
      | nil => exact c v u rfl h
      | cons => exact h.elim
end
theorem intP_e {d : PyData} {i : Int} (h : intP d = some i) : d = .int i := by cases d <;> cases h; rfl
theorem strP_e {d : PyData} {x : Str} (h : strP d = some x) : d = .str x := by cases d <;> cases h; rfl
theorem listP_e {d : PyData} {l : List PyData} (h : listP d = some l) : d = .list l := by cases d <;> cases h; rfl
theorem tupP_e {d : PyData} {l : List PyData} (h : tupP d = some l) : d = .tuple l := by cases d <;> cases h; rfl
theorem dictP_e {d : PyData} {l : List (PyData × PyData)} (h : dictP d = some l) : d = .dict l := by cases d <;> cases h; rfl
theorem pdV_e {v : V} {d : PyData} (h : pdV v = some d) : v = .pd d := by cases v <;> cases h; rfl
theorem refV_e {v : V} {i : Nat} (h : refV v = some i) : v = .ref i := by cases v <;> cases h; rfl
theorem rngV_e {v : V} {p : Int × Int} (h : rngV v = some p) : v = .rng p.1 p.2 := by cases v <;> cases h; rfl
theorem tyV_e {v : V} {n : String} (h : tyV v = some n) : v = .ty n := by cases v <;> cases h; rfl
theorem intV_e {v : V} {i : Int} (h : intV v = some i) : v = .pd (.int i) := bd_e h fun d h1 h2 => by rw [pdV_e h1, intP_e h2]
theorem strV_e {v : V} {x : Str} (h : strV v = some x) : v = .pd (.str x) := bd_e h fun d h1 h2 => by rw [pdV_e h1, strP_e h2]
theorem lstR_e {σ : Hp} {v : V} {p : Nat × List PyData} (h : lstR σ v = some p) : v = .ref p.1 ∧ σ[p.1]? = some (.list p.2) :=
  bd_e h fun i h1 h => bd_e h fun o h2 h => map_e h fun l h3 h => by
    subst h
    cases o <;> cases h3
    exact ⟨refV_e h1, h2⟩
theorem dctR_e {σ : Hp} {v : V} {p : Nat × List (Str × V)} (h : dctR σ v = some p) : v = .ref p.1 ∧ σ[p.1]? = some (.dict p.2) :=
  bd_e h fun i h1 h => bd_e h fun o h2 h => map_e h fun l h3 h => by
    subst h
    cases o <;> cases h3
    exact ⟨refV_e h1, h2⟩
theorem boolP_e {d : PyData} {b : Bool} (h : boolP d = some b) : d = .bool b := by cases d <;> cases h; rfl
theorem boolV_e {v : V} {b : Bool} (h : boolV v = some b) : v = .pd (.bool b) := bd_e h fun d h1 h2 => by rw [pdV_e h1, boolP_e h2]
theorem evrV_e {v s : V} (h : evrV v = some s) : v = .evr s := by cases v <;> cases h; rfl
theorem valL_e {l : Loc} {x : V} (h : valL l = some x) : l = .v x := by cases l <;> cases h; rfl
theorem fltL_e {l : Loc} {e : Exc} (h : fltL l = some e) : l = .fault e := by cases l <;> cases h; rfl
theorem lamL_e {l : Loc} {p : X × List (Option V)} (h : lamL l = some p) : l = .lam p.1 p.2 := by cases l <;> cases h; rfl
theorem locA_e {α : Type} {P : Prop} {f : Loc → Option α} {m : Fm} {i : Nat} {a : α} (h : locA f m i = some a) (c : ∀ l, m[i]? = some (some l) → f l = some a → P) : P :=
  bd_e h fun o h1 h2 => bd_e h2 fun l h3 h4 => c l (h3 ▸ h1) h4
end Mine
namespace Mine
open PySem PySem.W PyProof.Rows PySem.Calls
set_option genSizeOf false
set_option genInjectivity false

/-! THE RELATION between the abstract machine and the model's heap. -/
inductive Kd where
  | ot | fz | mu | fr | ex | tb | cl
  deriving DecidableEq
structure Gh where
  κ : Addr → Kd
  μ : Nat → Addr
  n : Nat

section
variable (P : Params) (h : Heap) (κ : Addr → Kd)
mutual
inductive PV : Value → PyData → Prop
  | none : PV .none .none
  | bool (b : Bool) : PV (.bool b) (.bool b)
  | int (i : Int) (t : Tok) : PV (.int i t) (.int i)
  | str (x : Str) (t : Tok) : PV (.str x t) (.str x)
  | tuple {a : Addr} {o : Obj} {vs : Array Value} {n : Nat} {ds : List PyData} : κ a = .fz → h.get? a = some o → o.cls = .type "tuple" → o.data = .seq vs n → PVs vs.toList ds → PV (.ref a) (.tuple ds)
  | list {a : Addr} {o : Obj} {vs : Array Value} {n : Nat} {ds : List PyData} : κ a = .fz → h.get? a = some o → o.cls = .type "list" → o.data = .seq vs n → a ≠ sysModules → PVs vs.toList ds → PV (.ref a) (.list ds)
  | dict {a : Addr} {es : Array DictEntry} {n : Nat} {kvs : List (PyData × PyData)} : κ a = .fz → h.get? a = some ⟨.type "dict", none, .dict es n, #[]⟩ → a ≠ sysModules → PEs es.toList kvs → PV (.ref a) (.dict kvs)
inductive PVs : List Value → List PyData → Prop
  | nil : PVs [] []
  | cons {v : Value} {vs : List Value} {d : PyData} {ds : List PyData} : PV v d → PVs vs ds → PVs (v :: vs) (d :: ds)
inductive PEs : List DictEntry → List (PyData × PyData) → Prop
  | nil : PEs [] []
  | cons {e : DictEntry} {es : List DictEntry} {k : Str} {t : Tok} {d : PyData} {kvs : List (PyData × PyData)} : e.key = .str k t → e.hash = PyData.keyHash P k → PV e.val d → (∀ e' ∈ es, e'.key.isStr k = false) → PEs es kvs → PEs (e :: es) ((.str k, d) :: kvs)
end
end

/-- frozen things stay: what PV needs -/
noncomputable def Fz (κ κ' : Addr → Kd) (h h' : Heap) : Prop := ∀ a o, κ a = .fz → h.get? a = some o → κ' a = .fz ∧ h'.get? a = some o
/-- what may happen to a heap; the addresses of X are free to change -/
structure Ext (X : Addr → Prop) (g g' : Gh) (h h' : Heap) : Prop where
  kind : ∀ a o, h.get? a = some o → g'.κ a = g.κ a
  num : g.n ≤ g'.n
  addr : ∀ i, i < g.n → g'.μ i = g.μ i
  fz : Fz g.κ g'.κ h h'
  keep : ∀ a o, h.get? a = some o → ¬ X a → g.κ a ≠ .mu → g.κ a ≠ .fr → g.κ a ≠ .ex → g.κ a ≠ .tb → h'.get? a = some o
  frs : ∀ a o, h.get? a = some o → ¬ X a → g.κ a = .fr → ∃ sl, h'.get? a = some { o with slots := sl }
  exs : ∀ a o vs, h.get? a = some o → ¬ X a → g.κ a = .ex → o.data = .fields vs → ∃ ws, h'.get? a = some { o with data := .fields ws }
  still : ∀ a o, h.get? a = some o → ∃ o', h'.get? a = some o'
noncomputable abbrev No : Addr → Prop := fun _ => False

theorem Ext.refl (X : Addr → Prop) (g : Gh) (h : Heap) : Ext X g g h h := ⟨fun _ _ _ => rfl, Nat.le_refl _, fun _ _ => rfl, fun _ _ k e => ⟨k, e⟩, fun _ _ e _ _ _ _ _ => e, fun _ o e _ _ => ⟨o.slots, e⟩, fun _ o vs e _ _ q => ⟨vs, q ▸ e⟩, fun _ o e => ⟨o, e⟩⟩
theorem Ext.trans {X : Addr → Prop} {g g' g'' : Gh} {h h' h'' : Heap} (x : Ext X g g' h h') (y : Ext X g' g'' h' h'') : Ext X g g'' h h'' where
  kind a o e := by
    obtain ⟨o', e'⟩ := x.still a o e
    exact (y.kind a o' e').trans (x.kind a o e)
  num := Nat.le_trans x.num y.num
  addr i hi := (y.addr i (Nat.lt_of_lt_of_le hi x.num)).trans (x.addr i hi)
  fz a o k e := y.fz a o (x.fz a o k e).1 (x.fz a o k e).2
  keep a o e z k1 k2 k3 k4 := by
    have hk := x.kind a o e
    exact y.keep a o (x.keep a o e z k1 k2 k3 k4) z (hk ▸ k1) (hk ▸ k2) (hk ▸ k3) (hk ▸ k4)
  frs a o e z k := by
    have hk := x.kind a o e
    obtain ⟨sl, e1⟩ := x.frs a o e z k
    obtain ⟨sl', e2⟩ := y.frs a _ e1 z (hk ▸ k)
    exact ⟨sl', e2⟩
  exs a o vs e z k d := by
    have hk := x.kind a o e
    obtain ⟨dt, e1⟩ := x.exs a o vs e z k d
    obtain ⟨dt', e2⟩ := y.exs a _ dt e1 z (hk ▸ k) rfl
    exact ⟨dt', e2⟩
  still a o e := by
    obtain ⟨o', e'⟩ := x.still a o e
    exact y.still a o' e'
theorem Ext.of_keeps (X : Addr → Prop) (g : Gh) {h h' : Heap} (k : ∀ b o, h.get? b = some o → h'.get? b = some o) : Ext X g g h h' :=
  ⟨fun _ _ _ => rfl, Nat.le_refl _, fun _ _ => rfl, fun _ _ q e => ⟨q, k _ _ e⟩, fun _ _ e _ _ _ _ _ => k _ _ e, fun _ o e _ _ => ⟨o.slots, k _ _ e⟩, fun _ o vs e _ _ q => ⟨vs, q ▸ k _ _ e⟩, fun _ o e => ⟨o, k _ _ e⟩⟩
theorem Ext.weaken {X Y : Addr → Prop} {g g' : Gh} {h h' : Heap} (i : ∀ a, X a → Y a) (x : Ext X g g' h h') : Ext Y g g' h h' :=
  ⟨x.kind, x.num, x.addr, x.fz, fun a o e z => x.keep a o e fun q => z (i a q), fun a o e z => x.frs a o e fun q => z (i a q), fun a o vs e z => x.exs a o vs e fun q => z (i a q), x.still⟩
theorem Ext.no {X : Addr → Prop} {g g' : Gh} {h h' : Heap} (x : Ext No g g' h h') : Ext X g g' h h' := x.weaken fun _ q => q.elim
/-- what values need -/
structure Up (g g' : Gh) (h h' : Heap) : Prop where
  num : g.n ≤ g'.n
  addr : ∀ i, i < g.n → g'.μ i = g.μ i
  fz : Fz g.κ g'.κ h h'
theorem Ext.up {X : Addr → Prop} {g g' : Gh} {h h' : Heap} (x : Ext X g g' h h') : Up g g' h h' := ⟨x.num, x.addr, x.fz⟩
/-- what was free to change was not there -/
theorem Ext.drop {X Y : Addr → Prop} {g g' : Gh} {h h' : Heap} (x : Ext X g g' h h') (i : ∀ a o, X a → h.get? a = some o → Y a) : Ext Y g g' h h' :=
  ⟨x.kind, x.num, x.addr, x.fz, fun a o e z => x.keep a o e fun q => z (i a o q e), fun a o e z => x.frs a o e fun q => z (i a o q e), fun a o vs e z => x.exs a o vs e fun q => z (i a o q e), x.still⟩

section
variable {P : Params} {h h' : Heap} {κ κ' : Addr → Kd}
theorem PV.mono (x : Fz κ κ' h h') {v : Value} {d : PyData} (p : PV P h κ v d) : PV P h' κ' v d :=
  PV.rec (motive_1 := fun v d _ => PV P h' κ' v d) (motive_2 := fun vs ds _ => PVs P h' κ' vs ds) (motive_3 := fun es kvs _ => PEs P h' κ' es kvs) .none .bool .int .str
    (fun k e c d _ r => .tuple (x _ _ k e).1 (x _ _ k e).2 c d r) (fun k e c d z _ r => .list (x _ _ k e).1 (x _ _ k e).2 c d z r) (fun k e n _ r => .dict (x _ _ k e).1 (x _ _ k e).2 n r)
    .nil (fun _ _ a r => .cons a r) .nil (fun a b _ d _ c r => .cons a b c d r) p
theorem PVs.ind {m : List Value → List PyData → Prop} (n : m [] []) (c : ∀ {v d vs ds}, PV P h κ v d → PVs P h κ vs ds → m vs ds → m (v :: vs) (d :: ds)) {vs : List Value} {ds : List PyData} (p : PVs P h κ vs ds) : m vs ds :=
  PVs.rec (motive_1 := fun _ _ _ => True) (motive_2 := fun vs ds _ => m vs ds) (motive_3 := fun _ _ _ => True) ⟨⟩ (fun _ => ⟨⟩) (fun _ _ => ⟨⟩) (fun _ _ => ⟨⟩)
    (fun _ _ _ _ _ _ => ⟨⟩) (fun _ _ _ _ _ _ _ => ⟨⟩) (fun _ _ _ _ _ => ⟨⟩)
    n (fun a r _ i => c a r i) ⟨⟩ (fun _ _ _ _ _ _ _ => ⟨⟩) p
theorem PVs.mono (x : Fz κ κ' h h') {vs : List Value} {ds : List PyData} (p : PVs P h κ vs ds) : PVs P h' κ' vs ds := PVs.ind .nil (fun a _ i => .cons (a.mono x) i) p
theorem PVs.length {vs : List Value} {ds : List PyData} (p : PVs P h κ vs ds) : vs.length = ds.length := PVs.ind (m := fun vs ds => vs.length = ds.length) rfl (fun _ _ i => congrArg (· + 1) i) p
theorem PVs.append {vs : List Value} {ds : List PyData} {ws : List Value} {es : List PyData} (p : PVs P h κ vs ds) (y : PVs P h κ ws es) : PVs P h κ (vs ++ ws) (ds ++ es) :=
  PVs.ind (m := fun vs ds => PVs P h κ (vs ++ ws) (ds ++ es)) y (fun a _ i => .cons a i) p
theorem PVs.get {vs : List Value} {ds : List PyData} (p : PVs P h κ vs ds) : ∀ {i : Nat} {d : PyData}, ds[i]? = some d → ∃ v, vs[i]? = some v ∧ PV P h κ v d :=
  PVs.ind (m := fun vs ds => ∀ {i : Nat} {d : PyData}, ds[i]? = some d → ∃ v, vs[i]? = some v ∧ PV P h κ v d) (fun {i _} e => nomatch (List.getElem?_nil (i := i)).symm.trans e)
    (fun {v _ _ _} a _ ih {i d} e => by
      cases i with
      | zero => exact ⟨v, rfl, Option.some.inj e ▸ a⟩
      | succ i => exact ih (i := i) e) p
theorem PVs.take {vs : List Value} {ds : List PyData} (n : Nat) (p : PVs P h κ vs ds) : PVs P h κ (vs.take n) (ds.take n) :=
  PVs.ind (m := fun vs ds => ∀ n, PVs P h κ (vs.take n) (ds.take n)) (fun n => by cases n <;> exact .nil) (fun a _ i n => by
    cases n with
    | zero => exact .nil
    | succ n => exact .cons a (i n)) p n
theorem PVs.drop {vs : List Value} {ds : List PyData} (n : Nat) (p : PVs P h κ vs ds) : PVs P h κ (vs.drop n) (ds.drop n) :=
  PVs.ind (m := fun vs ds => ∀ n, PVs P h κ (vs.drop n) (ds.drop n)) (fun n => by cases n <;> exact .nil) (fun a r i n => by
    cases n with
    | zero => exact .cons a r
    | succ n => exact i n) p n
theorem rds_cons {v : Value} {d : PyData} {vs : List Value} {ds : List PyData} (x : ∃ as, Reads h v d as ∧ sysModules ∉ as) (y : ∃ as, ReadsAll h vs ds as ∧ sysModules ∉ as) : ∃ as, ReadsAll h (v :: vs) (d :: ds) as ∧ sysModules ∉ as := by
  obtain ⟨as, q, n⟩ := x
  obtain ⟨bs, p, m⟩ := y
  exact ⟨_, .cons q p, fun hm => (List.mem_append.mp hm).elim n m⟩
theorem rds_kv {e : DictEntry} {es : List DictEntry} {k : Str} {t : Tok} {d : PyData} {kvs : List (PyData × PyData)} (a : e.key = .str k t) (x : ∃ as, Reads h e.val d as ∧ sysModules ∉ as)
    (y : ∃ as bs, ReadsAll h (es.map (·.key)) (kvs.map (·.1)) as ∧ ReadsAll h (es.map (·.val)) (kvs.map (·.2)) bs ∧ sysModules ∉ as ∧ sysModules ∉ bs) :
    ∃ as bs, ReadsAll h ((e :: es).map (·.key)) (((PyData.str k, d) :: kvs).map (·.1)) as ∧ ReadsAll h ((e :: es).map (·.val)) (((PyData.str k, d) :: kvs).map (·.2)) bs ∧ sysModules ∉ as ∧ sysModules ∉ bs := by
  obtain ⟨as, q, n⟩ := x
  obtain ⟨bs, cs, p1, p2, m1, m2⟩ := y
  exact ⟨_, _, .cons (a ▸ Reads.str k t) p1, .cons q p2, m1, fun hm => (List.mem_append.mp hm).elim n m2⟩
theorem no_sm : sysModules ∉ ([] : List Addr) := fun h => nomatch h
theorem PV.reads {v : Value} {d : PyData} (p : PV P h κ v d) : ∃ as, Reads h v d as ∧ sysModules ∉ as :=
  PV.rec (motive_1 := fun v d _ => ∃ as, Reads h v d as ∧ sysModules ∉ as) (motive_2 := fun vs ds _ => ∃ as, ReadsAll h vs ds as ∧ sysModules ∉ as)
    (motive_3 := fun es kvs _ => ∃ as bs, ReadsAll h (es.map (·.key)) (kvs.map (·.1)) as ∧ ReadsAll h (es.map (·.val)) (kvs.map (·.2)) bs ∧ sysModules ∉ as ∧ sysModules ∉ bs)
    ⟨_, .none, no_sm⟩ (fun b => ⟨_, .bool b, no_sm⟩) (fun i t => ⟨_, .int i t, no_sm⟩) (fun y t => ⟨_, .str y t, no_sm⟩)
    (fun _ e c d _ i => i.imp fun _ q => ⟨.tuple e c d q.1, q.2⟩)
    (fun _ e c d z _ i => i.elim fun _ q => ⟨_, .list e c d q.1, fun hm => (List.mem_cons.mp hm).elim (fun w => z w.symm) q.2⟩)
    (fun _ e n _ i => i.elim fun _ i => i.elim fun _ q => ⟨_, .dict e rfl rfl q.1 q.2.1, fun hm => (List.mem_append.mp hm).elim (fun hm => (List.mem_cons.mp hm).elim (fun w => n w.symm) q.2.2.1) q.2.2.2⟩)
    ⟨_, .nil, no_sm⟩ (fun _ _ x y => rds_cons x y) ⟨_, _, .nil, .nil, no_sm, no_sm⟩ (fun a _ _ _ _ x y => rds_kv a x y) p
theorem PVs.reads {vs : List Value} {ds : List PyData} (p : PVs P h κ vs ds) : ∃ as, ReadsAll h vs ds as ∧ sysModules ∉ as := PVs.ind (m := fun vs ds => ∃ as, ReadsAll h vs ds as ∧ sysModules ∉ as) ⟨_, .nil, no_sm⟩ (fun a _ i => rds_cons a.reads i) p
theorem PEs.reads {es : List DictEntry} {kvs : List (PyData × PyData)} (p : PEs P h κ es kvs) : ∃ as bs, ReadsAll h (es.map (·.key)) (kvs.map (·.1)) as ∧ ReadsAll h (es.map (·.val)) (kvs.map (·.2)) bs ∧ sysModules ∉ as ∧ sysModules ∉ bs :=
  PEs.rec (motive_1 := fun _ _ _ => True) (motive_2 := fun _ _ _ => True) (motive_3 := fun es kvs _ => ∃ as bs, ReadsAll h (es.map (·.key)) (kvs.map (·.1)) as ∧ ReadsAll h (es.map (·.val)) (kvs.map (·.2)) bs ∧ sysModules ∉ as ∧ sysModules ∉ bs)
    ⟨⟩ (fun _ => ⟨⟩) (fun _ _ => ⟨⟩) (fun _ _ => ⟨⟩) (fun _ _ _ _ _ _ => ⟨⟩) (fun _ _ _ _ _ _ _ => ⟨⟩) (fun _ _ _ _ _ => ⟨⟩)
    ⟨⟩ (fun _ _ _ _ => ⟨⟩) ⟨_, _, .nil, .nil, no_sm, no_sm⟩ (fun a _ c _ _ _ y => rds_kv a c.reads y) p
end
end Mine
namespace Mine
open PySem PySem.W PyProof.Rows
set_option genSizeOf false
set_option genInjectivity false
set_option maxRecDepth 100000
noncomputable def plL (m : Nat) : List Nat := (List.range 8).filter (m.testBit ·)
noncomputable def plc (m : Nat) : Array Nat := (plL m).toArray
theorem pl_put : ∀ m, m < 256 → ∀ j, j < 8 → m.testBit j = false → (SetTable.insertAt (plc m) (SetTable.below (plc m) j) j).toList = plL (m + 2 ^ j) := by decide +kernel
theorem pl_has : ∀ m, m < 256 → ∀ j, j < 8 → ((plc m)[SetTable.below (plc m) j]? == some j) = m.testBit j := by decide +kernel
theorem pl_next : ∀ m, m < 256 → ∀ i, i < (plL m).length → SetTable.below (plc m) ((plL m).getD i 0 + 1) = i + 1 := by decide +kernel
theorem pl_zero : ∀ m, m < 256 → SetTable.below (plc m) 0 = 0 := by decide +kernel
theorem pl_bit : ∀ m, m < 256 → ∀ j, j < 8 → m.testBit j = false → m + 2 ^ j < 256 ∧ (plL (m + 2 ^ j)).length = (plL m).length + 1 := by decide +kernel
theorem pl_below : ∀ m, m < 256 → ∀ j, j < 8 → SetTable.below (plc m) j ≤ (plL m).length := by decide +kernel
/-! a small set of ints: its table, slot by slot -/
noncomputable def hole (m : Nat) : Nat → Nat → Nat → Option Nat
  | 0, _, _ => none
  | f + 1, i, p => if m.testBit i = true then hole m f ((i * 5 + 1 + p / 32) % 8) (p / 32) else some i
noncomputable def holeOk (m : Nat) : Option Nat → Bool
  | some j => decide (j < 8) && !m.testBit j
  | none => false
theorem hole_zero : ∀ m, m < 255 → ∀ i, i < 8 → holeOk m (hole m 207 i 0) = true := by decide +kernel
theorem hole_ok {m : Nat} (hm : m < 255) : ∀ (k : Nat) {i p : Nat}, i < 8 → p < 32 ^ k → holeOk m (hole m (207 + k) i p) = true
  | 0, i, p, hi, hp => by
    have : p = 0 := Nat.lt_one_iff.mp hp
    subst this; exact hole_zero m hm i hi
  | k + 1, i, p, hi, hp => by
    show holeOk m (if m.testBit i = true then hole m (207 + k) ((i * 5 + 1 + p / 32) % 8) (p / 32) else some i) = true
    by_cases h : m.testBit i = true
    · rw [if_pos h]; exact hole_ok hm k (Nat.mod_lt _ (by decide)) (Nat.div_lt_of_lt_mul (by rw [Nat.mul_comm]; exact hp))
    · rw [if_neg h]
      have h : m.testBit i = false := by cases q : m.testBit i with | true => exact absurd q h | false => rfl
      show (decide (i < 8) && !m.testBit i) = true
      rw [h, decide_eq_true hi]; rfl
theorem pl_full : ∀ m, m < 255 → ∀ j, j < 8 → m.testBit j = false → (plL m).length ≤ 3 → m + 2 ^ j < 255 := by decide +kernel
structure TG (t : SetTable) (m : Nat) : Prop where
  mask : t.mask = 7
  place : t.place = plc m
  dum : t.dummies = #[]
  lt : m < 255
  plain : t.plain = true
theorem TG.slot {t : SetTable} {m : Nat} (T : TG t m) {j : Nat} (hj : j < 8) : t.slot j = if m.testBit j = true then .live (SetTable.below (plc m) j) else .empty := by
  show (if (t.place[SetTable.below t.place j]? == some j) = true then SetTable.Slot.live (SetTable.below t.place j) else if (t.dummies[SetTable.below t.dummies j]? == some j) = true then .dummy else .empty) = _
  rw [T.place, T.dum, pl_has m (Nat.lt_trans T.lt (by decide)) j hj]
  rfl
theorem TG.go {t : SetTable} {m : Nat} (T : TG t m) (h : Int) : ∀ (f : Nat) (i p : Nat), i < 8 → SetTable.probe.go t (fun _ => h + 1) h f { j := i, more := 0, i := i, perturb := p, dummy := none } = (hole m f i p).map fun j => .empty j none
  | 0, _, _, _ => rfl
  | f + 1, i, p, hi => by
    have e : SetTable.probe.go t (fun _ => h + 1) h (f + 1) { j := i, more := 0, i := i, perturb := p, dummy := none } = (match t.slot i with
      | .empty => some (.empty i none)
      | .dummy => SetTable.probe.go t (fun _ => h + 1) h f (t.advance { j := i, more := 0, i := i, perturb := p, dummy := some i })
      | .live k => if (h + 1 == h) = true then some (.candidate i k (t.advance { j := i, more := 0, i := i, perturb := p, dummy := none })) else SetTable.probe.go t (fun _ => h + 1) h f (t.advance { j := i, more := 0, i := i, perturb := p, dummy := none })) := rfl
    rw [e, T.slot hi]
    show _ = Option.map _ (if m.testBit i = true then hole m f ((i * 5 + 1 + p / 32) % 8) (p / 32) else some i)
    by_cases q : m.testBit i = true
    · rw [if_pos q, if_pos q]
      have n : ¬ (h + 1 == h) = true := by rw [beq_iff_eq]; omega
      show (if (h + 1 == h) = true then _ else _) = _
      rw [if_neg n]
      have a : t.advance { j := i, more := 0, i := i, perturb := p, dummy := none } = { j := (i * 5 + 1 + p / 32) % 8, more := 0, i := (i * 5 + 1 + p / 32) % 8, perturb := p / 32, dummy := none } := by
        have le : ∀ x : Nat, SetTable.runEnd 7 x = x := fun x => if_neg (by omega)
        show ({ j := (i * 5 + 1 + p / 32) % (t.mask + 1), more := SetTable.runEnd t.mask ((i * 5 + 1 + p / 32) % (t.mask + 1)) - (i * 5 + 1 + p / 32) % (t.mask + 1), i := (i * 5 + 1 + p / 32) % (t.mask + 1), perturb := p / 32, dummy := none } : SetTable.Probe) = _
        rw [T.mask, le, Nat.sub_self]
      rw [a]
      exact TG.go T h f _ _ (Nat.mod_lt _ (by decide))
    · rw [if_neg q, if_neg q]; rfl
theorem TG.free {t : SetTable} {m : Nat} (T : TG t m) (h : Int) : ∃ j, j < 8 ∧ m.testBit j = false ∧ t.freeSlot h = some (j, false) := by
  have b : SetTable.bits h < 2 ^ 64 := by
    unfold SetTable.bits; omega
  have ok := hole_ok T.lt 13 (i := SetTable.bits h % 8) (Nat.mod_lt _ (by decide)) (Nat.lt_trans b (by decide))
  have e : t.probe (fun _ => h + 1) h (t.probeStart h) = (hole m 220 (SetTable.bits h % 8) (SetTable.bits h)).map fun j => .empty j none := by
    have le : ∀ x : Nat, SetTable.runEnd 7 x = x := fun x => if_neg (by omega)
    have st : t.probeStart h = { j := SetTable.bits h % 8, more := 0, i := SetTable.bits h % 8, perturb := SetTable.bits h, dummy := none } := by
      show ({ j := SetTable.bits h % (t.mask + 1), more := SetTable.runEnd t.mask (SetTable.bits h % (t.mask + 1)) - SetTable.bits h % (t.mask + 1), i := SetTable.bits h % (t.mask + 1), perturb := SetTable.bits h, dummy := none } : SetTable.Probe) = _
      rw [T.mask, le, Nat.sub_self]
    rw [st]
    show SetTable.probe.go t _ h (10 * (t.mask + 15)) _ = _
    rw [T.mask]
    exact T.go h 220 _ _ (Nat.mod_lt _ (by decide))
  cases q : hole m 220 (SetTable.bits h % 8) (SetTable.bits h) with
  | none => rw [q] at ok; cases ok
  | some j =>
    rw [q] at ok e
    have ok := Bool.and_eq_true_iff.mp ok
    refine ⟨j, of_decide_eq_true ok.1, by simpa using ok.2, ?_⟩
    unfold SetTable.freeSlot
    rw [e]; rfl
/-- one more element -/
theorem TG.lay {t : SetTable} {m : Nat} (T : TG t m) {es : Array (Int × Value)} (hm : (plL m).length = es.size) (h3 : es.size ≤ 3) (h : Int) (x : Value) :
    ∃ t' es' m', layNew t es h x = (es', t', false, false) ∧ TG t' m' ∧ es'.size = es.size + 1 ∧ (plL m').length = es.size + 1 ∧ t'.led = t.led := by
  obtain ⟨j, hj, hb, e⟩ := T.free h
  have lt : m < 256 := Nat.lt_trans T.lt (by decide)
  have pb := pl_bit m lt j hj hb
  have be := pl_below m lt j hj
  have put : t.put j = ({ t with place := plc (m + 2 ^ j), dummies := #[] }, SetTable.below (plc m) j) := by
    show (({ t with place := SetTable.insertAt t.place (SetTable.below t.place j) j, dummies := if (t.dummies[SetTable.below t.dummies j]? == some j) = true then SetTable.eraseAt t.dummies (SetTable.below t.dummies j) else t.dummies } : SetTable), SetTable.below t.place j) = _
    rw [T.place, T.dum]
    have : SetTable.insertAt (plc m) (SetTable.below (plc m) j) j = plc (m + 2 ^ j) := by
      apply Array.toList_inj.mp; exact pl_put m lt j hj hb
    rw [this]; rfl
  have sz : (SetTable.insertAt es (SetTable.below (plc m) j) (h, x)).size = es.size + 1 := by
    unfold SetTable.insertAt
    simp only [Array.size_append, Array.size_push, Array.size_extract]
    omega
  have fit : ({ t with place := plc (m + 2 ^ j), dummies := #[] } : SetTable).fits (es.size + 1) = true := by
    show ((plL (m + 2 ^ j)).length == es.size + 1 && decide ((plL (m + 2 ^ j)).length + 0 ≤ t.mask)) = true
    rw [pb.2, hm, T.mask, Bool.and_eq_true, beq_iff_eq, decide_eq_true_eq]
    exact ⟨rfl, by omega⟩
  refine ⟨{ t with place := plc (m + 2 ^ j), dummies := #[] }, SetTable.insertAt es (SetTable.below (plc m) j) (h, x), m + 2 ^ j, ?_, ⟨T.mask, rfl, rfl, pl_full m T.lt j hj hb (by rw [hm]; exact h3), T.plain⟩, sz, by rw [pb.2, hm], rfl⟩
  unfold layNew
  rw [e]
  dsimp only
  rw [put]
  dsimp only
  unfold SetTable.orStandIn
  rw [sz, fit]; rfl
section
variable {prog : Program} {w : World} {A : Around} {E : Value → Shared → Prop} {s : Shared}
noncomputable abbrev byText (w : World) : Bool := w.params.followText "set-order"
/-- a set of ints, its table known -/
structure SetG (prog : Program) (w : World) (h : Heap) (a : Addr) (l : List Int) (o : Obj) (es : Array (Int × Value)) (ep : Nat) (t : SetTable) (m : Nat) : Prop where
  at_ : h.get? a = some o
  ex : o.ExactSet
  data : o.data = .set es ep t
  el : ElemsOf (intKind prog w) es.toList
  mem : ∀ k, k ∈ l ↔ ∃ e ∈ es.toList, (intKind prog w).is k e.2 = true
  size : es.size = l.length
  tab : TG t m
  cnt : (plL m).length = es.size
  led : t.led = !byText w
  small : es.size ≤ 4
theorem SetG.fits {h : Heap} {a : Addr} {l : List Int} {o es ep t m} (G : SetG prog w h a l o es ep t m) : t.fits es.size = true := by
  show (t.place.size == es.size && decide (t.place.size + t.dummies.size ≤ t.mask)) = true
  rw [G.tab.place, G.tab.dum, G.tab.mask]
  show ((plL m).length == es.size && decide ((plL m).length + 0 ≤ 7)) = true
  rw [G.cnt, Bool.and_eq_true, beq_iff_eq, decide_eq_true_eq]
  exact ⟨rfl, by have := G.small; omega⟩
noncomputable def SetS (prog : Program) (w : World) (h : Heap) (a : Addr) (l : List Int) : Prop := ∃ o es ep t m, SetG prog w h a l o es ep t m
theorem any_mem {l : List Int} {k : Int} : l.any (· == k) = true ↔ k ∈ l := by
  rw [List.any_eq_true]
  exact ⟨fun ⟨x, hx, e⟩ => by rw [beq_iff_eq] at e; exact e ▸ hx, fun h => ⟨k, h, beq_self_eq_true k⟩⟩
theorem SetS.setOf {h : Heap} {a : Addr} {l : List Int} (G : SetS prog w h a l) : h.SetOf (intKind prog w) a (fun k => l.any (· == k)) l.length := by
  obtain ⟨o, es, ep, t, m, G⟩ := G
  exact ⟨o, es, ep, t, G.at_, G.ex, G.data, G.el, fun k => any_mem.trans (G.mem k), Nat.lt_of_le_of_lt G.small (by decide), G.fits, G.size⟩
theorem SetS.add {a : Addr} {l : List Int} {k : Int} {u : Tok} {Q : Bool → Shared → Prop} (G : SetS prog w s.heap a l) (hl : (step_dedup l k).length ≤ 4)
    (h : ∀ h', Heap.SameBut a s.heap h' → SetS prog w h' a (step_dedup l k) → ∀ b, Q b { s with heap := h' }) : wpAny (model prog w) A (setAddHashed a (.int k u) (hashInt k)) Q E s := by
  obtain ⟨o, es, ep, t, m, G⟩ := G
  have hkey : (intKind prog w).is k (.int k u) = true := intKind_is _ _ _ _
  unfold setAddHashed setAddHashedIn
  refine wpAny_holding (wpAny_bind (wpAny_setState_of G.at_ G.data G.fits ?_))
  dsimp only
  rw [byScan_of rfl (Nat.lt_of_le_of_lt G.small (by decide)) G.el]
  simp only [↓reduceIte]
  unfold setAddByScan
  refine wpAny_bind ?_
  refine wpAny_bind (wpAny_rule ?_)
  refine wpAny_bind (wpAny_setScan_of hkey G.at_ G.data G.fits G.el ?_)
  cases hr : List.findIdx? (fun e => (intKind prog w).is k e.2) es.toList with
  | some j =>
    obtain ⟨hj, hpj, _⟩ := List.findIdx?_eq_some_iff_getElem.mp hr
    have hk : k ∈ l := (G.mem k).mpr ⟨_, List.getElem_mem hj, hpj⟩
    have e : step_dedup l k = l := if_pos (any_mem.mpr hk)
    rw [e] at h
    exact wpAny_pure (wpAny_pure (h s.heap (Heap.SameBut.refl a s.heap) ⟨o, es, ep, t, m, G⟩ _))
  | none =>
    have hk : ¬ k ∈ l := fun hk => by
      obtain ⟨e, he, hp⟩ := (G.mem k).mp hk
      have := List.findIdx?_eq_none_iff.mp hr e he
      rw [hp] at this; cases this
    have e : step_dedup l k = l ++ [k] := if_neg fun q => hk (any_mem.mp q)
    rw [e] at h hl
    have h3 : es.size ≤ 3 := by rw [G.size]; rw [List.length_append] at hl; simp at hl; omega
    obtain ⟨t', es', m', hL, T', sz, cnt, led⟩ := G.tab.lay G.cnt h3 (hashInt k) (.int k u)
    have hperm := layNew_perm t es (hashInt k) (.int k u)
    rw [hL, Array.toList_push] at hperm
    show wpAny _ _ _ _ _ _
    have hL' : layNew t es ((intKind prog w).hash k) (.int k u) = (es', t', false, false) := hL
    dsimp only
    rw [show layNew t es (hashInt k) (.int k u) = (es', t', false, false) from hL]
    refine wpAny_bind (wpAny_pure ?_)
    dsimp only
    rw [T'.plain]
    refine wpAny_bind ?_
    show wpAny _ _ (hashByValue 8 (.int k u)) _ _ _
    rw [hashByValue_scannable 8 rfl]
    refine wpAny_pure ?_
    have tf : t'.tooFull = false := by
      show decide ((t'.place.size + t'.dummies.size) * 5 ≥ t'.mask * 3) = false
      rw [T'.place, T'.dum, T'.mask]
      show decide (((plL m').length + 0) * 5 ≥ 7 * 3) = false
      rw [cnt]
      exact decide_eq_false (by omega)
    show wpAny _ _ (storeSet a es' t' >>= _) _ _ _
    refine wpAny_bind (wpAny_storeSet_of G.at_ G.data ?_ (by rw [sz, sizeLine_eq]; omega))
    show wpAny _ _ (if (!false && t'.tooFull) = true then _ else pure (some true)) _ _ _
    rw [tf, Bool.and_false]
    refine wpAny_pure (wpAny_pure (h _ (Heap.SameBut.update ..) ⟨Obj.putSet es' t' o, es', ep + 1, t', m', ?_⟩ _))
    have hup := Heap.get?_update_self (Obj.putSet es' t') G.at_ (by
      have := G.data
      obtain ⟨c, d, dt, sl⟩ := o; cases this; rfl)
    refine ⟨hup, ?_, ?_, (G.el.push hkey rfl).perm hperm, fun k' => ?_, by rw [sz, G.size, List.length_append]; rfl, T', by rw [cnt, sz], led.trans G.led, by omega⟩
    · rw [putSet_of _ _ G.data]; exact G.ex
    · rw [putSet_of _ _ G.data]
    · rw [List.mem_append, G.mem k', List.mem_singleton]
      refine ⟨fun q => ?_, fun ⟨e, he, hp⟩ => ?_⟩
      · rcases q with ⟨e, he, hp⟩ | rfl
        · exact ⟨e, hperm.mem_iff.mpr (List.mem_append_left _ he), hp⟩
        · exact ⟨_, hperm.mem_iff.mpr (List.mem_append_right _ (List.mem_singleton.mpr rfl)), hkey⟩
      · rcases List.mem_append.mp (hperm.mem_iff.mp he) with he | he
        · exact .inl ⟨e, he, hp⟩
        · rw [List.mem_singleton] at he; subst he
          exact .inr ((intKind prog w).inj _ _ _ hp hkey)
end
theorem step_le (l : List Int) (k : Int) : l.length ≤ (step_dedup l k).length := by
  rw [step_length]; split <;> omega
noncomputable def SI (prog : Program) (w : World) (h : Heap) (a : Addr) (l : List Int) : Prop := h.SetOf (intKind prog w) a (fun k => l.any (· == k)) l.length ∧ (l.length ≤ 4 → SetS prog w h a l)
section
variable {prog : Program} {w : World} {A : Around} {E : Value → Shared → Prop} {s : Shared}
theorem SI.add {a : Addr} {l : List Int} {k : Int} {u : Tok} {Q : Bool → Shared → Prop} (G : SI prog w s.heap a l) (hl : l.length + 1 < scanBound)
    (h : ∀ h', Heap.SameBut a s.heap h' → SI prog w h' a (step_dedup l k) → ∀ b, Q b { s with heap := h' }) : wpAny (model prog w) A (setAddHashed a (.int k u) (hashInt k)) Q E s := by
  by_cases q : (step_dedup l k).length ≤ 4
  · exact (G.2 (Nat.le_trans (step_le l k) q)).add q fun h' sb G' b => h h' sb ⟨G'.setOf, fun _ => G'⟩ b
  · refine wpAny_setAddHashed_of (knd := intKind prog w) (intKind_is _ _ _ _) rfl G.1 hl fun h' sb G' => h h' sb ⟨SetOf_congr G' (fun k' => (step_any _ _ _).symm) (step_length _ _).symm, fun z => absurd z q⟩ _
theorem SI.at {h h' : Heap} {a : Addr} {l : List Int} (G : SI prog w h a l) (e : ∀ o, h.get? a = some o → h'.get? a = some o) : SI prog w h' a l := by
  refine ⟨?_, fun q => ?_⟩
  · obtain ⟨o, es, ep, t, ho, r⟩ := G.1
    exact ⟨o, es, ep, t, e _ ho, r⟩
  · obtain ⟨o, es, ep, t, m, G⟩ := G.2 q
    exact ⟨o, es, ep, t, m, e _ G.at_, G.ex, G.data, G.el, G.mem, G.size, G.tab, G.cnt, G.led, G.small⟩
end
section
variable {prog : Program} {w : World} {A : Around} {R : Result → Shared → Prop} {I : Addr} {fp wr : List Addr} {G : Array GenState → Array GenState → Prop} {n : Nat} {P : Nat → Value → Prop} {St : Nat → Shared → Prop}
theorem set_loop (W : WalksS prog w A.in1 I fp wr G n P St) (D : Addr) (hD : D ∉ fp) (val : Nat → Int) (hval : ∀ i v, P i v → ∃ t, v = .int (val i) t) (hb : n + 1 < scanBound) :
    ∀ (k i : Nat) (s : Shared), n - i = k → i ≤ n → St i s → SI prog w s.heap D (firstMet val i) →
      (∀ s', Moved (D :: wr) G s s' → SI prog w s'.heap D (firstMet val n) → R (.ok (.ret .none)) s') → codeAny (model prog w) A (.builtin "set.update.loop" ⟨[.ref D, .ref I], []⟩) R s := by
  have hw : D ∉ wr := fun h => hD (W.sub _ h)
  have up : ∀ b ∈ wr, b ∈ D :: wr := fun b hb => List.mem_cons_of_mem _ hb
  intro k
  induction k with
  | zero =>
    intro i s hk hi hst hS hR
    obtain rfl : i = n := by omega
    refine codeAny_builtin PyProof.Rows.F.entry_set_update_loop ?_
    rw [Around.under_plainId PyProof.Rows.F.plain_set_update_loop _]
    exact wpAny_bind (W.done s _ _ hst fun s' hm => wpAny_pure (hR s' (hm.mono up) (hS.at fun o e => hm.heap D o hw e)))
  | succ k ih =>
    intro i s hk hi hst hS hR
    have hlt : i < n := by omega
    refine codeAny_builtin PyProof.Rows.F.entry_set_update_loop ?_
    rw [Around.under_plainId PyProof.Rows.F.plain_set_update_loop _]
    refine wpAny_bind (W.item i s _ _ hlt hst fun v s' hP hst' hm => ?_)
    obtain ⟨t, rfl⟩ := hval i v hP
    have hS' := hS.at fun o e => hm.heap D o hw e
    show wpAny _ A.in1 (holding [Value.int (val i) t] (setAdd D (.int (val i) t)) >>= _) _ _ s'
    refine wpAny_bind (wpAny_holding ?_)
    unfold setAdd
    refine wpAny_holding (wpAny_bind ((intKind prog w).pyHash (k := val i) (intKind_is _ _ _ _) ?_))
    have room : (firstMet val i).length + 1 < scanBound := by have := firstMet_length_le val i; omega
    refine SI.add (s := { s' with toks := s'.toks + 1 }) hS' room fun h' sb hS2 b => ?_
    rw [← firstMet_succ] at hS2
    refine wpAny_pure ⟨plainId_quiet PyProof.Rows.F.plain_set_update_loop _, ih (i + 1) _ (by omega) hlt (W.frame _ s' _ _ hst' (Nat.le_succ _) fun c hc o e => ?_) hS2 fun s'' hm'' hS'' => ?_⟩
    · rw [sb.2 c fun q => hD (q ▸ hc)]; exact e
    · refine hR s'' (Moved.trans W.gtrans ((hm.mono up).then_heap (Nat.le_succ _) fun c o hc e => ?_) hm'') hS''
      rw [sb.2 c fun q => hc (q ▸ List.mem_cons_self)]; exact e
end
end Mine
namespace Mine
open PySem PySem.W PyProof.Rows PySem.Calls
set_option genSizeOf false
set_option genInjectivity false

noncomputable abbrev Names := List (Str × NameKind)
structure Cx where
  fn : Names
  cs : Option Names
  funs : List (Str × Nat)
  meths : List (Str × Nat)
  cons : List (Str × Nat)
  muts : List (Nat × Nat)
  lam : Bool

/-- what does not change: the program, the world, the heap at the law's call, the written part -/
structure Sta where
  prog : Program
  w : World
  s0 : Shared
  K : Frag
  mg : Str → Option Value
  mb : Str → Option Value
  cev : Addr
  ec : Bool → Addr
  fa : Nat → Addr
  cx : Cx
  gc : Nat → PyData
  tab : Nat → Option Fn
  lc : Addr
  tp : Addr
  lq : Str
noncomputable abbrev Sta.B (S : Sta) : Heap := S.s0.heap
noncomputable abbrev Sta.M (S : Sta) : Model := model S.prog S.w
structure StaOk (S : Sta) : Prop where
  K : S.K.In S.B
  g : S.B.Ns mainGlobals S.mg
  b : S.B.Ns builtinsNs S.mb
  builtins : ∀ x : Str, x ≠ "__name__" → S.mb x = bootBuiltins x
  nolimit : S.B.NoLimit
  cev : 14 < S.cev
  sm : ∃ o, S.B.get? sysModules = some o
  lc : CodeHd S.B S.lc S.tp
  tn : S.B.get? S.tp = none
  ba : ∀ h, S.B.StaysIn h → h.BuiltinsAt S.mg S.tp

section
variable (S : Sta) (h : Heap) (g : Gh)
inductive VR : Value → V → Prop
  | pd {v : Value} {d : PyData} : PV S.w.params h g.κ v d → VR v (.pd d)
  | ref {i : Nat} : i < g.n → VR (.ref (g.μ i)) (.ref i)
  | evr {a dx : Addr} {e : DictEntry} {t : Tok} {n : Nat} {sc : V} : g.κ a = .fz → g.κ dx = .fz → h.get? a = some (instObj S.cev dx) → h.get? dx = some (dictOf [e] n) → e.key = .str (Str.ofString "scope") t → e.hash = PyData.keyHash S.w.params (Str.ofString "scope") →
      VR e.val sc → VR (.ref a) (.evr sc)
  | rng {a : Addr} {lo hi : Int} {t u r : Tok} : g.κ a = .fz → IsRange h a lo hi 1 t u r → VR (.ref a) (.rng lo hi)
  | ty (n : String) : VR (.type n) (.ty n)
  | set {a : Addr} {o : Obj} {l : List Int} : g.κ a = .fz → h.get? a = some o → SI S.prog S.w h a l → l.length < scanBound → l.Nodup → VR (.ref a) (.set l)

/-- entries of a mutable dict -/
inductive VEs : List DictEntry → List (Str × V) → Prop
  | nil : VEs [] []
  | cons {e : DictEntry} {es : List DictEntry} {k : Str} {t : Tok} {x : V} {kvs : List (Str × V)} : e.key = .str k t → e.hash = PyData.keyHash S.w.params k → VR S h g e.val x → (∀ e' ∈ es, e'.key.isStr k = false) → VEs es kvs → VEs (e :: es) ((k, x) :: kvs)
inductive VRs : List Value → List V → Prop
  | nil : VRs [] []
  | cons {v : Value} {vs : List Value} {d : V} {ds : List V} : VR S h g v d → VRs vs ds → VRs (v :: vs) (d :: ds)
/-- an object that may change -/
inductive MO (a : Addr) : O → Prop
  | list {vs : List Value} {n : Nat} {l : List PyData} : h.get? a = some ⟨.type "list", none, .seq vs.toArray n, #[]⟩ → PVs S.w.params h g.κ vs l → MO a (.list l)
  | dict {es : List DictEntry} {n : Nat} {l : List (Str × V)} : h.get? a = some ⟨.type "dict", none, .dict es.toArray n, #[]⟩ → VEs S h g es l → MO a (.dict l)
end

section
variable {S : Sta} {h h' : Heap} {g g' : Gh}
theorem VR.mono (x : Up g g' h h') {v : Value} {d : V} (r : VR S h g v d) : VR S h' g' v d := by
  induction r with
  | pd r => exact .pd (r.mono x.fz)
  | ref hi => exact x.addr _ hi ▸ .ref (Nat.lt_of_lt_of_le hi x.num)
  | evr k1 k2 e1 e2 a b _ ih => exact .evr (x.fz _ _ k1 e1).1 (x.fz _ _ k2 e2).1 (x.fz _ _ k1 e1).2 (x.fz _ _ k2 e2).2 a b ih
  | rng k e => exact .rng (x.fz _ _ k e).1 (x.fz _ _ k e).2
  | ty n => exact .ty n
  | set k e q b nd => exact .set (x.fz _ _ k e).1 (x.fz _ _ k e).2 (q.at fun o e => (x.fz _ _ k e).2) b nd
theorem VRs.mono (x : Up g g' h h') {vs : List Value} {ds : List V} (r : VRs S h g vs ds) : VRs S h' g' vs ds := by
  induction r with
  | nil => exact .nil
  | cons a _ ih => exact .cons (a.mono x) ih
theorem VEs.mono (x : Up g g' h h') {es : List DictEntry} {kvs : List (Str × V)} (r : VEs S h g es kvs) : VEs S h' g' es kvs := by
  induction r with
  | nil => exact .nil
  | cons a b c d _ ih => exact .cons a b (c.mono x) d ih
theorem MO.mono_at (x : Up g g' h h') {a b : Addr} {o : O} (r : MO S h g a o) (e : ∀ ob, h.get? a = some ob → h'.get? b = some ob) : MO S h' g' b o := by
  cases r with
  | list e1 r => exact .list (e _ e1) (r.mono x.fz)
  | dict e1 r => exact .dict (e _ e1) (r.mono x)
theorem VRs.append {vs ws : List Value} {ds es : List V} (r : VRs S h g vs ds) (q : VRs S h g ws es) : VRs S h g (vs ++ ws) (ds ++ es) := by
  induction r with
  | nil => exact q
  | cons a _ ih => exact .cons a ih
theorem VRs.length {vs : List Value} {ds : List V} (r : VRs S h g vs ds) : vs.length = ds.length := by
  induction r with
  | nil => rfl
  | cons a _ ih => rw [List.length_cons, List.length_cons, ih]
theorem VRs.pds {vs : List Value} {ds : List V} (r : VRs S h g vs ds) : ∀ {l : List PyData}, allPd ds = some l → PVs S.w.params h g.κ vs l := by
  induction r with
  | nil => intro l e; cases e; exact .nil
  | @cons v vs d ds a r ih =>
    intro l e
    cases d with
    | pd d =>
      obtain ⟨q, e', rfl⟩ := Option.map_eq_some_iff.mp (show (allPd ds).map (d :: ·) = some l from e)
      cases a with
      | pd a => exact .cons a (ih e')
    | _ => cases e
end


/-! FROM THE GIVEN TERM TO THE LITTLE LANGUAGE -/
noncomputable def idxOf : Names → Str → Nat → Option (Nat × NameKind)
  | [], _, _ => none
  | (a, k) :: r, x, i => if a = x then some (i, k) else idxOf r x (i + 1)
theorem lookT_mem {κ α : Type} [DecidableEq κ] {x : κ} {k : α} {l : List (κ × α)} (h : lookT l x = some k) : (x, k) ∈ l := by
  induction l with
  | nil => cases h
  | cons p r ih =>
    by_cases e : p.1 = x
    · have := (if_pos e).symm.trans h; cases this; cases e; exact .head _
    · exact .tail _ (ih ((if_neg e).symm.trans h))
/-- a name where it stands: a slot of the frame, of the comprehension's, or a global name -/
inductive Nm where
  | v (i : Nat)
  | w (i : Nat)
  | g
noncomputable def badN (x : Str) : Bool := (x == Str.ofString "__debug__") || (x == Str.ofString "__classdict__")
noncomputable def gdN (b : Bool) (x : Option Nm) : Option Nm := match b with
  | true => none
  | false => x
noncomputable def nmF : NameKind → Nat → Option Nm
  | .local, i => some (.v i) | .cell, i => some (.v i) | .free, i => some (.v i) | .globalExplicit, _ => none | .globalImplicit, _ => some .g
noncomputable def nmI : NameKind → Nat → Option Nm
  | .local, _ => none | .cell, i => some (.v i) | .free, i => some (.v i) | .globalExplicit, _ => none | .globalImplicit, _ => none
noncomputable def nmC (fn : Names) (x : Str) : NameKind → Nat → Option Nm
  | .local, i => some (.w i) | .cell, _ => none | .free, _ => (idxOf fn x 0).bind fun p => nmI p.2 p.1 | .globalExplicit, _ => none | .globalImplicit, _ => some .g
noncomputable def nmOf (cx : Cx) (x : Str) : Option Nm := gdN (badN x) (match cx.cs with
  | none => (idxOf cx.fn x 0).bind fun p => nmF p.2 p.1
  | some cs => (idxOf cs x 0).bind fun p => nmC cx.fn x p.2 p.1)
theorem nmOf_bad {cx : Cx} {x : Str} {n : Nm} (h : nmOf cx x = some n) : badN x = false := by
  unfold nmOf at h
  cases q : badN x with
  | false => rfl
  | true => rw [q] at h; cases h
theorem nmOf_0 {cx : Cx} {x : Str} {n : Nm} (hc : cx.cs = none) (h : nmOf cx x = some n) : ∃ i k, idxOf cx.fn x 0 = some (i, k) ∧ nmF k i = some n := by
  have hb := nmOf_bad h
  unfold nmOf at h
  rw [hb, hc] at h
  exact bd_e h fun p e q => ⟨p.1, p.2, e, q⟩
theorem nmOf_1 {cx : Cx} {cs : Names} {x : Str} {n : Nm} (hc : cx.cs = some cs) (h : nmOf cx x = some n) : ∃ i k, idxOf cs x 0 = some (i, k) ∧ nmC cx.fn x k i = some n := by
  have hb := nmOf_bad h
  unfold nmOf at h
  rw [hb, hc] at h
  exact bd_e h fun p e q => ⟨p.1, p.2, e, q⟩
theorem nmOf_i {cx : Cx} {x : Str} {i : Nat} {k : NameKind} (hb : badN x = false) (hc : cx.cs = none) (e : idxOf cx.fn x 0 = some (i, k)) : nmOf cx x = nmF k i := by
  unfold nmOf
  rw [hb, hc]
  show (idxOf cx.fn x 0).bind _ = _
  rw [e]; rfl
noncomputable def nameX (cx : Cx) (x : Str) : Option X := match nmOf cx x with
  | some (.v i) => some (.v i)
  | some (.w i) => some (.w i)
  | some .g => (lookT cx.cons x).map .g
  | none => none
noncomputable def constX : Const → Option X
  | .none => some (.c .none)
  | .bool b => some (.c (.bool b))
  | .int i => some (.c (.int i))
  | .str s => some (.c (.str s))
  | _ => none
noncomputable def opOf : Operator → Option Op
  | .Add => some .add | .Sub => some .sub | .Mult => some .mul | .Mod => some .mod | .Pow => some .pow | _ => none
noncomputable def cmpOf : CmpOp → Op
  | .Eq => .eq | .NotEq => .ne | .Lt => .lt | .LtE => .le | .Gt => .gt | .GtE => .ge | .Is => .is | .IsNot => .isnot | .In => .isin | .NotIn => .notin
noncomputable def primTab : List (Str × Prim) := [(Str.ofString "len", .len), (Str.ofString "int", .int), (Str.ofString "repr", .repr), (Str.ofString "tuple", .tuple), (Str.ofString "range", .range), (Str.ofString "sorted", .sorted), (Str.ofString "set", .set), (Str.ofString "abs", .abs), (Str.ofString "min", .min), (Str.ofString "max", .max)]
noncomputable def tyTab : List (Str × String) := [(Str.ofString "bool", "bool"), (Str.ofString "int", "int"), (Str.ofString "str", "str"), (Str.ofString "tuple", "tuple"), (Str.ofString "list", "list")]
noncomputable def primOf (x : Str) : Option Prim := lookT primTab x
noncomputable def tyOf (x : Str) : Option String := lookT tyTab x
noncomputable def lmOf (x : Str) : Option LM := lookT [(Str.ofString "append", .append)] x
noncomputable def faultOf (x : Str) : Option Bool := lookT [(Str.ofString "what", false), (Str.ofString "spot", true)] x
noncomputable def isMut (cx : Cx) (p : Pos) : Bool := cx.muts.contains (p.line, p.col)
noncomputable def asKs (e : PySem.Expr) : Option {q : Const × Nat × Pos // e = .Constant q.1 q.2.1 q.2.2} := match e with
  | .Constant c k p => some ⟨(c, k, p), rfl⟩
  | _ => none
noncomputable def asK (e : PySem.Expr) : Option Const := (asKs e).bind fun q => some q.1.1
theorem asK_eq {e : PySem.Expr} {c : Const} (h : asK e = some c) : ∃ k p, e = .Constant c k p := bd_e h fun q _ h => by
  obtain rfl := Option.some.inj h
  exact ⟨_, _, q.2⟩
noncomputable def intK : Const → Option Int
  | .int i => some i
  | _ => none
noncomputable def strK : Const → Option Str
  | .str i => some i
  | _ => none
noncomputable def intC : Option PySem.Expr → Option (Option Int)
  | none => some none
  | some e => ((asK e).bind intK).map some
noncomputable def keysC : List (Option PySem.Expr) → Option (List Str)
  | [] => some []
  | e :: r => (e.bind asK).bind fun c => (strK c).bind fun s => (keysC r).map (s :: ·)
noncomputable def both {α β : Type} (a : Option α) (b : Option β) : Option (α × β) := match a, b with | some x, some y => some (x, y) | _, _ => none
noncomputable def joinX (o : PySem.BoolOp) : List X → Option X
  | [] => none
  | [a] => some a
  | a :: r => (joinX o r).map fun b => match o with | .And => .and a b | .Or => .or a b
noncomputable def isStar : PySem.Expr → Bool
  | .Starred .. => true
  | _ => false
/-- the names as a lambda's body sees them -/
noncomputable def lamNames (fn lam : Names) : Names := fn.map (fun p => (p.1, match idxOf lam p.1 0 with | some (_, .free) => .free | some (_, .globalImplicit) => .globalImplicit | _ => .globalExplicit)) ++ lam.filter (fun p => p.2 == .globalImplicit && lam.lookup p.1 == some .globalImplicit)
noncomputable def visOf (fn lam : Names) : Nat → List Nat
  | i => match fn with
    | [] => []
    | p :: r => (match idxOf lam p.1 0 with | some (_, .free) => [i] | _ => []) ++ visOf r lam (i + 1)
noncomputable def lamOk (fn : Names) (sc : Scope) : Bool := (sc.kind == .function) && !sc.isGenerator && !sc.isCoroutine && sc.names.all (fun p => p.2 != .cell) && sc.names.all fun p => p.2 != .free || !badN p.1 && (match idxOf fn p.1 0 with | some (_, .cell) => true | _ => false)
noncomputable def compOk (fn : Names) (sc : Scope) : Bool := (sc.kind == .function) && sc.names.all (fun p => p.2 != .cell) && sc.names.all (fun p => p.2 != .local || sc.names.lookup p.1 == some .local) && sc.names.all fun p => p.2 != .free || !badN p.1 && (match idxOf fn p.1 0 with | some (_, .cell) => true | _ => false)
noncomputable def noArgs : Arguments → Bool
  | ⟨a, b, c, d, e, f, g⟩ => a.isEmpty && (b.isEmpty && (c.isNone && (d.isEmpty && (e.isEmpty && (f.isNone && g.isEmpty)))))
noncomputable def isNmE : PySem.Expr → Bool
  | .Name .. => true
  | _ => false
noncomputable def baseOk : PySem.Expr → Bool
  | .Call f a k _ => !(isNmE f && (a.isEmpty && k.isEmpty))
  | _ => true
/-- plain data: what a lambda of the laws may hand on -/
noncomputable def slotN : NameKind → Nat → Option Nat
  | .local, i => some i | .cell, i => some i | .free, _ => none | .globalExplicit, _ => none | .globalImplicit, _ => none
noncomputable def slotI (fn : Names) (x : Str) : Option Nat := (idxOf fn x 0).bind fun p => slotN p.2 p.1
theorem slotI_e {fn : Names} {x : Str} {i : Nat} (h : slotI fn x = some i) : ∃ k, idxOf fn x 0 = some (i, k) ∧ (k = .local ∨ k = .cell) := bd_e h fun p e h => by
  obtain ⟨j, k⟩ := p
  cases k <;> cases h
  · exact ⟨_, e, .inl rfl⟩
  · exact ⟨_, e, .inr rfl⟩
noncomputable def asName (e : PySem.Expr) : Option {p : Str × Pos // e = .Name p.1 p.2} := match e with
  | .Name x p => some ⟨(x, p), rfl⟩
  | _ => none
noncomputable def slotOf (cx : Cx) (e : PySem.Expr) : Option Nat := (asName e).bind fun p => slotI cx.fn p.1.1
theorem slot_name {cx : Cx} {t : PySem.Expr} {i : Nat} (h : slotOf cx t = some i) : ∃ x p, t = .Name x p ∧ slotI cx.fn x = some i := bd_e h fun p _ h => ⟨p.1.1, p.1.2, p.2, h⟩
noncomputable def slotsOf (cx : Cx) : List PySem.Expr → Option (List Nat)
  | [] => some []
  | e :: r => (slotOf cx e).bind fun i => (slotsOf cx r).bind fun l => some (i :: l)
noncomputable def one? {α : Type} (l : List α) : Option {a : α // l = [a]} := match l with
  | [a] => some ⟨a, rfl⟩
  | _ => none
noncomputable def asCall (e : PySem.Expr) : Option {p : PySem.Expr × List PySem.Expr × Pos // e = .Call p.1 p.2.1 [] p.2.2} := match e with
  | .Call f as ks p => match ks with
    | [] => some ⟨(f, as, p), rfl⟩
    | _ => none
  | _ => none
noncomputable def asAttr (e : PySem.Expr) : Option {p : PySem.Expr × Str × Pos // e = .Attribute p.1 p.2.1 p.2.2} := match e with
  | .Attribute o x p => some ⟨(o, x, p), rfl⟩
  | _ => none
section
variable {α β : Type} {P : α → Prop}
noncomputable def bnd (o : Option {a : α // P a}) (k : ∀ a, P a → Option β) : Option β := match o with
  | some a => k a.1 a.2
  | none => none
noncomputable def chk (b : Bool) (k : b = true → Option β) : Option β := if h : b = true then k h else none
noncomputable def opt (o : Option α) (k : ∀ a, o = some a → Option β) : Option β := match o, k with
  | some a, k => k a rfl
  | none, _ => none
end
noncomputable def optAll {α β : Type} (f : α → Option β) : List α → Option (List β)
  | [] => some []
  | a :: r => opt (f a) fun b _ => opt (optAll f r) fun l _ => some (b :: l)
noncomputable def dX (cx : Cx) : Nat → PySem.Expr → Option X
  | 0, _ => none
  | n + 1, e => match e with
    | .Constant c _ _ => constX c
    | .Name x _ => nameX cx x
    | .Tuple es _ _ => opt (optAll (dX cx n) es) fun l _ => some (.tup l)
    | _ => none
noncomputable def isG : Nm → Bool
  | .g => true
  | _ => false
/-- the body of a lambda: a method of a new Evaluator -/
noncomputable def lamX (cx : Cx) (e : PySem.Expr) : Option X :=
  bnd (asCall e) fun c _ => bnd (asAttr c.1) fun a _ => bnd (asCall a.1) fun d _ => bnd (asName d.1) fun y _ => bnd (one? d.2.1) fun z _ =>
    opt (nmOf cx y.1) fun nm _ => chk (isG nm) fun _ => chk (decide (y.1 = Str.ofString "Evaluator")) fun _ =>
    chk (a.2.2.endLine == c.2.2.line && decide (c.2.1.length < 20)) fun _ => chk (c.2.1.all (fun e => !isStar e) && !isStar z) fun _ =>
    opt (lookT cx.meths a.2.1) fun f _ => opt (dX cx 9 z) fun o _ => opt (optAll (dX cx 9) c.2.1) fun l _ => some (.meth f (.new o) l)
/-- some forms apart -/
noncomputable def kindE : PySem.Expr → Nat
  | .ListComp .. => 1
  | .SetComp .. => 1
  | .DictComp .. => 1
  | .Tuple .. => 2
  | .Set .. => 3
  | .Slice .. => 5
  | _ => 0

/-! THE STATE: what holds of the heap between any two steps. -/
noncomputable def Rest (s s' : Shared) : Prop := s'.gens = s.gens ∧ s'.drawn = s.drawn ∧ s'.os = s.os
theorem Rest.refl (s : Shared) : Rest s s := ⟨rfl, rfl, rfl⟩
theorem Rest.trans {s s' s'' : Shared} (x : Rest s s') (y : Rest s' s'') : Rest s s'' := ⟨y.1.trans x.1, y.2.1.trans x.2.1, y.2.2.trans x.2.2⟩
theorem Rest.with_ (s : Shared) (h : Heap) (t : Nat) : Rest s { s with heap := h, toks := t } := ⟨rfl, rfl, rfl⟩
noncomputable abbrev Gh.put (g : Gh) (a : Addr) (k : Kd) : Gh := { g with κ := fun b => if b = a then k else g.κ b }
noncomputable abbrev Gh.mu (g : Gh) (a : Addr) : Gh := { κ := fun b => if b = a then .mu else g.κ b, μ := fun i => if i = g.n then a else g.μ i, n := g.n + 1 }

noncomputable def FramesOk (h : Heap) (g : Gh) (fr : List Env) : Prop := h.FunFrames {} fr ∧ ∀ L ∈ fr.filterMap (·.frame), g.κ L = .fr

/-- the table of the codes that the law's own lambdas made -/
structure Tabs (S : Sta) (h : Heap) (g : Gh) : Prop where
  k : g.κ S.tp = .tb
  at_ : ∃ ps, h.get? S.tp = some (tabObj ps) ∧ TriplesOk ps.toList ∧ ∀ pos cv, codeAmong pos ps.toList = some cv → ∃ c oc vs t, cv = .ref c ∧ g.κ c = .fz ∧ h.get? c = some oc ∧ oc.data = .fields vs ∧ vs[1]? = some (.str S.lq t)
theorem Tabs.mono {S : Sta} {h h' : Heap} {g g' : Gh} (x : Tabs S h g) (f : Fz g.κ g'.κ h h') (hk : g'.κ S.tp = .tb) (e : ∀ o, h.get? S.tp = some o → h'.get? S.tp = some o) : Tabs S h' g' := by
  obtain ⟨ps, h1, h2, h3⟩ := x.at_
  refine ⟨hk, ps, e _ h1, h2, fun pos cv q => ?_⟩
  obtain ⟨c, oc, vs, t, q1, q2, q3, q4⟩ := h3 pos cv q
  exact ⟨c, oc, vs, t, q1, (f _ _ q2 q3).1, (f _ _ q2 q3).2, q4⟩
structure Inv (S : Sta) (fr : List Env) (g : Gh) (σ : Hp) (h : Heap) : Prop where
  stays : S.B.StaysIn h
  bfz : ∀ a o, S.B.get? a = some o → g.κ a = .fz
  ot : ∀ a, h.get? a = none → g.κ a = .ot
  num : σ.length = g.n
  mu : ∀ i o, σ[i]? = some o → MO S h g (g.μ i) o
  km : ∀ i, i < g.n → g.κ (g.μ i) = .mu
  inj : ∀ i j, i < g.n → j < g.n → g.μ i = g.μ j → i = j
  fr : FramesOk h g fr
  tb : Tabs S h g

theorem funFrames_mono {h h' base : Heap} : ∀ {l : List Env}, (∀ L ∈ l.filterMap (·.frame), ∀ o, h.get? L = some o → ∃ sl, h'.get? L = some { o with slots := sl }) → h.FunFrames base l → h'.FunFrames base l
  | [], _, _ => trivial
  | env :: r, k, ⟨a, ⟨L, o, e1, e2, e3, e4⟩, z⟩ => by
    obtain ⟨sl, e⟩ := k L (by simp [List.filterMap_cons, e1]) o e3
    refine ⟨a, ⟨L, _, e1, e2, e, e4⟩, funFrames_mono (fun L' m => k L' ?_) z⟩
    rw [List.filterMap_cons, e1]; exact List.mem_cons_of_mem _ m
theorem FramesOk.mem {h : Heap} {g : Gh} {fr : List Env} (x : FramesOk h g fr) {L : Addr} (m : L ∈ fr.filterMap (·.frame)) : ∃ o, h.get? L = some o ∧ ∀ vs, o.data ≠ .fields vs := (Heap.FunFrames.mem x.1 m).2
theorem FramesOk.mono {h h' : Heap} {g g' : Gh} {fr : List Env} (x : FramesOk h g fr) (e : Ext No g g' h h') : FramesOk h' g' fr :=
  ⟨funFrames_mono (fun L m o ho => e.frs L o ho id (x.2 L m)) x.1, fun L m => by
    obtain ⟨o, ho, _⟩ := x.mem m
    exact (e.kind L o ho).trans (x.2 L m)⟩

section
variable {S : Sta} {fr : List Env} {g : Gh} {σ : Hp} {h h' : Heap} {X : Addr → Prop}
theorem MO.at {a : Addr} {o : O} (x : MO S h g a o) : ∃ ob, h.get? a = some ob := by
  cases x with
  | list e _ => exact ⟨_, e⟩
  | dict e _ => exact ⟨_, e⟩
theorem Inv.lt (I : Inv S fr g σ h) {i : Nat} {o : O} (e : σ[i]? = some o) : i < g.n := by
  rw [← I.num]; exact (List.getElem?_eq_some_iff.mp e).1
/-- nothing but new things, of one new kind at a -/
theorem Inv.new (I : Inv S fr g σ h) {a : Addr} {k : Kd} {o : Obj} (kp : ∀ b o, h.get? b = some o → h'.get? b = some o) (hn : h.get? a = none) (ha : h'.get? a = some o) : Inv S fr (g.put a k) σ h' ∧ Ext No g (g.put a k) h h' := by
  have ne : ∀ b o, h.get? b = some o → b ≠ a := fun b o e q => by rw [q, hn] at e; cases e
  have hk : ∀ b o, h.get? b = some o → (g.put a k).κ b = g.κ b := fun b o e => if_neg (ne b o e)
  have E : Ext No g (g.put a k) h h' := ⟨hk, Nat.le_refl _, fun _ _ => rfl, fun b o q e => ⟨(hk b o e).trans q, kp b o e⟩, fun b o e _ _ _ _ _ => kp b o e, fun b o e _ _ => ⟨o.slots, kp b o e⟩, fun b o vs e _ _ q => ⟨vs, q ▸ kp b o e⟩, fun b o e => ⟨o, kp b o e⟩⟩
  refine ⟨⟨fun b o e => kp b o (I.stays b o e), fun b o e => (hk b o (I.stays b o e)).trans (I.bfz b o e), fun b e => ?_, I.num, fun i o e => (I.mu i o e).mono_at E.up fun ob q => kp _ _ q, fun i hi => ?_, I.inj, I.fr.mono E, I.tb.mono E.fz (let ⟨_, q, _⟩ := I.tb.at_; (hk _ _ q).trans I.tb.k) (kp _)⟩, E⟩
  · show (if b = a then k else g.κ b) = .ot
    rw [if_neg (fun q => by rw [q, ha] at e; cases e)]
    refine I.ot b ?_
    cases z : h.get? b with
    | none => rfl
    | some o => rw [kp b o z] at e; cases e
  · have z := I.km i hi
    have hi' : i < σ.length := I.num ▸ hi
    obtain ⟨ob, e⟩ := (I.mu i σ[i] (List.getElem?_eq_getElem hi')).at
    exact (hk _ ob e).trans z
theorem Inv.keeps (I : Inv S fr g σ h) (kp : ∀ b o, h.get? b = some o → h'.get? b = some o) : Inv S fr g σ h' ∧ Ext No g g h h' := by
  have E := Ext.of_keeps No g kp
  refine ⟨⟨fun b o e => kp b o (I.stays b o e), I.bfz, fun b e => I.ot b ?_, I.num, fun i o e => (I.mu i o e).mono_at E.up fun ob q => kp _ _ q, I.km, I.inj, I.fr.mono E, I.tb.mono E.fz I.tb.k (kp _)⟩, E⟩
  cases z : h.get? b with
  | none => rfl
  | some o => rw [kp b o z] at e; cases e
theorem Inv.muAt (I : Inv S fr g σ h) {i : Nat} (hi : i < g.n) : ∃ ob, h.get? (g.μ i) = some ob := by
  have hi' : i < σ.length := I.num ▸ hi
  exact (I.mu i σ[i] (List.getElem?_eq_getElem hi')).at
/-- a new mutable thing -/
theorem Inv.newMu (I : Inv S fr g σ h) {a : Addr} {o : O} (kp : ∀ b o, h.get? b = some o → h'.get? b = some o) (hn : h.get? a = none) (ha : Up g (g.mu a) h h' → MO S h' (g.mu a) a o) : Inv S fr (g.mu a) (σ ++ [o]) h' ∧ Ext No g (g.mu a) h h' := by
  have ne : ∀ b o, h.get? b = some o → b ≠ a := fun b o e q => by rw [q, hn] at e; cases e
  have hk : ∀ b o, h.get? b = some o → (g.mu a).κ b = g.κ b := fun b o e => if_neg (ne b o e)
  have hμ : ∀ i, i < g.n → (g.mu a).μ i = g.μ i := fun i hi => if_neg (Nat.ne_of_lt hi)
  have E : Ext No g (g.mu a) h h' := ⟨hk, Nat.le_succ _, hμ, fun b o q e => ⟨(hk b o e).trans q, kp b o e⟩, fun b o e _ _ _ _ _ => kp b o e, fun b o e _ _ => ⟨o.slots, kp b o e⟩, fun b o vs e _ _ q => ⟨vs, q ▸ kp b o e⟩, fun b o e => ⟨o, kp b o e⟩⟩
  have hM := ha E.up
  have hat : ∃ ob, h'.get? a = some ob := hM.at
  have hself : (g.mu a).μ g.n = a := if_pos rfl
  have old : ∀ i, i < g.n → g.μ i ≠ a := fun i hi => by obtain ⟨ob, e⟩ := I.muAt hi; exact ne _ _ e
  refine ⟨⟨fun b o e => kp b o (I.stays b o e), fun b o e => (hk b o (I.stays b o e)).trans (I.bfz b o e), fun b e => ?_, ?_, fun i o e => ?_, fun i hi => ?_, fun i j hi hj e => ?_, I.fr.mono E, I.tb.mono E.fz (let ⟨_, q, _⟩ := I.tb.at_; (hk _ _ q).trans I.tb.k) (kp _)⟩, E⟩
  · show (if b = a then Kd.mu else g.κ b) = .ot
    rw [if_neg (fun q => by obtain ⟨ob, z⟩ := hat; rw [q, z] at e; cases e)]
    refine I.ot b ?_
    cases z : h.get? b with
    | none => rfl
    | some o => rw [kp b o z] at e; cases e
  · simp [I.num]
  · by_cases hi : i < σ.length
    · rw [List.getElem?_append_left hi] at e
      rw [hμ i (I.num ▸ hi)]
      exact (I.mu i o e).mono_at E.up fun ob q => kp _ _ q
    · rw [List.getElem?_append_right (Nat.le_of_not_lt hi)] at e
      obtain ⟨q1, q2⟩ := List.getElem?_eq_some_iff.mp e
      have : i = σ.length := by simp at q1; omega
      subst this
      simp at q2; subst q2
      rw [I.num, hself]; exact hM
  · by_cases z : i = g.n
    · subst z; rw [hself]; exact if_pos rfl
    · have hi' : i < g.n := Nat.lt_of_le_of_ne (Nat.le_of_lt_succ hi) z
      rw [hμ i hi']
      exact (if_neg (old i hi')).trans (I.km i hi')
  · by_cases z : i = g.n <;> by_cases y : j = g.n
    · rw [z, y]
    · have hj' : j < g.n := Nat.lt_of_le_of_ne (Nat.le_of_lt_succ hj) y
      subst z; rw [hself, hμ j hj'] at e; exact absurd e.symm (old j hj')
    · have hi' : i < g.n := Nat.lt_of_le_of_ne (Nat.le_of_lt_succ hi) z
      subst y; rw [hself, hμ i hi'] at e; exact absurd e (old i hi')
    · have hi' : i < g.n := Nat.lt_of_le_of_ne (Nat.le_of_lt_succ hi) z
      have hj' : j < g.n := Nat.lt_of_le_of_ne (Nat.le_of_lt_succ hj) y
      rw [hμ i hi', hμ j hj'] at e; exact I.inj i j hi' hj' e
/-- a mutable thing changes -/
theorem Inv.upMu (I : Inv S fr g σ h) {i : Nat} {o : O} (hi : i < g.n) (kp : ∀ b o, b ≠ g.μ i → h.get? b = some o → h'.get? b = some o) (hs : ∃ ob, h'.get? (g.μ i) = some ob) (ha : Up g g h h' → MO S h' g (g.μ i) o) : Inv S fr g (σ.set i o) h' ∧ Ext No g g h h' := by
  have hki := I.km i hi
  have k2 : ∀ b o, g.κ b ≠ .mu → h.get? b = some o → h'.get? b = some o := fun b o q e => kp b o (fun z => q (z ▸ hki)) e
  have sti : ∀ b o, h.get? b = some o → ∃ o', h'.get? b = some o' := fun b ob e => by
    by_cases z : b = g.μ i
    · subst z; exact hs
    · exact ⟨ob, kp b ob z e⟩
  have E : Ext No g g h h' := ⟨fun _ _ _ => rfl, Nat.le_refl _, fun _ _ => rfl, fun b o q e => ⟨q, k2 b o (by rw [q]; decide) e⟩, fun b o e _ q _ _ _ => k2 b o q e, fun b o e _ q => ⟨o.slots, k2 b o (by rw [q]; decide) e⟩, fun b o vs e _ q y => ⟨vs, y ▸ k2 b o (by rw [q]; decide) e⟩, sti⟩
  refine ⟨⟨fun b o e => k2 b o (by rw [I.bfz b o e]; decide) (I.stays b o e), I.bfz, fun b e => I.ot b ?_, by rw [List.length_set, I.num], fun j ob e => ?_, I.km, I.inj, I.fr.mono E, I.tb.mono E.fz I.tb.k fun o q => k2 _ o (by rw [I.tb.k]; decide) q⟩, E⟩
  · cases z : h.get? b with
    | none => rfl
    | some o => obtain ⟨o', y⟩ := sti b o z; rw [y] at e; cases e
  · by_cases z : i = j
    · subst z
      rw [List.getElem?_set_self (I.num ▸ hi)] at e
      cases e; exact ha E.up
    · rw [List.getElem?_set_ne z] at e
      exact (I.mu j ob e).mono_at E.up fun o q => kp _ o (fun y => z (I.inj _ _ (I.lt e) hi y).symm) q
end

section
variable {S : Sta} {fr : List Env} {g g2 : Gh} {σ : Hp} {h0 h1 h2 : Heap}
/-- a new thing that was filled by and by gets its kind -/
theorem Inv.seal {d : Addr} {k : Kd} {o : Obj} (E : Ext No g g2 h0 h1) (I : Inv S fr g2 σ h1) (hn : h0.get? d = none) (k2 : g2.κ d = .ot) (kp : ∀ b o, b ≠ d → h1.get? b = some o → h2.get? b = some o) (hd : h2.get? d = some o) :
    Inv S fr (g2.put d k) σ h2 ∧ Ext No g (g2.put d k) h0 h2 ∧ Up g2 (g2.put d k) h1 h2 := by
  have ne : ∀ b, g2.κ b ≠ .ot → b ≠ d := fun b q z => q (z ▸ k2)
  have hk : ∀ b, b ≠ d → (g2.put d k).κ b = g2.κ b := fun b e => if_neg e
  have n0 : ∀ b o, h0.get? b = some o → b ≠ d := fun b o e z => by rw [z, hn] at e; cases e
  have U : Up g2 (g2.put d k) h1 h2 := ⟨Nat.le_refl _, fun _ _ => rfl, fun b o q e => ⟨(hk b (ne b (by rw [q]; decide))).trans q, kp b o (ne b (by rw [q]; decide)) e⟩⟩
  refine ⟨⟨fun b o e => kp b o (ne b (by rw [I.bfz b o e]; decide)) (I.stays b o e), fun b o e => (hk b (ne b (by rw [I.bfz b o e]; decide))).trans (I.bfz b o e), fun b e => ?_, I.num, fun i o e => ?_, fun i hi => ?_, I.inj, ?_, I.tb.mono U.fz ((hk _ (ne _ (by rw [I.tb.k]; decide))).trans I.tb.k) fun o q => kp _ o (ne _ (by rw [I.tb.k]; decide)) q⟩, ?_, U⟩
  · by_cases z : b = d
    · rw [z, hd] at e; cases e
    · refine (hk b z).trans (I.ot b ?_)
      cases y : h1.get? b with
      | none => rfl
      | some o => rw [kp b o z y] at e; cases e
  · have q := I.km i (I.lt e)
    exact (I.mu i o e).mono_at U fun ob y => kp _ ob (ne _ (by rw [q]; decide)) y
  · have q := I.km i hi
    exact (hk _ (ne _ (by rw [q]; decide))).trans q
  · refine ⟨funFrames_mono (fun L m o ho => ⟨o.slots, kp L o (ne L (by rw [I.fr.2 L m]; decide)) ho⟩) I.fr.1, fun L m => (hk L (ne L (by rw [I.fr.2 L m]; decide))).trans (I.fr.2 L m)⟩
  · refine ⟨fun b o e => (hk b (n0 b o e)).trans (E.kind b o e), E.num, E.addr, fun b o q e => ⟨(hk b (n0 b o e)).trans (E.fz b o q e).1, kp b o (n0 b o e) (E.fz b o q e).2⟩, fun b o e z p q r t => kp b o (n0 b o e) (E.keep b o e z p q r t), fun b o e z q => ?_, fun b o vs e z q y => ?_, fun b o e => ?_⟩
    · obtain ⟨sl, y⟩ := E.frs b o e z q; exact ⟨sl, kp b _ (n0 b o e) y⟩
    · obtain ⟨ws, y⟩ := E.exs b o vs e z q y; exact ⟨ws, kp b _ (n0 b o e) y⟩
    · obtain ⟨o', y⟩ := E.still b o e; exact ⟨o', kp b _ (n0 b o e) y⟩
theorem Inv.sealMu {d : Addr} {o : O} (E : Ext No g g2 h0 h1) (I : Inv S fr g2 σ h1) (hn : h0.get? d = none) (k2 : g2.κ d = .ot) (hd1 : ∃ o, h1.get? d = some o) (kp : ∀ b o, b ≠ d → h1.get? b = some o → h2.get? b = some o) (ha : Up g2 (g2.mu d) h1 h2 → MO S h2 (g2.mu d) d o) :
    Inv S fr (g2.mu d) (σ ++ [o]) h2 ∧ Ext No g (g2.mu d) h0 h2 := by
  have ne : ∀ b, g2.κ b ≠ .ot → b ≠ d := fun b q z => q (z ▸ k2)
  have hk : ∀ b, b ≠ d → (g2.mu d).κ b = g2.κ b := fun b e => if_neg e
  have hμ : ∀ i, i < g2.n → (g2.mu d).μ i = g2.μ i := fun i hi => if_neg (Nat.ne_of_lt hi)
  have n0 : ∀ b o, h0.get? b = some o → b ≠ d := fun b o e z => by rw [z, hn] at e; cases e
  have U : Up g2 (g2.mu d) h1 h2 := ⟨Nat.le_succ _, hμ, fun b o q e => ⟨(hk b (ne b (by rw [q]; decide))).trans q, kp b o (ne b (by rw [q]; decide)) e⟩⟩
  have hM := ha U
  obtain ⟨od, hd⟩ := hM.at
  have hself : (g2.mu d).μ g2.n = d := if_pos rfl
  have old : ∀ i, i < g2.n → g2.μ i ≠ d := fun i hi => ne _ (by rw [I.km i hi]; decide)
  refine ⟨⟨fun b o e => kp b o (ne b (by rw [I.bfz b o e]; decide)) (I.stays b o e), fun b o e => (hk b (ne b (by rw [I.bfz b o e]; decide))).trans (I.bfz b o e), fun b e => ?_, by simp [I.num], fun i o e => ?_, fun i hi => ?_, fun i j hi hj e => ?_, ?_, I.tb.mono U.fz ((hk _ (ne _ (by rw [I.tb.k]; decide))).trans I.tb.k) fun o q => kp _ o (ne _ (by rw [I.tb.k]; decide)) q⟩, ?_⟩
  · by_cases z : b = d
    · rw [z, hd] at e; cases e
    · refine (hk b z).trans (I.ot b ?_)
      cases y : h1.get? b with
      | none => rfl
      | some o => rw [kp b o z y] at e; cases e
  · by_cases hi : i < σ.length
    · rw [List.getElem?_append_left hi] at e
      rw [hμ i (I.num ▸ hi)]
      exact (I.mu i o e).mono_at U fun ob q => kp _ ob (old i (I.num ▸ hi)) q
    · rw [List.getElem?_append_right (Nat.le_of_not_lt hi)] at e
      obtain ⟨q1, q2⟩ := List.getElem?_eq_some_iff.mp e
      have : i = σ.length := by simp at q1; omega
      subst this
      simp at q2; subst q2
      rw [I.num, hself]; exact hM
  · by_cases z : i = g2.n
    · subst z; rw [hself]; exact if_pos rfl
    · have hi' : i < g2.n := Nat.lt_of_le_of_ne (Nat.le_of_lt_succ hi) z
      rw [hμ i hi']
      exact (if_neg (old i hi')).trans (I.km i hi')
  · by_cases z : i = g2.n <;> by_cases y : j = g2.n
    · rw [z, y]
    · have hj' : j < g2.n := Nat.lt_of_le_of_ne (Nat.le_of_lt_succ hj) y
      subst z; rw [hself, hμ j hj'] at e; exact absurd e.symm (old j hj')
    · have hi' : i < g2.n := Nat.lt_of_le_of_ne (Nat.le_of_lt_succ hi) z
      subst y; rw [hself, hμ i hi'] at e; exact absurd e (old i hi')
    · have hi' : i < g2.n := Nat.lt_of_le_of_ne (Nat.le_of_lt_succ hi) z
      have hj' : j < g2.n := Nat.lt_of_le_of_ne (Nat.le_of_lt_succ hj) y
      rw [hμ i hi', hμ j hj'] at e; exact I.inj i j hi' hj' e
  · refine ⟨funFrames_mono (fun L m o ho => ⟨o.slots, kp L o (ne L (by rw [I.fr.2 L m]; decide)) ho⟩) I.fr.1, fun L m => (hk L (ne L (by rw [I.fr.2 L m]; decide))).trans (I.fr.2 L m)⟩
  · refine ⟨fun b o e => (hk b (n0 b o e)).trans (E.kind b o e), Nat.le_succ_of_le E.num, fun i hi => (hμ i (Nat.lt_of_lt_of_le hi E.num)).trans (E.addr i hi), fun b o q e => ⟨(hk b (n0 b o e)).trans (E.fz b o q e).1, kp b o (n0 b o e) (E.fz b o q e).2⟩, fun b o e z p q r t => kp b o (n0 b o e) (E.keep b o e z p q r t), fun b o e z q => ?_, fun b o vs e z q y => ?_, fun b o e => ?_⟩
    · obtain ⟨sl, y⟩ := E.frs b o e z q; exact ⟨sl, kp b _ (n0 b o e) y⟩
    · obtain ⟨ws, y⟩ := E.exs b o vs e z q y; exact ⟨ws, kp b _ (n0 b o e) y⟩
    · obtain ⟨o', y⟩ := E.still b o e; exact ⟨o', kp b _ (n0 b o e) y⟩
end

section
variable (S : Sta) (fr : List Env) (X : Addr → Prop)
/-- what a step may promise: a result as the machine has it -/
inductive Ok {α β : Type} (R : Heap → Gh → α → β → Prop) (g : Gh) (s : Shared) (K : β → Hp → Prop) (a : α) (s' : Shared) : Prop
  | mk (b : β) (σ' : Hp) (g' : Gh) (k : K b σ') (e : Ext X g g' s.heap s'.heap) (i : Inv S fr g' σ' s'.heap) (r : R s'.heap g' a b) (z : Rest s s')
end
section
variable {S : Sta} {fr : List Env} {X : Addr → Prop} {α β : Type} {R : Heap → Gh → α → β → Prop}
theorem Ok.trans {g g1 : Gh} {s s1 : Shared} {K : β → Hp → Prop} (x : Ext X g g1 s.heap s1.heap) (r : Rest s s1) {a : α} {s2 : Shared} : Ok S fr X R g1 s1 K a s2 → Ok S fr X R g s K a s2 := by
  rintro ⟨b, σ', g', k, e, i, q, z⟩
  exact ⟨b, σ', g', k, x.trans e, i, q, r.trans z⟩
theorem Ok.mono {g : Gh} {s : Shared} {K K' : β → Hp → Prop} (k : ∀ b σ, K b σ → K' b σ) {a : α} {s2 : Shared} : Ok S fr X R g s K a s2 → Ok S fr X R g s K' a s2 := by
  rintro ⟨b, σ', g', q, e, i, y, z⟩
  exact ⟨b, σ', g', k _ _ q, e, i, y, z⟩
theorem Ok.here {g g' : Gh} {s s' : Shared} {σ' : Hp} {K : β → Hp → Prop} {b : β} {a : α} (k : K b σ') (p : Inv S fr g' σ' s'.heap ∧ Ext X g g' s.heap s'.heap) (r : R s'.heap g' a b) (z : Rest s s') : Ok S fr X R g s K a s' := ⟨b, σ', g', k, p.2, p.1, r, z⟩
end

/-! EXCEPTIONS: an object that flies, and what the frames do to it. -/
noncomputable def Tb (h : Heap) (g : Gh) (ea : Addr) (vs : Array Value) : Prop := ∃ T oT ts, vs[1]? = some (.ref T) ∧ T ≠ ea ∧ h.get? T = some oT ∧ oT.data = .fields ts ∧ 3 < ts.size ∧ g.κ T = .ex
structure ExcAt (S : Sta) (h : Heap) (g : Gh) (ea : Addr) (e : Exc) (tr : Bool) : Prop where
  kd : g.κ ea = .ex
  obj : ∃ oe vs dx mp, h.get? ea = some oe ∧ oe.cls = .ref (S.ec e.lim) ∧ oe.dict = some dx ∧ oe.data = .fields vs ∧ 1 < vs.size ∧ g.κ dx = .fz ∧ h.Ns dx mp ∧
    (∃ v, mp (Str.ofString "what") = some v ∧ PV S.w.params h g.κ v (.str e.what)) ∧ (e.lim = false → ∃ v, mp (Str.ofString "spot") = some v ∧ PV S.w.params h g.κ v e.spot) ∧
    ((tr = false ∧ vs[1]? = some .none) ∨ (tr = true ∧ Tb h g ea vs))

theorem ns_of {h h' : Heap} {a : Addr} {mp : Str → Option Value} (k : ∀ o, h.get? a = some o → h'.get? a = some o) (x : h.Ns a mp) : h'.Ns a mp := by
  obtain ⟨o, es, ep, e, r⟩ := x
  exact ⟨o, es, ep, k o e, r⟩
theorem ns_slots {h h' : Heap} {a : Addr} {mp : Str → Option Value} (k : ∀ o, h.get? a = some o → ∃ sl, h'.get? a = some { o with slots := sl }) (x : h.Ns a mp) : h'.Ns a mp := by
  obtain ⟨o, es, ep, e, r⟩ := x
  obtain ⟨sl, q⟩ := k o e
  exact ⟨_, es, ep, q, r⟩

section
variable {S : Sta} {fr : List Env} {g : Gh} {σ : Hp} {h h' : Heap} {X : Addr → Prop}
theorem Inv.gen (I : Inv S fr g σ h) (E : Ext No g g h h') (k : ∀ b o, g.κ b = .mu → h.get? b = some o → h'.get? b = some o) (k' : ∀ b o, g.κ b = .tb → h.get? b = some o → h'.get? b = some o) (hs : ∀ b o, h'.get? b = some o → (∃ o', h.get? b = some o') ∨ g.κ b = .ot ∨ True) : Inv S fr g σ h' ∧ Ext No g g h h' :=
  ⟨⟨fun b o e => (E.fz b o (I.bfz b o e) (I.stays b o e)).2, I.bfz, fun b e => I.ot b (by
    cases z : h.get? b with
    | none => rfl
    | some o => obtain ⟨o', y⟩ := E.still b o z; rw [y] at e; cases e), I.num, fun i o e => (I.mu i o e).mono_at E.up fun ob q => k _ _ (I.km i (I.lt e)) q, I.km, I.inj, I.fr.mono E, I.tb.mono E.fz I.tb.k fun o q => k' _ o I.tb.k q⟩, E⟩
/-- the frames' own notes -/
theorem Inv.slots (I : Inv S fr g σ h) (x : Heap.SlotsOnly (fr.filterMap (·.frame)) h h') : Inv S fr g σ h' ∧ Ext No g g h h' := by
  have kf : ∀ b, g.κ b ≠ .fr → h'.get? b = h.get? b := fun b q => x.2.1 b fun m => q (I.fr.2 b m)
  refine I.gen ⟨fun _ _ _ => rfl, Nat.le_refl _, fun _ _ => rfl, fun b o q e => ⟨q, (kf b (by rw [q]; decide)).trans e⟩, fun b o e _ _ q _ _ => (kf b q).trans e, fun b o e _ _ => x.2.2 b o e, fun b o vs e _ q y => ⟨vs, y ▸ (kf b (by rw [q]; decide)).trans e⟩, fun b o e => ?_⟩ (fun b o q e => (kf b (by rw [q]; decide)).trans e) (fun b o q e => (kf b (by rw [q]; decide)).trans e) fun _ _ _ => .inr (.inr trivial)
  obtain ⟨sl, q⟩ := x.2.2 b o e
  exact ⟨_, q⟩
/-- an exception's fields change -/
theorem Inv.upEx (I : Inv S fr g σ h) {a : Addr} {o : Obj} {dt : Array Value} (hk : g.κ a = .ex) (ho : h.get? a = some o) (kp : ∀ b, b ≠ a → h'.get? b = h.get? b) (ha : h'.get? a = some { o with data := .fields dt }) : Inv S fr g σ h' ∧ Ext No g g h h' := by
  have kf : ∀ b, g.κ b ≠ .ex → h'.get? b = h.get? b := fun b q => kp b fun m => q (m ▸ hk)
  refine I.gen ⟨fun _ _ _ => rfl, Nat.le_refl _, fun _ _ => rfl, fun b o q e => ⟨q, (kf b (by rw [q]; decide)).trans e⟩, fun b o e _ _ _ q _ => (kf b q).trans e, fun b o e _ q => ⟨o.slots, (kf b (by rw [q]; decide)).trans e⟩, fun b o' vs e _ q y => ?_, fun b o' e => ?_⟩ (fun b o q e => (kf b (by rw [q]; decide)).trans e) (fun b o q e => (kf b (by rw [q]; decide)).trans e) fun _ _ _ => .inr (.inr trivial)
  · by_cases z : b = a
    · obtain rfl := z.symm; rw [ho] at e; cases e; exact ⟨_, ha⟩
    · exact ⟨vs, y ▸ (kp b z).trans e⟩
  · by_cases z : b = a
    · obtain rfl := z.symm; exact ⟨_, ha⟩
    · exact ⟨o', (kp b z).trans e⟩
theorem mapFields_eq {o : Obj} {vs : Array Value} (hd : o.data = .fields vs) (f : Array Value → Array Value) : o.mapFields f = { o with data := .fields (f vs) } := by
  obtain ⟨c, d, dt, sl⟩ := o
  subst hd; rfl
theorem Inv.setField (I : Inv S fr g σ h) {a : Addr} {o : Obj} {vs : Array Value} (hk : g.κ a = .ex) (ho : h.get? a = some o) (hd : o.data = .fields vs) (f : Array Value → Array Value) :
    (h.update a (Obj.mapFields f)).get? a = some { o with data := .fields (f vs) } ∧ (∀ b, b ≠ a → (h.update a (Obj.mapFields f)).get? b = h.get? b) ∧ Inv S fr g σ (h.update a (Obj.mapFields f)) ∧ Ext No g g h (h.update a (Obj.mapFields f)) := by
  have e1 : (h.update a (Obj.mapFields f)).get? a = some { o with data := .fields (f vs) } := by
    rw [Heap.get?_update_self _ ho (Obj.isFreed_of_fields (Obj.data_mapFields hd _)), mapFields_eq hd]
  have e2 : ∀ b, b ≠ a → (h.update a (Obj.mapFields f)).get? b = h.get? b := fun b q => Heap.get?_update_other _ _ (Ne.symm q)
  exact ⟨e1, e2, I.upEx hk ho e2 e1⟩
end

section
variable {S : Sta} {M : Model} {A : Around} {E : Value → Shared → Prop} {s : Shared} {env ev : Env} {outer : List Env} {L ea : Addr} {g : Gh} {σ : Hp} {e : Exc} {tr : Bool}

theorem wpAny_frameOf' {Q : Value → Shared → Prop} (hfr : A.frames = some (env :: outer)) (hf : env.frame = some L) (hv : ev.frame = some L) (I : Inv S (env :: outer) g σ s.heap)
    (h : ∀ h', Heap.SlotsOnly ((env :: outer).filterMap (·.frame)) s.heap h' → Q (.ref L) { s with heap := h' }) : wpAny M A (PySem.frameOf ev) Q E s := by
  have : PySem.frameOf ev = PySem.frameOf env := by unfold PySem.frameOf; rw [hv, hf]
  rw [this]
  exact wpAny_frameOf_fun hfr I.fr.1 hf h

/-- the traceback's entry is made anew -/
theorem wpAny_entry' {head : Value} {hadNext : Bool} {Q : Unit → Shared → Prop} (hfr : A.frames = some (env :: outer)) (hf : env.frame = some L) (hv : ev.frame = some L) (I : Inv S (env :: outer) g σ s.heap) (x : ExcAt S s.heap g ea e tr)
    (h : ∀ g' h', Inv S (env :: outer) g' σ h' → Ext No g g' s.heap h' → ExcAt S h' g' ea e true → Q () { s with heap := h' }) :
    wpAny M A (do let a ← PySem.frameOf ev; let pl ← entryPlaceOf L hadNext; let b ← EntryCells.newEntry head a .none (rawInt L) .none pl; setField (.ref ea) 1 b) Q E s := by
  obtain ⟨kd, oe, vs, dx, mp, h1, h2, h3, h4, h5, h6, h7, ⟨v1, h8, h9⟩, h10, h11⟩ := x
  refine wpAny_bind (wpAny_frameOf' hfr hf hv I fun h₁ hs₁ => ?_)
  obtain ⟨I₁, E₁⟩ := I.slots hs₁
  refine wpAny_bind (wpAny_entryPlaceOf fun pl hpl => ?_)
  unfold EntryCells.newEntry newFields
  refine wpAny_bind (wpAny_newObj_type ?_ (hpl.sizeOk5 _ _ _ _ _))
  have he₁ : h₁.get? ea = some oe := (hs₁.2.1 ea fun m => by have := I.fr.2 ea m; rw [kd] at this; cases this).trans h1
  have hn : h₁.get? h₁.objs.size = none := Heap.get?_none_of_le (Nat.le_refl _)
  obtain ⟨I₂, E₂⟩ := I₁.new (h' := h₁.push { cls := .type "traceback", dict := none, data := .fields ([head, .ref L, .none, rawInt L, .none] ++ (if pl.isEmpty then List.replicate 6 Value.none else pl)).toArray }) (k := .ex) (fun b o q => Heap.get?_push_of_some _ q) hn (Heap.get?_push_size h₁ rfl)
  have he₂ := Heap.get?_push_of_some (h := h₁) { cls := .type "traceback", dict := none, data := .fields ([head, .ref L, .none, rawInt L, .none] ++ (if pl.isEmpty then List.replicate 6 Value.none else pl)).toArray } he₁
  have kd₂ : (g.put h₁.objs.size .ex).κ ea = .ex := (E₂.kind ea oe he₁).trans kd
  obtain ⟨e3, o3, I₃, E₃⟩ := I₂.setField kd₂ he₂ h4 (·.setIfInBounds 1 (Value.ref h₁.objs.size))
  refine wpAny_setField he₂ h4 h5 (h _ _ I₃ ((E₁.trans E₂).trans E₃) ?_)
  have EE := (E₁.trans E₂).trans E₃
  have hTe : h₁.objs.size ≠ ea := Nat.ne_of_gt (Heap.lt_size he₁)
  have dxN : ∀ o, s.heap.get? dx = some o → _ := fun o q => (EE.fz dx o h6 q).2
  have dxs : ∃ o, s.heap.get? dx = some o := let ⟨o, _, _, q, _⟩ := h7; ⟨o, q⟩
  refine ⟨kd₂, _, _, dx, mp, e3, h2, h3, rfl, by simpa using h5, (EE.fz dx _ h6 dxs.choose_spec).1, ns_of dxN h7, ⟨v1, h8, h9.mono EE.fz⟩, fun q => ?_, .inr ⟨rfl, h₁.objs.size, _, _, by simp [h5], hTe, (o3 _ hTe).trans (Heap.get?_push_size h₁ rfl), rfl, by simp only [List.size_toArray, List.length_append, List.length_cons, List.length_nil]; omega, if_pos rfl⟩⟩
  obtain ⟨v, q1, q2⟩ := h10 q
  exact ⟨v, q1, q2.mono EE.fz⟩

theorem wpAny_note {Q : Unit → Shared → Prop} (hfr : A.frames = some (env :: outer)) (hf : env.frame = some L) (hv : ev.frame = some L) (I : Inv S (env :: outer) g σ s.heap) (x : ExcAt S s.heap g ea e tr)
    (h : ∀ g' h', Inv S (env :: outer) g' σ h' → Ext No g g' s.heap h' → ExcAt S h' g' ea e true → Q () { s with heap := h' }) : wpAny M A (noteFrame (.ref ea) ev) Q E s := by
  have x₀ := x
  obtain ⟨kd, oe, vs, dx, mp, h1, h2, h3, h4, h5, h6, h7, ⟨v1, h8, h9⟩, h10, h11⟩ := x
  unfold noteFrame
  simp only [hv]
  rcases h11 with ⟨_, q1⟩ | ⟨hx, T, oT, ts, q1, q2, q3, q4, q5, q6⟩
  · refine wpAny_bind (wpAny_field h1 h4 q1 ?_)
    rw [if_neg (by decide)]
    exact wpAny_entry' hfr hf hv I x₀ h
  · refine wpAny_bind (wpAny_field h1 h4 q1 ?_)
    rw [if_pos (show (Value.ref T != Value.none) = true from by simp)]
    refine wpAny_bind (wpAny_field q3 q4 (Array.getElem?_eq_getElem q5) ?_)
    split
    · subst hx; exact wpAny_pure (h g s.heap I (Ext.refl _ _ _) x₀)
    · obtain ⟨e3, o3, I₃, E₃⟩ := I.setField q6 q3 q4 (·.setIfInBounds 3 Value.none)
      refine wpAny_bind (wpAny_setField q3 q4 q5 ?_)
      have hd : ∀ o, s.heap.get? dx = some o → _ := fun o q => (E₃.fz dx o h6 q).2
      refine wpAny_entry' hfr hf hv I₃ (tr := true) ⟨kd, oe, vs, dx, mp, (o3 _ (Ne.symm q2)).trans h1, h2, h3, h4, h5, h6, ns_of hd h7, ⟨v1, h8, h9.mono E₃.fz⟩, fun q => ?_, .inr ⟨rfl, T, _, _, q1, q2, e3, rfl, by simpa using q5, q6⟩⟩ fun g' h' a b c => h g' h' a (E₃.trans b) c
      obtain ⟨v, y1, y2⟩ := h10 q
      exact ⟨v, y1, y2.mono E₃.fz⟩
/-- in flight, or no more -/
theorem wpAny_flight {fl : Option Addr} {fr : List Env} {Q : Unit → Shared → Prop} (I : Inv S fr g σ s.heap) (x : ExcAt S s.heap g ea e tr)
    (h : ∀ h', Inv S fr g σ h' → Ext No g g s.heap h' → ExcAt S h' g ea e tr → Q () { s with heap := h' }) : wpAny M A (setFlight (.ref ea) fl) Q E s := by
  have x₀ := x
  obtain ⟨kd, oe, vs, dx, mp, h1, h2, h3, h4, h5, h6, h7, ⟨v1, h8, h9⟩, h10, h11⟩ := x
  unfold setFlight
  rcases h11 with ⟨_, q1⟩ | ⟨hx, T, oT, ts, q1, q2, q3, q4, q5, q6⟩
  · refine wpAny_bind (wpAny_field h1 h4 q1 ?_)
    rw [if_neg (by decide)]
    exact wpAny_pure (h _ I (Ext.refl _ _ _) x₀)
  · refine wpAny_bind (wpAny_field h1 h4 q1 ?_)
    rw [if_pos (show (Value.ref T != Value.none) = true from by simp)]
    obtain ⟨e3, o3, I₃, E₃⟩ := I.setField q6 q3 q4 (·.setIfInBounds 3 (fl.elim Value.none fun f => rawInt f))
    refine wpAny_setField q3 q4 q5 (h _ I₃ E₃ ?_)
    have hd : ∀ o, s.heap.get? dx = some o → _ := fun o q => (E₃.fz dx o h6 q).2
    refine ⟨kd, oe, vs, dx, mp, (o3 _ (Ne.symm q2)).trans h1, h2, h3, h4, h5, h6, ns_of hd h7, ⟨v1, h8, h9.mono E₃.fz⟩, fun q => ?_, .inr ⟨hx, T, _, _, q1, q2, e3, rfl, by simpa using q5, q6⟩⟩
    obtain ⟨v, y1, y2⟩ := h10 q
    exact ⟨v, y1, y2.mono E₃.fz⟩
theorem wpAny_leave {Q : Unit → Shared → Prop} (hfr : A.frames = some (env :: outer)) (hf : env.frame = some L) (I : Inv S (env :: outer) g σ s.heap) (x : ExcAt S s.heap g ea e tr)
    (h : ∀ g' h', Inv S (env :: outer) g' σ h' → Ext No g g' s.heap h' → ExcAt S h' g' ea e true → Q () { s with heap := h' }) : wpAny M A (leaving env (.ref ea)) Q E s := by
  unfold leaving
  refine wpAny_bind (wpAny_note hfr hf hf I x fun g' h' I' E' x' => ?_)
  exact wpAny_flight I' x' fun h'' I'' E'' x'' => h g' h'' I'' (E'.trans E'') x''
theorem wpAny_passOn {α : Type} {what : String} {fr : List Env} {Q : α → Shared → Prop} (I : Inv S fr g σ s.heap) (x : ExcAt S s.heap g ea e true)
    (h : ∀ h', Inv S fr g σ h' → Ext No g g s.heap h' → ExcAt S h' g ea e true → E (.ref ea) { s with heap := h' }) : wpAny M A (PySem.passOn what (.ref ea) ev : Sem α) Q E s := by
  have x₀ := x
  obtain ⟨kd, oe, vs, dx, mp, h1, h2, h3, h4, h5, h6, h7, ⟨v1, h8, h9⟩, h10, h11⟩ := x
  rcases h11 with ⟨q, _⟩ | ⟨hx, T, oT, ts, q1, q2, q3, q4, q5, q6⟩
  · cases q
  · unfold PySem.passOn
    refine wpAny_bind (wpAny_field h1 h4 q1 ?_)
    rw [if_neg (show ¬ ((Value.ref T == Value.none) = true) from by simp)]
    first
      | exact wpAny_bind (wpAny_flight I x₀ fun h' a b c => wpAny_throw (h h' a b c))
      | exact wpAny_bind (wpAny_pure (wpAny_bind (wpAny_flight I x₀ fun h' a b c => wpAny_throw (h h' a b c))))
end
end Mine
namespace Mine
open PySem PySem.W PyProof.Rows PySem.Calls
theorem eq_evX_0 {G : CallS} {gc : Nat → PyData} {m mc : Fm} {K : KV} {d} {u0} {σ : Hp} (hh : evX G gc m mc (.c d) σ K u0) : K (.pd d) σ := hh
theorem eq_evX_1 {G : CallS} {gc : Nat → PyData} {m mc : Fm} {K : KV} {i} {u0} {σ : Hp} (hh : evX G gc m mc (.g i) σ K u0) : K (.pd (gc i)) σ := hh
theorem eq_evX_2 {G : CallS} {gc : Nat → PyData} {m mc : Fm} {K : KV} {i} {u0} {σ : Hp} (hh : evX G gc m mc (.v i) σ K u0) : need (locV m i) fun x => K x σ := hh
theorem eq_evX_3 {G : CallS} {gc : Nat → PyData} {m mc : Fm} {K : KV} {i} {u0} {σ : Hp} (hh : evX G gc m mc (.w i) σ K u0) : need (locV mc i) fun x => K x σ := hh
theorem eq_evX_4 {G : CallS} {gc : Nat → PyData} {m mc : Fm} {K : KV} {n} {u0} {σ : Hp} (hh : evX G gc m mc (.ty n) σ K u0) : K (.ty n) σ := hh
theorem eq_evX_5 {G : CallS} {gc : Nat → PyData} {m mc : Fm} {E : KE} {K : KV} {l} {σ : Hp} (hh : evX G gc m mc (.tup l) σ K E) : evXs G gc m mc l σ (fun vs σ' => need (allPd vs) fun ds => when (ds.length ≤ sizeLine) (K (.pd (.tuple ds)) σ')) E := hh
theorem eq_evX_6 {G : CallS} {gc : Nat → PyData} {m mc : Fm} {E : KE} {K : KV} {b} {l} {σ : Hp} (hh : evX G gc m mc (.lst b l) σ K E) : evXs G gc m mc l σ (fun vs σ' => need (allPd vs) fun ds => made b ds σ' K) E := hh
theorem eq_evX_7 {G : CallS} {gc : Nat → PyData} {m mc : Fm} {E : KE} {K : KV} {b} {l} {σ : Hp} (hh : evX G gc m mc (.dct b l) σ K E) : evKs G gc m mc l σ (fun kvs σ' => when (nodupK (kvs.map (·.1)) = true) (brn b (K (.ref σ'.length) (σ' ++ [.dict kvs])) (need (kvPd kvs) fun ds => K (.pd (.dict ds)) σ'))) E := hh
theorem eq_evX_8 {G : CallS} {gc : Nat → PyData} {m mc : Fm} {E : KE} {K : KV} {a} {b} {o} {σ : Hp} (hh : evX G gc m mc (.op o a b) σ K E) : evX G gc m mc a σ (fun x σ1 => evX G gc m mc b σ1 (fun y σ2 => kd (evOp o x y σ2) K σ2) E) E := hh
theorem eq_evX_9 {G : CallS} {gc : Nat → PyData} {m mc : Fm} {E : KE} {K : KV} {a} {σ : Hp} (hh : evX G gc m mc (.neg a) σ K E) : evX G gc m mc a σ (fun x σ1 => need (intV x) fun i => K (.pd (.int (-i))) σ1) E := hh
theorem eq_evX_10 {G : CallS} {gc : Nat → PyData} {m mc : Fm} {E : KE} {K : KV} {a} {σ : Hp} (hh : evX G gc m mc (.not a) σ K E) : evX G gc m mc a σ (fun x σ1 => truth x fun b => K (.pd (.bool (!b))) σ1) E := hh
theorem eq_evX_11 {G : CallS} {gc : Nat → PyData} {m mc : Fm} {E : KE} {K : KV} {a} {b} {σ : Hp} (hh : evX G gc m mc (.and a b) σ K E) : evX G gc m mc a σ (fun x σ1 => truth x fun t => brn t (evX G gc m mc b σ1 K E) (K x σ1)) E := hh
theorem eq_evX_12 {G : CallS} {gc : Nat → PyData} {m mc : Fm} {E : KE} {K : KV} {a} {b} {σ : Hp} (hh : evX G gc m mc (.or a b) σ K E) : evX G gc m mc a σ (fun x σ1 => truth x fun t => brn t (K x σ1) (evX G gc m mc b σ1 K E)) E := hh
theorem eq_evX_14 {G : CallS} {gc : Nat → PyData} {m mc : Fm} {E : KE} {K : KV} {a} {b} {t} {σ : Hp} (hh : evX G gc m mc (.ite t a b) σ K E) : evX G gc m mc t σ (fun x σ1 => truth x fun r => brn r (evX G gc m mc a σ1 K E) (evX G gc m mc b σ1 K E)) E := hh
theorem eq_evX_15 {G : CallS} {gc : Nat → PyData} {m mc : Fm} {E : KE} {K : KV} {a} {i} {σ : Hp} (hh : evX G gc m mc (.sub a i) σ K E) : evX G gc m mc a σ (fun x σ1 => evX G gc m mc i σ1 (fun y σ2 => need (evSub σ2 x y) fun z => K z σ2) E) E := hh
theorem eq_evX_16 {G : CallS} {gc : Nat → PyData} {m mc : Fm} {E : KE} {K : KV} {a} {hi} {lo} {σ : Hp} (hh : evX G gc m mc (.slice a lo hi) σ K E) : evX G gc m mc a σ (fun x σ1 => kd (evCut σ1 x lo hi) K σ1) E := hh
theorem eq_evX_18 {G : CallS} {gc : Nat → PyData} {m mc : Fm} {E : KE} {K : KV} {a} {σ : Hp} (hh : evX G gc m mc (.scope a) σ K E) : evX G gc m mc a σ (fun x σ1 => need (evrV x) fun s => K s σ1) E := hh
theorem eq_evX_19 {G : CallS} {gc : Nat → PyData} {m mc : Fm} {K : KV} {b} {i} {u0} {σ : Hp} (hh : evX G gc m mc (.fault i b) σ K u0) : need (locA fltL m i) fun e => when ((!b || !e.lim) = true) (K (.pd (if b then e.spot else .str e.what)) σ) := hh
theorem eq_evX_20 {G : CallS} {gc : Nat → PyData} {m mc : Fm} {E : KE} {K : KV} {f} {l} {σ : Hp} (hh : evX G gc m mc (.call f l) σ K E) : evAs G gc m mc l σ (fun as σ' => G f as σ' K E) E := hh
theorem eq_evX_21 {G : CallS} {gc : Nat → PyData} {m mc : Fm} {u0} {u1} {u2} {u3} {u4} (hh : evX G gc m mc (.lam u0 u1) u2 u3 u4) : False := hh
theorem eq_evX_22 {G : CallS} {gc : Nat → PyData} {m mc : Fm} {E : KE} {K : KV} {i} {σ : Hp} (hh : evX G gc m mc (.lcall i) σ K E) : need (locA lamL m i) fun p => G 0 [.lam p.1 p.2] σ K E := hh
theorem eq_evX_23 {G : CallS} {gc : Nat → PyData} {m mc : Fm} {E : KE} {K : KV} {f} {l} {o} {σ : Hp} (hh : evX G gc m mc (.meth f o l) σ K E) : evX G gc m mc o σ (fun x σ1 => need (evrV x) fun s => evXs G gc m mc l σ1 (fun vs σ' => G f (.v (.evr s) :: vs.map .v) σ' K E) E) E := hh
theorem eq_evX_24 {G : CallS} {gc : Nat → PyData} {m mc : Fm} {E : KE} {K : KV} {a} {σ : Hp} (hh : evX G gc m mc (.new a) σ K E) : evX G gc m mc a σ (fun x σ1 => need (newV x) fun d => K (.evr d) σ1) E := hh
theorem eq_evX_25 {G : CallS} {gc : Nat → PyData} {m mc : Fm} {E : KE} {K : KV} {l} {p} {σ : Hp} (hh : evX G gc m mc (.prim p l) σ K E) : evXs G gc m mc l σ (fun vs σ' => evPrim p vs σ' K) E := hh
theorem eq_evX_26 {G : CallS} {gc : Nat → PyData} {m mc : Fm} {E : KE} {K : KV} {l} {o} {q} {σ : Hp} (hh : evX G gc m mc (.lm q o l) σ K E) : evX G gc m mc o σ (fun x σ1 => when ((lstR σ1 x).isSome = true) (evXs G gc m mc l σ1 (fun vs σ' => evLM q x vs σ' K) E)) E := hh
theorem eq_evX_27 {G : CallS} {gc : Nat → PyData} {m mc : Fm} {E : KE} {K : KV} {l} {σ : Hp} (hh : evX G gc m mc (.fstr l) σ K E) : evFs G gc m mc l Str.empty σ (fun x σ' => K (.pd (.str x)) σ') E := hh
theorem eq_evX_28 {G : CallS} {gc : Nat → PyData} {m mc : Fm} {E : KE} {K : KV} {b} {c} {e} {it} {t} {σ : Hp} (hh : evX G gc m mc (.comp b e t it c) σ K E) : evX G gc m mc it σ (fun x σ1 => need (itemsOf σ1 x) fun l =>
      compN (fun d σ2 k => need (tgFm mc0 t d) fun mc' => evC G gc m mc' c σ2 (fun r σ3 => brn r (evX G gc m mc' e σ3 (fun v σ4 => need (pdV v) fun d' => k [d'] σ4) E) (k [] σ3)) E)
        (fun σ' k => still σ1 σ' x k) (fun ds σ' => made b ds σ' K) l [] σ1) E := hh
theorem eq_evXs_0 {G : CallS} {gc : Nat → PyData} {m mc : Fm} {K} {u0} {σ : Hp} (hh : evXs G gc m mc [] σ K u0) : K [] σ := hh
theorem eq_evXs_1 {G : CallS} {gc : Nat → PyData} {m mc : Fm} {E : KE} {K} {r} {x} {σ : Hp} (hh : evXs G gc m mc (x :: r) σ K E) : evX G gc m mc x σ (fun v σ1 => evXs G gc m mc r σ1 (fun vs σ2 => K (v :: vs) σ2) E) E := hh
theorem eq_evFs_0 {G : CallS} {gc : Nat → PyData} {m mc : Fm} {K} {acc} {u0} {σ : Hp} (hh : evFs G gc m mc [] acc σ K u0) : whenL (acc.length ≤ sizeLine) (K acc σ) := hh
theorem eq_evFs_1 {G : CallS} {gc : Nat → PyData} {m mc : Fm} {E : KE} {K} {acc} {r} {x} {σ : Hp} (hh : evFs G gc m mc (x :: r) acc σ K E) : evX G gc m mc x σ (fun v σ1 => need (txt v) fun y => whenL (y.length ≤ sizeLine ∧ (acc ++ y).length ≤ sizeLine) (evFs G gc m mc r (acc ++ y) σ1 K E)) E := hh
theorem eq_evKs_0 {G : CallS} {gc : Nat → PyData} {m mc : Fm} {K} {u0} {σ : Hp} (hh : evKs G gc m mc [] σ K u0) : K [] σ := hh
theorem eq_evKs_1 {G : CallS} {gc : Nat → PyData} {m mc : Fm} {E : KE} {K} {k} {r} {x} {σ : Hp} (hh : evKs G gc m mc ((k, x) :: r) σ K E) : evX G gc m mc x σ (fun v σ1 => evKs G gc m mc r σ1 (fun vs σ2 => K ((k, v) :: vs) σ2) E) E := hh
theorem eq_evAs_0 {G : CallS} {gc : Nat → PyData} {m mc : Fm} {K} {u0} {σ : Hp} (hh : evAs G gc m mc [] σ K u0) : K [] σ := hh
theorem eq_evAs_1 {G : CallS} {gc : Nat → PyData} {m mc : Fm} {E : KE} {K} {b} {r} {vis} {σ : Hp} (hh : evAs G gc m mc (.lam b vis :: r) σ K E) : evAs G gc m mc r σ (fun vs σ2 => K (.lam b (snap vis 0 m) :: vs) σ2) E := hh
theorem eq_evAs_2 {G : CallS} {gc : Nat → PyData} {x : X} {r : List X} {m mc : Fm} {σ : Hp} {K : List Loc → Hp → Prop} {E : KE} (hx : ∀ b v, x ≠ .lam b v) (h : evAs G gc m mc (x :: r) σ K E) : evX G gc m mc x σ (fun v σ1 => evAs G gc m mc r σ1 (fun vs σ2 => K (.v v :: vs) σ2) E) E := by
  cases x <;> first | exact h | exact absurd rfl (hx _ _)
theorem eq_evS_0 {G : CallS} {gc : Nat → PyData} {E : KE} {K : KS} {e} {i} {m : Fm} {σ : Hp} (hh : evS G gc (.asg i e) m σ K E) : evX G gc m [] e σ (fun v σ' => when (i < m.length) (K .next (setAt m i (some (.v v))) σ')) E := hh
theorem eq_evS_1 {G : CallS} {gc : Nat → PyData} {E : KE} {K : KS} {es} {l} {m : Fm} {σ : Hp} (hh : evS G gc (.asgs l es) m σ K E) : evXs G gc m [] es σ (fun vs σ' => need (asgN l vs m) fun m' => K .next m' σ') E := hh
theorem eq_evS_2 {G : CallS} {gc : Nat → PyData} {E : KE} {K : KS} {e} {l} {m : Fm} {σ : Hp} (hh : evS G gc (.unp l e) m σ K E) : evX G gc m [] e σ (fun v σ' => need (rd σ' v) fun d => need (seqItems d) fun ds => need (asgN l (ds.map .pd) m) fun m' => K .next m' σ') E := hh
theorem eq_evS_3 {G : CallS} {gc : Nat → PyData} {E : KE} {K : KS} {e} {k} {m : Fm} {o} {σ : Hp} (hh : evS G gc (.seti o k e) m σ K E) : evX G gc m [] e σ (fun v σ1 => evX G gc m [] o σ1 (fun x σ2 => evX G gc m [] k σ2 (fun y σ3 => need (evSet σ3 x y v) fun σ4 => K .next m σ4) E) E) E := hh
theorem eq_evS_4 {G : CallS} {gc : Nat → PyData} {E : KE} {K : KS} {e} {m : Fm} {σ : Hp} (hh : evS G gc (.ex e) m σ K E) : evX G gc m [] e σ (fun _ σ' => K .next m σ') E := hh
theorem eq_evS_5 {G : CallS} {gc : Nat → PyData} {E : KE} {K : KS} {e} {m : Fm} {σ : Hp} (hh : evS G gc (.ret e) m σ K E) : evX G gc m [] e σ (fun v σ' => K (.ret v) m σ') E := hh
theorem eq_evS_6 {G : CallS} {gc : Nat → PyData} {E : KE} {K : KS} {a} {b} {m : Fm} {t} {σ : Hp} (hh : evS G gc (.ite t a b) m σ K E) : evX G gc m [] t σ (fun v σ' => truth v fun r => brn r (evSs G gc a m σ' K E) (evSs G gc b m σ' K E)) E := hh
theorem eq_evS_7 {G : CallS} {gc : Nat → PyData} {E : KE} {K : KS} {b} {it} {m : Fm} {t} {σ : Hp} (hh : evS G gc (.for t it b) m σ K E) : evX G gc m [] it σ (fun x σ1 => need (itemsOf σ1 x) fun l =>
      forN (fun d m' σ' k => need (tgFm m' t d) fun m'' => evSs G gc b m'' σ' k E) (fun σ' k => still σ1 σ' x k) K l m σ1) E := hh
theorem eq_evS_10 {G : CallS} {gc : Nat → PyData} {u0} {u1} {u2} {u3} (hh : evS G gc (.bad) u0 u1 u2 u3) : False := hh
theorem eq_evS_11 {G : CallS} {gc : Nat → PyData} {E : KE} {l} {lim} {m : Fm} {u0} {σ : Hp} (hh : evS G gc (.raise lim l) m σ u0 E) : evXs G gc m [] l σ (fun vs σ' => need (excOf lim vs) fun e => E e σ') E := hh
theorem eq_evS_12 {G : CallS} {gc : Nat → PyData} {E : KE} {K : KS} {b} {h} {m : Fm} {σ : Hp} (hh : evS G gc (.try b h) m σ K E) : evSs G gc b m σ K (fun e σ' => evH G gc h e m σ' K E) := hh
theorem eq_evSs_0 {G : CallS} {gc : Nat → PyData} {K : KS} {m : Fm} {u0} {σ : Hp} (hh : evSs G gc [] m σ K u0) : K .next m σ := hh
theorem eq_evSs_1 {G : CallS} {gc : Nat → PyData} {E : KE} {K : KS} {m : Fm} {r} {s} {σ : Hp} (hh : evSs G gc (s :: r) m σ K E) : evS G gc s m σ (fun f m' σ' => match f with
      | .next => evSs G gc r m' σ' K E
      | f => K f m' σ') E := hh
theorem eq_evH_0 {G : CallS} {gc : Nat → PyData} {E : KE} {e : Exc} {u0} {u1} {σ : Hp} (hh : evH G gc [] e u0 σ u1 E) : E e σ := hh
theorem eq_evH_1 {G : CallS} {gc : Nat → PyData} {E : KE} {K : KS} {b} {e : Exc} {lim} {m : Fm} {r} {x} {σ : Hp} (hh : evH G gc ((lim, x, b) :: r) e m σ K E) : if lim = e.lim then
      hN x (fun i => when (i < m.length) (evSs G gc b (setAt m i (some (.fault e))) σ (fun f m' σ' => K f (setAt m' i none) σ') (fun _ _ => False))) (evSs G gc b m σ K (fun _ _ => False))
    else evH G gc r e m σ K E := hh
end Mine
namespace Mine
open PySem PySem.W PyProof.Rows PySem.Calls
set_option genSizeOf false
set_option genInjectivity false

/-! WHERE AN EXPRESSION STANDS -/
noncomputable abbrev Sta.at (S : Sta) (fn : Names) (cs : Option Names) (lam : Bool := false) : Cx := { S.cx with fn := fn, cs := cs, lam := lam }
structure StaOk2 (S : Sta) : Prop extends StaOk S where
  cons : ∀ x i, lookT S.cx.cons x = some i → ∃ v, S.mg x = some v ∧ PV S.w.params S.B (fun _ => .fz) v (S.gc i)
  funs : ∀ x f, lookT S.cx.funs x = some f → S.mg x = some (.ref (S.fa f))

inductive Er (S : Sta) (fr : List Env) (X : Addr → Prop) (t : Bool) (g : Gh) (s : Shared) (E : Exc → Hp → Prop) (v : Value) (s' : Shared) : Prop
  | mk (exc : Exc) (σ' : Hp) (g' : Gh) (ea : Addr) (tr : Bool) (e : v = .ref ea) (f : t = true → tr = true) (k : E exc σ') (y : Ext X g g' s.heap s'.heap) (i : Inv S fr g' σ' s'.heap) (q : ExcAt S s'.heap g' ea exc tr) (z : Rest s s')
theorem Er.trans {S : Sta} {fr : List Env} {X : Addr → Prop} {t : Bool} {g g1 : Gh} {s s1 : Shared} {E : Exc → Hp → Prop} (x : Ext X g g1 s.heap s1.heap) (r : Rest s s1) {a : Value} {s2 : Shared} : Er S fr X t g1 s1 E a s2 → Er S fr X t g s E a s2 := by
  rintro ⟨exc, σ', g', ea, tr, e, f, k, y, i, q, z⟩
  exact ⟨exc, σ', g', ea, tr, e, f, k, x.trans y, i, q, r.trans z⟩
/-- a variable's value, as the evaluator finds it -/
noncomputable def NmAt (h : Heap) (g : Gh) (ev : Env) (x : Str) (v : Value) : Prop :=
  (ev.kindOf x = some .local ∧ (g.κ ev.locals = .fr ∨ g.κ ev.locals = .ot) ∧ ∃ mp, h.Ns ev.locals mp ∧ mp x = some v) ∨
  (∃ c, (ev.kindOf x = some .cell ∨ ev.kindOf x = some .free) ∧ ev.cells.lookup x = some c ∧ g.κ c = .cl ∧ h.IsCell c (some v))
theorem NmAt.mono {h h' : Heap} {g g' : Gh} {ev : Env} {x : Str} {v : Value} (E : Ext No g g' h h') (n : NmAt h g ev x v) : NmAt h' g' ev x v := by
  rcases n with ⟨k, kk, mp, ns, e⟩ | ⟨c, k, l, kc, o, ho, hd⟩
  · obtain ⟨ob, es, ep, hb, r⟩ := ns
    have kd := E.kind _ ob hb
    refine .inl ⟨k, by rw [kd]; exact kk, mp, ?_, e⟩
    rcases kk with kk | kk
    · obtain ⟨sl, q⟩ := E.frs _ ob hb id kk
      exact ⟨_, es, ep, q, r⟩
    · exact ⟨ob, es, ep, E.keep _ ob hb id (by rw [kk]; decide) (by rw [kk]; decide) (by rw [kk]; decide) (by rw [kk]; decide), r⟩
  · exact .inr ⟨c, k, l, (E.kind _ o ho).trans kc, o, E.keep _ o ho id (by rw [kc]; decide) (by rw [kc]; decide) (by rw [kc]; decide) (by rw [kc]; decide), hd⟩

noncomputable def FaultAt (S : Sta) (X : Addr → Prop) (h : Heap) (g : Gh) (ea : Addr) (e : Exc) : Prop :=
  g.κ ea = .ex ∧ ¬ X ea ∧ ∃ oe vs dx mp, h.get? ea = some oe ∧ oe.cls = .ref (S.ec e.lim) ∧ oe.dict = some dx ∧ oe.data = .fields vs ∧ g.κ dx = .fz ∧ h.Ns dx mp ∧
    (∃ v, mp (Str.ofString "what") = some v ∧ PV S.w.params h g.κ v (.str e.what)) ∧ (e.lim = false → ∃ v, mp (Str.ofString "spot") = some v ∧ PV S.w.params h g.κ v e.spot)
theorem FaultAt.mono {S : Sta} {X : Addr → Prop} {h h' : Heap} {g g' : Gh} {ea : Addr} {e : Exc} (E : Ext X g g' h h') (x : FaultAt S X h g ea e) : FaultAt S X h' g' ea e := by
  obtain ⟨k, nx, oe, vs, dx, mp, h1, h2, h3, h4, h6, h7, ⟨v1, h8, h9⟩, h10⟩ := x
  obtain ⟨ws, q⟩ := E.exs ea oe vs h1 nx k h4
  obtain ⟨od, es, ep, hb, r⟩ := h7
  refine ⟨(E.kind _ _ h1).trans k, nx, _, ws, dx, mp, q, h2, h3, rfl, (E.fz dx od h6 hb).1, ⟨od, es, ep, (E.fz dx od h6 hb).2, r⟩, ⟨v1, h8, h9.mono E.fz⟩, fun y => ?_⟩
  obtain ⟨v, y1, y2⟩ := h10 y
  exact ⟨v, y1, y2.mono E.fz⟩

/-- a lambda's function object, with what its free names hold -/
inductive LamCode (S : Sta) (h : Heap) (g : Gh) (fd : FuncData) : Prop
  | mk (c : Addr) (oc : Obj) (vs : Array Value) (t : Tok) (e : fd.code = .ref c) (k : g.κ c = .fz) (o : h.get? c = some oc) (d : oc.data = .fields vs) (q : vs[1]? = some (.str fd.qualname t))
structure LamSt (S : Sta) (fd : FuncData) (fn : Names) (e : PySem.Expr) (b : X) : Prop where
  ps : fd.params = ⟨[], [], none, [], [], none, []⟩
  df : fd.defaults = .none
  bd : fd.body = .expr e
  gl : fd.globals = mainGlobals
  bl : fd.builtins = builtinsNs
  kf : fd.scope.kind = .function
  ge : fd.scope.isGenerator = false
  co : fd.scope.isCoroutine = false
  cx : lamX (S.at (lamNames fn fd.scope.names) none) e = some b
  nc : ∀ x ∈ fd.scope.names, x.2 ≠ .cell
inductive FreeAt (S : Sta) (Y : Addr → Prop) (h : Heap) (g : Gh) (fd : FuncData) (x : Str) (l : Option (Option V)) : Prop
  | mk (c : Addr) (o : Obj) (q : fd.closure.lookup x = some c) (k : g.κ c = .cl) (n : ¬ Y c) (e : h.get? c = some o) (v : ∀ y, l = some (some y) → ∃ v, h.IsCell c (some v) ∧ VR S h g v y)
inductive LamAt (S : Sta) (Y : Addr → Prop) (h : Heap) (g : Gh) (f : Addr) (b : X) (m : List (Option V)) : Prop
  | mk (o : Obj) (fd : FuncData) (fn : Names) (e : PySem.Expr) (k : g.κ f = .fz) (eo : h.get? f = some o) (d : o.data = .func fd) (st : LamSt S fd fn e b) (co : LamCode S h g fd) (fr : ∀ x i, idxOf fn x 0 = some i → fd.scope.names.lookup x = some .free → FreeAt S Y h g fd x m[i.1]?)
theorem LamCode.mono {S : Sta} {h h' : Heap} {g g' : Gh} {fd : FuncData} (E : Fz g.κ g'.κ h h') (x : LamCode S h g fd) : LamCode S h' g' fd := by
  obtain ⟨c, oc, vs, t, c1, c2, c3, c4, c5⟩ := x
  exact ⟨c, oc, vs, t, c1, (E _ _ c2 c3).1, (E _ _ c2 c3).2, c4, c5⟩
theorem FreeAt.mono {S : Sta} {Y : Addr → Prop} {h h' : Heap} {g g' : Gh} {fd : FuncData} {x : Str} {l : Option (Option V)} (E : Ext Y g g' h h') (r : FreeAt S Y h g fd x l) : FreeAt S Y h' g' fd x l := by
  obtain ⟨c, o, q1, q2, q3, q4, q5⟩ := r
  have q4' := E.keep _ o q4 q3 (by rw [q2]; decide) (by rw [q2]; decide) (by rw [q2]; decide) (by rw [q2]; decide)
  refine ⟨c, o, q1, (E.kind _ o q4).trans q2, q3, q4', fun y hy => ?_⟩
  obtain ⟨v, ⟨o', z1, z2⟩, z3⟩ := q5 y hy
  rw [q4] at z1; cases z1
  exact ⟨v, ⟨o, q4', z2⟩, z3.mono E.up⟩
theorem LamAt.mono {S : Sta} {Y : Addr → Prop} {h h' : Heap} {g g' : Gh} {f : Addr} {b : X} {m : List (Option V)} (E : Ext Y g g' h h') (x : LamAt S Y h g f b m) : LamAt S Y h' g' f b m := by
  obtain ⟨o, fd, fn, e, h1, h2, h3, st, co, fr⟩ := x
  exact ⟨o, fd, fn, e, (E.fz _ _ h1 h2).1, (E.fz _ _ h1 h2).2, h3, st, co.mono E.fz, fun x i e1 e2 => (fr x i e1 e2).mono E⟩

inductive LR (S : Sta) (Y : Addr → Prop) (h : Heap) (g : Gh) : Value → Loc → Prop
  | v {v : Value} {x : V} : VR S h g v x → LR S Y h g v (.v x)
  | fault {ea : Addr} {e : Exc} : FaultAt S Y h g ea e → LR S Y h g (.ref ea) (.fault e)
  | lam {f : Addr} {b : X} {m : List (Option V)} : LamAt S Y h g f b m → LR S Y h g (.ref f) (.lam b m)
theorem LR.mono {S : Sta} {Y : Addr → Prop} {h h' : Heap} {g g' : Gh} {v : Value} {l : Loc} (E : Ext Y g g' h h') : LR S Y h g v l → LR S Y h' g' v l
  | .v r => .v (r.mono E.up)
  | .fault r => .fault (r.mono E)
  | .lam r => .lam (r.mono E)

structure Rd (S : Sta) (cx : Cx) (ev : Env) (Y : Addr → Prop) (h : Heap) (g : Gh) (m mc : Fm) : Prop where
  v : ∀ x i, nmOf cx x = some (.v i) → ∀ l, m[i]? = some (some l) → ∃ v, NmAt h g ev x v ∧ LR S Y h g v l
  w : ∀ x i, nmOf cx x = some (.w i) → ∀ l, mc[i]? = some (some l) → ∃ v, NmAt h g ev x v ∧ LR S Y h g v l
  c : cx.cs = none → ∀ x i, idxOf cx.fn x 0 = some (i, .cell) → ev.kindOf x = some .cell ∧ ∃ c o, ev.cells.lookup x = some c ∧ g.κ c = .cl ∧ h.get? c = some o
theorem Rd.mono {S : Sta} {cx : Cx} {ev : Env} {Y : Addr → Prop} {h h' : Heap} {g g' : Gh} {m mc : Fm} (E : Ext No g g' h h') (r : Rd S cx ev Y h g m mc) : Rd S cx ev Y h' g' m mc :=
  ⟨fun x i n l e => let ⟨v, a, b⟩ := r.v x i n l e; ⟨v, a.mono E, b.mono E.no⟩, fun x i n l e => let ⟨v, a, b⟩ := r.w x i n l e; ⟨v, a.mono E, b.mono E.no⟩,
   fun hl x i e => let ⟨k, c, o, h1, h2, h3⟩ := r.c hl x i e; ⟨k, c, o, h1, (E.kind _ o h3).trans h2, E.keep _ o h3 id (by rw [h2]; decide) (by rw [h2]; decide) (by rw [h2]; decide) (by rw [h2]; decide)⟩⟩

structure Act (S : Sta) (cx : Cx) (A : Around) (env ev : Env) (outer : List Env) (L : Addr) (nd : Nat) (hd : Bool) : Prop where
  hn : hd = false → A.handled = none
  frames : A.frames = some (env :: outer)
  fL : env.frame = some L
  vL : ev.frame = some L
  guards : A.guards = some []
  depth : A.depth + nd + 10 < recursionLimit
  units : A.units + 16 * nd + 300 < cLine
  kf : ev.scope.kind = .function
  gl : ev.globals = mainGlobals
  bl : ev.builtins = builtinsNs
  gn : ∀ x, nmOf cx x = some .g → ev.kindOf x = some .globalImplicit
  lam : cx.lam = true → ev.code = .ref S.lc ∧ ev.qual ++ "<lambda>" = S.lq

noncomputable abbrev RV (S : Sta) : Heap → Gh → Value → V → Prop := fun h g v d => VR S h g v d
noncomputable abbrev RVs (S : Sta) : Heap → Gh → List Value → List V → Prop := fun h g v d => VRs S h g v d
noncomputable abbrev RB : Heap → Gh → Bool → Bool → Prop := fun _ _ a b => a = b

/-- the evaluator and the machine agree on an expression -/
noncomputable def SndX (S : Sta) (G : CallS) (nd : Nat) (hd : Bool) (cx : Cx) (e : PySem.Expr) (x : X) : Prop :=
  ∀ A env ev outer L Y m mc σ g s K E, Act S cx A env ev outer L nd hd → Inv S (env :: outer) g σ s.heap → Rd S cx ev Y s.heap g m mc → evX G S.gc m mc x σ K E →
    wpAny S.M A (eval e ev) (Ok S (env :: outer) No (RV S) g s K) (Er S (env :: outer) No false g s E) s
noncomputable def SndT (S : Sta) (G : CallS) (nd : Nat) (hd : Bool) (cx : Cx) (e : PySem.Expr) (x : X) : Prop :=
  ∀ A env ev outer L Y m mc σ g s K E, Act S cx A env ev outer L nd hd → Inv S (env :: outer) g σ s.heap → Rd S cx ev Y s.heap g m mc → evX G S.gc m mc x σ (fun v σ' => truth v fun b => K b σ') E →
    wpAny S.M A (isTrue e ev (eval e ev)) (Ok S (env :: outer) No RB g s K) (Er S (env :: outer) No false g s E) s
noncomputable def SndXs (S : Sta) (G : CallS) (nd : Nat) (hd : Bool) (cx : Cx) (es : List PySem.Expr) (xs : List X) : Prop :=
  ∀ A env ev outer L Y m mc σ g s K E pos, Act S cx A env ev outer L nd hd → Inv S (env :: outer) g σ s.heap → Rd S cx ev Y s.heap g m mc → evXs G S.gc m mc xs σ K E →
    wpAny S.M A (spliced (backTo pos (starEach es ev))) (Ok S (env :: outer) No (RVs S) g s K) (Er S (env :: outer) No false g s E) s

section
variable {S : Sta} {fr : List Env} {α β γ δ : Type} {R : Heap → Gh → α → β → Prop} {R' : Heap → Gh → γ → δ → Prop} {A : Around} {g : Gh} {s : Shared} {K : β → Hp → Prop} {K' : δ → Hp → Prop} {E : Exc → Hp → Prop} {t : Sem α} {t' : Sem γ}
/-- one step, and on -/
theorem step {P : α → Shared → Prop} {Ev : Value → Shared → Prop} (h : wpAny S.M A t (Ok S fr No R g s K) Ev s)
    (k : ∀ a b σ1 g1 s1, K b σ1 → Ext No g g1 s.heap s1.heap → Inv S fr g1 σ1 s1.heap → R s1.heap g1 a b → Rest s s1 → P a s1) : wpAny S.M A t P Ev s :=
  wpAny_mono h (fun a s1 ⟨b, σ1, g1, k1, e, i, r, z⟩ => k a b σ1 g1 s1 k1 e i r z) fun _ _ x => x
/-- the rest of it, seen from the start -/
theorem from_ {g1 : Gh} {s1 : Shared} {tr : Bool} (e : Ext No g g1 s.heap s1.heap) (z : Rest s s1) (h : wpAny S.M A t (Ok S fr No R g1 s1 K) (Er S fr No tr g1 s1 E) s1) :
    wpAny S.M A t (Ok S fr No R g s K) (Er S fr No tr g s E) s1 := wpAny_mono h (fun _ _ x => x.trans e z) fun _ _ x => x.trans e z
theorem fromE {g1 : Gh} {s1 : Shared} {tr : Bool} {P : α → Shared → Prop} (e : Ext No g g1 s.heap s1.heap) (z : Rest s s1) (h : wpAny S.M A t P (Er S fr No tr g1 s1 E) s1) :
    wpAny S.M A t P (Er S fr No tr g s E) s1 := wpAny_mono h (fun _ _ x => x) fun _ _ x => x.trans e z
end

/-! NAMES -/
section
variable {S : Sta} {A : Around} {ev : Env} {x : Str} {v : Value} {s : Shared} {g : Gh} {Q : Value → Shared → Prop} {Ev : Value → Shared → Prop} {M : Model}
theorem NmAt.load (n : NmAt s.heap g ev x v) (kf : ev.scope.kind = .function) (hb : badN x = false) (h : Q v s) : wpAny M A (loadName ev x) Q Ev s := by
  rcases n with ⟨k, _, mp, ns, e⟩ | ⟨c, k | k, l, kc, o⟩
  · exact wpAny_loadName_local kf k ns e h
  · exact wpAny_loadName_cell kf k l o h
  · unfold badN at hb
    exact wpAny_loadName_free kf k l o h (by simpa using (Bool.or_eq_false_iff.mp hb).2)
theorem NmAt.eval_ {pos : Pos} (n : NmAt s.heap g ev x v) (kf : ev.scope.kind = .function) (hb : badN x = false) (h : Q v s) : wpAny M A (eval (.Name x pos) ev) Q Ev s :=
  wpAny_Name (n.load kf hb h) (by unfold badN at hb; exact (Bool.or_eq_false_iff.mp hb).1)
theorem nmOf_good {cx : Cx} {n : Nm} (e : nmOf cx x = some n) : badN x = false := nmOf_bad e
theorem eval_global {pos : Pos} {cx : Cx} {env : Env} {outer : List Env} {L : Addr} {nd : Nat} {hd : Bool} (a : Act S cx A env ev outer L nd hd) (ok : StaOk S) (st : S.B.StaysIn s.heap) (n : nmOf cx x = some .g) (hv : S.mg x = some v) (h : Q v s) : wpAny M A (eval (.Name x pos) ev) Q Ev s := by
  refine Name_function_global a.kf (a.gn x n) (loadGlobal_global (a.gl ▸ ns_of (fun o e => st _ _ e) ok.g) hv h) ?_
  have := nmOf_good n
  unfold badN at this; exact (Bool.or_eq_false_iff.mp this).1
theorem eval_builtin {pos : Pos} {cx : Cx} {env : Env} {outer : List Env} {L : Addr} {nd : Nat} {hd : Bool} (a : Act S cx A env ev outer L nd hd) (ok : StaOk S) (st : S.B.StaysIn s.heap) (n : nmOf cx x = some .g) (hg : S.mg x = none) (hv : S.mb x = some v) (h : Q v s) : wpAny M A (eval (.Name x pos) ev) Q Ev s := by
  refine Name_function_global a.kf (a.gn x n) (loadGlobal_builtin (a.gl ▸ ns_of (fun o e => st _ _ e) ok.g) hg (a.bl ▸ ns_of (fun o e => st _ _ e) ok.b) hv h) ?_
  have := nmOf_good n
  unfold badN at this; exact (Bool.or_eq_false_iff.mp this).1
end

/-! CONSTANTS, NAMES -/
section
variable {S : Sta} {G : CallS} {nd : Nat} {hd : Bool} {cx : Cx}
theorem snd_const {c : Const} {k : Nat} {pos : Pos} {x : X} (hc : constX c = some x) : SndX S G nd hd cx (.Constant c k pos) x := by
  intro A env ev outer L Y m mc σ g s K E a I rd h
  rw [eval_Constant]
  cases c <;> cases hc <;> replace h := eq_evX_0 h
  · exact wpAny_pure (.here h ⟨I, .refl _ _ _⟩ (.pd .none) (.refl _))
  · exact wpAny_pure (.here h ⟨I, .refl _ _ _⟩ (.pd (.bool _)) (.refl _))
  · exact fun _ _ _ => Ok.here (S := S) (X := No) h ⟨I, .refl _ _ _⟩ (.pd (.int _ _)) ⟨rfl, rfl, rfl⟩
  · exact fun _ _ _ => Ok.here (S := S) (X := No) h ⟨I, .refl _ _ _⟩ (.pd (.str _ _)) ⟨rfl, rfl, rfl⟩
theorem PV.base {fr : List Env} {g : Gh} {σ : Hp} {h : Heap} (I : Inv S fr g σ h) {v : Value} {d : PyData} (p : PV S.w.params S.B (fun _ => .fz) v d) : PV S.w.params h g.κ v d := p.mono fun a o _ e => ⟨I.bfz a o e, I.stays a o e⟩
theorem locV_some {m : Fm} {i : Nat} {x : V} (h : locV m i = some x) : m[i]? = some (some (.v x)) := locA_e h fun l a b => valL_e b ▸ a
theorem need_some {α : Type} {o : Option α} {k : α → Prop} (h : need o k) : ∃ a, o = some a ∧ k a := by
  cases o with
  | none => exact h.elim
  | some a => exact ⟨a, rfl, h⟩
theorem snd_name (ok : StaOk2 S) {fn : Names} {cs : Option Names} {y : Str} {pos : Pos} {lam : Bool} {x : X} (hc : nameX (S.at fn cs lam) y = some x) : SndX S G nd hd (S.at fn cs lam) (.Name y pos) x := by
  intro A env ev outer L Y m mc σ g s K E a I rd h
  unfold nameX at hc
  split at hc
  · rename_i i hn
    cases hc
    replace h := eq_evX_2 h
    obtain ⟨u, hl, h⟩ := need_some h
    obtain ⟨v, n, r⟩ := rd.v y i hn _ (locV_some hl)
    cases r with
    | v r => exact n.eval_ a.kf (nmOf_good hn) (Ok.here (K := K) h ⟨I, .refl _ _ _⟩ r (.refl _))
  · rename_i i hn
    cases hc
    replace h := eq_evX_3 h
    obtain ⟨u, hl, h⟩ := need_some h
    obtain ⟨v, n, r⟩ := rd.w y i hn _ (locV_some hl)
    cases r with
    | v r => exact n.eval_ a.kf (nmOf_good hn) (Ok.here (K := K) h ⟨I, .refl _ _ _⟩ r (.refl _))
  · rename_i hn
    obtain ⟨i, hi, rfl⟩ := Option.map_eq_some_iff.mp hc
    obtain ⟨v, hv, p⟩ := ok.cons y i hi
    replace h := eq_evX_1 h
    exact eval_global a ok.toStaOk I.stays hn hv (Ok.here (K := K) h ⟨I, .refl _ _ _⟩ (.pd (PV.base I p)) (.refl _))
  · cases hc
end

/-! EXPRESSIONS OF EXPRESSIONS -/
noncomputable def Is (S : Sta) (fr : List Env) (g : Gh) (σ : Hp) (s : Shared) (d : V) : Value → Shared → Prop := Ok S fr No (RV S) g s (fun v σ' => v = d ∧ σ' = σ)
structure Room (A : Around) : Prop where
  guards : A.guards = some []
  units : A.units + 200 < cLine
  depth : A.depth + 10 < recursionLimit
theorem Act.room {S : Sta} {cx : Cx} {A : Around} {env ev : Env} {outer : List Env} {L : Addr} {nd : Nat} {hd : Bool} (a : Act S cx A env ev outer L nd hd) : Room A :=
  ⟨a.guards, by have := a.units; omega, by have := a.depth; omega⟩
structure OpsOk (S : Sta) : Prop where
  bin : ∀ {A fr g σ s a b x y d o bo Ev}, Room A → Inv S fr g σ s.heap → VR S s.heap g a x → VR S s.heap g b y → opOf bo = some o → evOp o x y σ = some d → wpAny S.M A (binaryOp bo a b) (Is S fr g σ s (.pd d)) Ev s
  cmp : ∀ {A fr g σ s a b x y d co Ev}, Room A → Inv S fr g σ s.heap → VR S s.heap g a x → VR S s.heap g b y → evOp (cmpOf co) x y σ = some d → wpAny S.M A (compareOp co a b) (Is S fr g σ s (.pd d)) Ev s

section
variable {S : Sta} {fr : List Env} {A : Around} {g : Gh} {σ : Hp} {s : Shared} {K : KV} {Ev : Value → Shared → Prop} {t : Sem Value} {d : V}
theorem Is.ok {a : Value} {s1 : Shared} (k : K d σ) (x : Is S fr g σ s d a s1) : Ok S fr No (RV S) g s K a s1 := x.mono fun v σ' q => by rw [q.1, q.2]; exact k
theorem truth_some {v : V} {k : Bool → Prop} (h : truth v k) : ∃ b, v = .pd (.bool b) ∧ k b := need_e h fun b e q => ⟨b, boolV_e e, q⟩
theorem vr_bool {h : Heap} {v : Value} {b : Bool} (r : VR S h g v (.pd (.bool b))) : v = .bool b := by
  cases r with
  | pd r => cases r; rfl
theorem vr_int {h : Heap} {v : Value} {i : Int} (r : VR S h g v (.pd (.int i))) : ∃ t, v = .int i t := by
  cases r with
  | pd r => cases r; exact ⟨_, rfl⟩
theorem vr_str {h : Heap} {v : Value} {x : Str} (r : VR S h g v (.pd (.str x))) : ∃ t, v = .str x t := by
  cases r with
  | pd r => cases r; exact ⟨_, rfl⟩
theorem vr_pd {h : Heap} {v : Value} {d : PyData} (r : VR S h g v (.pd d)) : PV S.w.params h g.κ v d := by
  cases r with
  | pd r => exact r
theorem kd_some {o : Option PyData} {K : KV} {σ : Hp} (h : kd o K σ) : ∃ d, o = some d ∧ K (.pd d) σ := need_some h
end

section
variable {S : Sta} {G : CallS} {nd : Nat} {hd : Bool} {cx : Cx}

/-! rows of expressions -/
theorem snd_nil : SndXs S G nd hd cx [] [] := by
  intro A env ev outer L Y m mc σ g s K E pos a I rd h
  exact spliced_none (.here (K := K) h ⟨I, .refl _ _ _⟩ .nil (.refl _))
theorem snd_cons {e : PySem.Expr} {es : List PySem.Expr} {x : X} {xs : List X} (hx : SndX S G nd hd cx e x) (hr : SndXs S G nd hd cx es xs) (hs : isStar e = false) : SndXs S G nd hd cx (e :: es) (x :: xs) := by
  intro A env ev outer L Y m mc σ g s K E pos a I rd h
  refine spliced_more (step (hx A env ev outer L Y m mc σ g s _ E a I rd h) fun v d σ1 g1 s1 h1 e1 i1 r1 z1 => ?_) (by cases e <;> first | rfl | cases hs)
  refine fromE e1 z1 (step (hr A env ev outer L Y m mc σ1 g1 s1 _ E pos a i1 (rd.mono e1) h1) fun vs ds σ2 g2 s2 h2 e2 i2 r2 z2 => ?_)
  exact ⟨d :: ds, σ2, g2, h2, e1.trans e2, i2, .cons (r1.mono e2.up) r2, z1.trans z2⟩
theorem snd_tup {es : List PySem.Expr} {xs : List X} {c : Nat} {pos : Pos} (hx : SndXs S G nd hd cx es xs) : SndX S G nd hd cx (.Tuple es c pos) (.tup xs) := by
  intro A env ev outer L Y m mc σ g s K E a I rd h
  replace h := eq_evX_5 h
  rw [arm_eval_Tuple]
  refine wpAny_bind (wpAny_standAt (wpAny_bind (step (hx A env ev outer L Y m mc σ g s _ E pos a I rd h) fun vs ds σ1 g1 s1 h1 e1 i1 r1 z1 => ?_)))
  obtain ⟨pd, hp, h1⟩ := need_some h1
  obtain ⟨hl, h1⟩ := when_e h1
  have ps := r1.pds hp
  have hn : s1.heap.get? s1.heap.objs.size = none := Heap.get?_none_of_le (Nat.le_refl _)
  refine wpAny_newTuple ?_ (by rw [ps.length]; exact hl)
  obtain ⟨I2, E2⟩ := i1.new (k := .fz) (fun b o q => Heap.get?_push_of_some _ q) hn (Heap.get?_push_size s1.heap (o := { cls := .type "tuple", data := .seq vs.toArray }) rfl)
  exact ⟨_, σ1, _, h1, e1.trans E2, I2, .pd (.tuple (if_pos rfl) (Heap.get?_push_size _ rfl) rfl rfl (by simpa using ps.mono E2.up.fz)), z1⟩
theorem made_ok {fr : List Env} {g : Gh} {σ : Hp} {h : Heap} {m : Bool} {ds : List PyData} {K : KV} {vs : List Value} {P : V → Hp → Gh → Prop} (sm : ∃ o, S.B.get? sysModules = some o) (I : Inv S fr g σ h) (ps : PVs S.w.params h g.κ vs ds) (hm : made m ds σ K) :
    ∃ d σ' g', K d σ' ∧ Ext No g g' h (h.push { cls := .type "list", data := .seq vs.toArray }) ∧ Inv S fr g' σ' (h.push { cls := .type "list", data := .seq vs.toArray }) ∧ VR S (h.push { cls := .type "list", data := .seq vs.toArray }) g' (.ref h.objs.size) d := by
  have hn : h.get? h.objs.size = none := Heap.get?_none_of_le (Nat.le_refl _)
  have kp : ∀ b o, h.get? b = some o → (h.push { cls := .type "list", data := .seq vs.toArray }).get? b = some o := fun b o q => Heap.get?_push_of_some _ q
  have hat : (h.push { cls := .type "list", data := .seq vs.toArray }).get? h.objs.size = some { cls := .type "list", data := .seq vs.toArray } := Heap.get?_push_size _ rfl
  have ns : h.objs.size ≠ sysModules := fun q => by
    obtain ⟨o, e⟩ := sm
    rw [← q] at e; rw [I.stays _ _ e] at hn; cases hn
  replace hm := when_e hm
  cases m with
  | true =>
    obtain ⟨I2, E2⟩ := I.newMu (o := .list ds) kp hn (fun u => .list hat (ps.mono u.fz))
    refine ⟨_, _, _, hm.2, E2, I2, ?_⟩
    have : (g.mu h.objs.size).μ σ.length = h.objs.size := by rw [I.num]; exact if_pos rfl
    conv => lhs; rw [← this]
    exact .ref (by show σ.length < g.n + 1; rw [I.num]; exact Nat.lt_succ_self _)
  | false =>
    obtain ⟨I2, E2⟩ := I.new (k := .fz) kp hn hat
    exact ⟨_, _, _, hm.2, E2, I2, .pd (.list (if_pos rfl) hat rfl rfl ns (by simpa using ps.mono E2.up.fz))⟩
theorem snd_lst (sm : ∃ o, S.B.get? sysModules = some o) {es : List PySem.Expr} {xs : List X} {b : Bool} {pos : Pos} (hx : SndXs S G nd hd cx es xs) : SndX S G nd hd cx (.List es pos) (.lst b xs) := by
  intro A env ev outer L Y m mc σ g s K E a I rd h
  replace h := eq_evX_6 h
  rw [arm_eval_List]
  refine wpAny_bind (wpAny_standAt (wpAny_bind (step (hx A env ev outer L Y m mc σ g s _ E pos a I rd h) fun vs ds σ1 g1 s1 h1 e1 i1 r1 z1 => ?_)))
  obtain ⟨pd, hp, h1⟩ := need_some h1
  have ps := r1.pds hp
  refine wpAny_newList ?_ (by rw [ps.length]; exact (when_e h1).1)
  obtain ⟨d, σ', g', k, E2, I2, r⟩ := made_ok (P := fun _ _ _ => True) sm i1 ps h1
  exact ⟨d, σ', g', k, e1.trans E2, I2, r, z1⟩

/-! operators -/
theorem snd_bin (ops : OpsOk S) {l r : PySem.Expr} {bo : Operator} {o : Op} {pos : Pos} {a b : X} (ho : opOf bo = some o) (ha : SndX S G nd hd cx l a) (hb : SndX S G nd hd cx r b) : SndX S G nd hd cx (.BinOp l bo r pos) (.op o a b) := by
  intro A env ev outer L Y m mc σ g s K E ac I rd h
  replace h := eq_evX_8 h
  refine wpAny_BinOp (step (ha A env ev outer L Y m mc σ g s _ E ac I rd h) fun v d σ1 g1 s1 h1 e1 i1 r1 z1 => ?_)
  refine fromE e1 z1 (step (hb A env ev outer L Y m mc σ1 g1 s1 _ E ac i1 (rd.mono e1) h1) fun w f σ2 g2 s2 h2 e2 i2 r2 z2 => ?_)
  obtain ⟨x, hx, h2⟩ := kd_some h2
  exact wpAny_mono (ops.bin ac.room i2 (r1.mono e2.up) r2 ho hx) (fun _ _ q => (q.ok h2).trans (e1.trans e2) (z1.trans z2)) fun _ _ q => q
theorem cmp_marks {e : PySem.Expr} (h : kindE e ≠ 3) (co : CmpOp) : behindInMarks co e = false := by
  cases e <;> first | rfl | exact absurd rfl h
theorem snd_cmp (ops : OpsOk S) {l r : PySem.Expr} {co : CmpOp} {pos : Pos} {a b : X} (hm : behindInMarks co r = false) (ha : SndX S G nd hd cx l a) (hb : SndX S G nd hd cx r b) : SndX S G nd hd cx (.Compare l [co] [r] pos) (.op (cmpOf co) a b) := by
  intro A env ev outer L Y m mc σ g s K E ac I rd h
  replace h := eq_evX_8 h
  refine wpAny_Compare1 (step (ha A env ev outer L Y m mc σ g s _ E ac I rd h) fun v d σ1 g1 s1 h1 e1 i1 r1 z1 => ?_) hm
  refine fromE e1 z1 (step (hb A env ev outer L Y m mc σ1 g1 s1 _ E ac i1 (rd.mono e1) h1) fun w f σ2 g2 s2 h2 e2 i2 r2 z2 => ?_)
  obtain ⟨x, hx, h2⟩ := kd_some h2
  exact wpAny_mono (ops.cmp ac.room i2 (r1.mono e2.up) r2 hx) (fun _ _ q => (q.ok h2).trans (e1.trans e2) (z1.trans z2)) fun _ _ q => q
theorem sndt_cmp (ops : OpsOk S) {l r : PySem.Expr} {co : CmpOp} {pos : Pos} {a b : X} (hm : behindInMarks co r = false) (ha : SndX S G nd hd cx l a) (hb : SndX S G nd hd cx r b) : SndT S G nd hd cx (.Compare l [co] [r] pos) (.op (cmpOf co) a b) := by
  intro A env ev outer L Y m mc σ g s K E ac I rd h
  replace h := eq_evX_8 h
  refine wpAny_isTrue_Compare1 (step (ha A env ev outer L Y m mc σ g s _ E ac I rd h) fun v d σ1 g1 s1 h1 e1 i1 r1 z1 => ?_) hm
  refine fromE e1 z1 (step (hb A env ev outer L Y m mc σ1 g1 s1 _ E ac i1 (rd.mono e1) h1) fun w f σ2 g2 s2 h2 e2 i2 r2 z2 => ?_)
  obtain ⟨x, hx, h2⟩ := kd_some h2
  obtain ⟨bb, q, h2⟩ := truth_some h2
  cases q
  refine step (ops.cmp ac.room i2 (r1.mono e2.up) r2 hx) fun u f' σ3 g3 s3 h3 e3 i3 r3 z3 => ?_
  obtain ⟨rfl, rfl⟩ := h3
  obtain rfl := vr_bool r3
  exact wpAny_truthy_bool ⟨bb, σ3, g3, h2, (e1.trans e2).trans e3, i3, rfl, (z1.trans z2).trans z3⟩
theorem snd_neg {e : PySem.Expr} {pos : Pos} {a : X} (ha : SndX S G nd hd cx e a) : SndX S G nd hd cx (.UnaryOp .USub e pos) (.neg a) := by
  intro A env ev outer L Y m mc σ g s K E ac I rd h
  replace h := eq_evX_9 h
  rw [arm_eval_UnaryOp]
  refine wpAny_bind (step (ha A env ev outer L Y m mc σ g s _ E ac I rd h) fun v d σ1 g1 s1 h1 e1 i1 r1 z1 => ?_)
  obtain ⟨i, hi, h1⟩ := need_some h1
  obtain ⟨t, rfl⟩ := vr_int (intV_e hi ▸ r1)
  exact wpAny_bind (wpAny_standAt (wpAny_holding (P.neg_int ⟨_, σ1, g1, h1, e1, i1, .pd (.int _ _), z1⟩)))
theorem snd_not {e : PySem.Expr} {pos : Pos} {a : X} (ha : SndX S G nd hd cx e a) : SndX S G nd hd cx (.UnaryOp .Not e pos) (.not a) := by
  intro A env ev outer L Y m mc σ g s K E ac I rd h
  replace h := eq_evX_10 h
  rw [arm_eval_UnaryOp]
  refine wpAny_bind (step (ha A env ev outer L Y m mc σ g s _ E ac I rd h) fun v d σ1 g1 s1 h1 e1 i1 r1 z1 => ?_)
  obtain ⟨b, rfl, h1⟩ := truth_some h1
  obtain rfl := vr_bool r1
  refine wpAny_bind (wpAny_standAt (wpAny_holding ?_))
  unfold unaryOp
  refine wpAny_holding ?_
  show wpAny S.M A (truthy (.bool b) >>= fun c => pure (Value.bool (!c))) _ _ _
  exact wpAny_bind (wpAny_truthy_bool (wpAny_pure ⟨_, σ1, g1, h1, e1, i1, .pd (.bool _), z1⟩))
theorem sndt_not {e : PySem.Expr} {pos : Pos} {a : X} (ha : SndT S G nd hd cx e a) : SndT S G nd hd cx (.UnaryOp .Not e pos) (.not a) := by
  intro A env ev outer L Y m mc σ g s K E ac I rd h
  replace h := eq_evX_10 h
  rw [arm_isTrue_UnaryOp]
  refine wpAny_bind (step (ha A env ev outer L Y m mc σ g s (fun b σ' => K (!b) σ') E ac I rd h) fun v d σ1 g1 s1 h1 e1 i1 r1 z1 => ?_)
  subst r1
  exact wpAny_pure ⟨_, σ1, g1, h1, e1, i1, rfl, z1⟩
end

/-- what brackets may follow -/
inductive HasSub (σ : Hp) (x : V) : Prop
  | l (l : List PyData) (e : rd σ x = some (.list l))
  | t (l : List PyData) (e : rd σ x = some (.tuple l))
  | r (i : Nat) (l : List (Str × V)) (e : x = .ref i) (q : σ[i]? = some (.dict l))
  | d (l : List (PyData × PyData)) (e : x = .pd (.dict l))
theorem evSub_has {σ : Hp} {x y z : V} (h : evSub σ x y = some z) : HasSub σ x :=
  alt_e h (fun h => bd_e h fun k _ h => alt_e h (fun h => bd_e h fun p h1 _ => .r _ _ (dctR_e h1).1 (dctR_e h1).2) fun h => bd_e h fun l h1 _ => bd_e h1 fun d h2 h3 => .d l (by rw [pdV_e h2, dictP_e h3]))
    fun h => bd_e h fun i _ h => bd_e h fun d h1 h => alt_e h (fun h => bd_e h fun l h2 _ => .l l (by rw [h1, listP_e h2])) fun h => bd_e h fun l h2 _ => .t l (by rw [h1, tupP_e h2])
theorem evCut_has {σ : Hp} {x : V} {lo hi : Option Int} {d : PyData} (h : evCut σ x lo hi = some d) : HasSub σ x :=
  bd_e h fun d h1 h => alt_e h (fun h => bd_e h fun l h2 _ => .l l (by rw [h1, listP_e h2])) fun h => bd_e h fun l h2 _ => .t l (by rw [h1, tupP_e h2])
structure SubOk (S : Sta) : Prop where
  /-- no class of its own answers the brackets -/
  gip : ∀ {A fr g σ s a x Ev}, Room A → Inv S fr g σ s.heap → VR S s.heap g a x → HasSub σ x → wpAny S.M A (getitemInPython a) (fun b s' => b = false ∧ s' = s) Ev s
  get : ∀ {A fr g σ s a b x y z Ev}, Room A → Inv S fr g σ s.heap → VR S s.heap g a x → VR S s.heap g b y → evSub σ x y = some z → wpAny S.M A (getItem a b) (Is S fr g σ s z) Ev s
  cut : ∀ {A fr g σ s a x d lo hi sl vl vu Ev}, Room A → Inv S fr g σ s.heap → VR S s.heap g a x → s.heap.IsSliceOf sl vl vu .none → IsPart vl lo → IsPart vu hi → evCut σ x lo hi = some d → wpAny S.M A (getItem a (.ref sl)) (Is S fr g σ s (.pd d)) Ev s
  scope : ∀ {A fr g σ s a sc Ev}, Room A → Inv S fr g σ s.heap → VR S s.heap g a (.evr sc) → wpAny S.M A (getAttr a (Str.ofString "scope") true) (Is S fr g σ s sc) Ev s
  fault : ∀ {A fr g σ s ea e b y Y Ev}, Room A → Inv S fr g σ s.heap → FaultAt S Y s.heap g ea e → faultOf y = some b → (b = true → e.lim = false) → wpAny S.M A (getAttr (.ref ea) y true) (Is S fr g σ s (.pd (if b then e.spot else .str e.what))) Ev s

section
variable {M : Model} {A : Around} {Ev : Value → Shared → Prop} {s : Shared}
theorem wpAny_operate {vs : List Value} {m : Sem Value} {Q : Value → Shared → Prop} (h : wpAny M A m Q Ev s) : wpAny M A (operate vs m) Q Ev s := fun Γ p hΓ => by rw [Sem.wp_operate]; exact h Γ p hΓ
theorem truth_and {x : V} {P : Prop} {F : Bool → Prop} : (truth x fun t => brn t P (truth x F)) = (truth x fun t => brn t P (F false)) := by
  unfold truth
  cases boolV x with
  | none => rfl
  | some b => cases b <;> rfl
theorem truth_or {x : V} {P : Prop} {F : Bool → Prop} : (truth x fun t => brn t (truth x F) P) = (truth x fun t => brn t (F true) P) := by
  unfold truth
  cases boolV x with
  | none => rfl
  | some b => cases b <;> rfl
end

section
variable {S : Sta} {G : CallS} {nd : Nat} {hd : Bool} {cx : Cx}
inductive Sn2 (S : Sta) (G : CallS) (nd : Nat) (hd : Bool) (cx : Cx) : List PySem.Expr → List X → Prop
  | nil : Sn2 S G nd hd cx [] []
  | cons {e : PySem.Expr} {x : X} {es : List PySem.Expr} {xs : List X} : SndX S G nd hd cx e x → SndT S G nd hd cx e x → isStar e = false → Sn2 S G nd hd cx es xs → Sn2 S G nd hd cx (e :: es) (x :: xs)
theorem Sn2.xs {es : List PySem.Expr} {xs : List X} (h : Sn2 S G nd hd cx es xs) : SndXs S G nd hd cx es xs := by
  induction h with
  | nil => exact snd_nil
  | cons hx _ hs _ ih => exact snd_cons hx ih hs

theorem snd_boolOp {o : PySem.BoolOp} {pos : Pos} {es : List PySem.Expr} {xs : List X} {x : X} (h2 : Sn2 S G nd hd cx es xs) (hj : joinX o xs = some x) : SndX S G nd hd cx (.BoolOp o es pos) x := by
  suffices ∀ A env ev outer L Y m mc σ g s K E, Act S cx A env ev outer L nd hd → Inv S (env :: outer) g σ s.heap → Rd S cx ev Y s.heap g m mc → evX G S.gc m mc x σ K E →
      wpAny S.M A (boolOp pos o (evalEach es ev)) (Ok S (env :: outer) No (RV S) g s K) (Er S (env :: outer) No false g s E) s by
    intro A env ev outer L Y m mc σ g s K E a I rd h
    rw [arm_eval_BoolOp]
    exact this A env ev outer L Y m mc σ g s K E a I rd h
  induction h2 generalizing x with
  | nil => cases hj
  | @cons e y es ys hx ht hs hr ih =>
    intro A env ev outer L Y m mc σ g s K E a I rd h
    cases hr with
    | nil =>
      cases hj
      exact hx A env ev outer L Y m mc σ g s K E a I rd h
    | @cons e' y' es' ys' hx' ht' hs' hr' =>
      have hj : Option.map _ (joinX o (y' :: ys')) = some _ := hj
      obtain ⟨q, hq, rfl⟩ := Option.map_eq_some_iff.mp hj
      have ih := ih hq
      rw [arm_evalEach_cons, arm_evalEach_cons]
      unfold boolOp
      cases o with
      | And =>
        simp only at h
        replace h := eq_evX_11 h
        refine wpAny_bind (step (hx A env ev outer L Y m mc σ g s _ E a I rd h) fun v d σ1 g1 s1 h1 e1 i1 r1 z1 => ?_)
        obtain ⟨b, rfl, h1⟩ := truth_some h1
        obtain rfl := vr_bool r1
        refine wpAny_bind (wpAny_standAt (wpAny_bind (wpAny_holding (wpAny_truthy_bool ?_))))
        cases b with
        | false => exact wpAny_pure ⟨_, σ1, g1, h1, e1, i1, r1, z1⟩
        | true => exact from_ e1 z1 (ih A env ev outer L Y m mc σ1 g1 s1 K E a i1 (rd.mono e1) h1)
      | Or =>
        simp only at h
        replace h := eq_evX_12 h
        refine wpAny_bind (step (hx A env ev outer L Y m mc σ g s _ E a I rd h) fun v d σ1 g1 s1 h1 e1 i1 r1 z1 => ?_)
        obtain ⟨b, rfl, h1⟩ := truth_some h1
        obtain rfl := vr_bool r1
        refine wpAny_bind (wpAny_standAt (wpAny_bind (wpAny_holding (wpAny_truthy_bool ?_))))
        cases b with
        | true => exact wpAny_pure ⟨_, σ1, g1, h1, e1, i1, r1, z1⟩
        | false => exact from_ e1 z1 (ih A env ev outer L Y m mc σ1 g1 s1 K E a i1 (rd.mono e1) h1)
theorem sndt_boolOp {o : PySem.BoolOp} {pos : Pos} {es : List PySem.Expr} {xs : List X} {x : X} (h2 : Sn2 S G nd hd cx es xs) (hj : joinX o xs = some x) : SndT S G nd hd cx (.BoolOp o es pos) x := by
  suffices ∀ A env ev outer L Y m mc σ g s K E, Act S cx A env ev outer L nd hd → Inv S (env :: outer) g σ s.heap → Rd S cx ev Y s.heap g m mc → evX G S.gc m mc x σ (fun v σ' => truth v fun b => K b σ') E →
      wpAny S.M A (allTrue o es ev) (Ok S (env :: outer) No RB g s K) (Er S (env :: outer) No false g s E) s by
    intro A env ev outer L Y m mc σ g s K E a I rd h
    rw [arm_isTrue_BoolOp]
    exact this A env ev outer L Y m mc σ g s K E a I rd h
  induction h2 generalizing x with
  | nil => cases hj
  | @cons e y es ys hx ht hs hr ih =>
    intro A env ev outer L Y m mc σ g s K E a I rd h
    cases hr with
    | nil =>
      cases hj
      rw [arm_allTrue_cons]
      refine wpAny_bind (step (ht A env ev outer L Y m mc σ g s K E a I rd h) fun b b' σ1 g1 s1 h1 e1 i1 r1 z1 => ?_)
      subst r1
      cases o <;> cases b <;> first | exact wpAny_pure ⟨_, σ1, g1, h1, e1, i1, rfl, z1⟩ | (show wpAny _ _ (allTrue _ [] _) _ _ _; rw [arm_allTrue_nil]; exact wpAny_pure ⟨_, σ1, g1, h1, e1, i1, rfl, z1⟩)
    | @cons e' y' es' ys' hx' ht' hs' hr' =>
      have hj : Option.map _ (joinX o (y' :: ys')) = some _ := hj
      obtain ⟨q, hq, rfl⟩ := Option.map_eq_some_iff.mp hj
      have ih := ih hq
      rw [arm_allTrue_cons]
      cases o with
      | And =>
        simp only at h
        replace h := eq_evX_11 h
        refine wpAny_bind (step (ht A env ev outer L Y m mc σ g s (fun b σ' => brn b (evX G S.gc m mc q σ' (fun v σ' => truth v fun b => K b σ') E) (K false σ')) E a I rd ?_) fun b b' σ1 g1 s1 h1 e1 i1 r1 z1 => ?_)
        · exact (funext fun x => funext fun σ1 => truth_and : (fun x σ1 => truth x fun t => brn t (evX G S.gc m mc q σ1 (fun v σ' => truth v fun b => K b σ') E) (truth x fun b => K b σ1)) = _) ▸ h
        · subst r1
          cases b with
          | false => exact wpAny_pure ⟨_, σ1, g1, h1, e1, i1, rfl, z1⟩
          | true => exact from_ e1 z1 (ih A env ev outer L Y m mc σ1 g1 s1 K E a i1 (rd.mono e1) h1)
      | Or =>
        simp only at h
        replace h := eq_evX_12 h
        refine wpAny_bind (step (ht A env ev outer L Y m mc σ g s (fun b σ' => brn b (K true σ') (evX G S.gc m mc q σ' (fun v σ' => truth v fun b => K b σ') E)) E a I rd ?_) fun b b' σ1 g1 s1 h1 e1 i1 r1 z1 => ?_)
        · exact (funext fun x => funext fun σ1 => truth_or : (fun x σ1 => truth x fun t => brn t (truth x fun b => K b σ1) (evX G S.gc m mc q σ1 (fun v σ' => truth v fun b => K b σ') E)) = _) ▸ h
        · subst r1
          cases b with
          | true => exact wpAny_pure ⟨_, σ1, g1, h1, e1, i1, rfl, z1⟩
          | false => exact from_ e1 z1 (ih A env ev outer L Y m mc σ1 g1 s1 K E a i1 (rd.mono e1) h1)
theorem snd_ifexp {t a b : PySem.Expr} {pos : Pos} {xt xa xb : X} (ht : SndT S G nd hd cx t xt) (ha : SndX S G nd hd cx a xa) (hb : SndX S G nd hd cx b xb) : SndX S G nd hd cx (.IfExp t a b pos) (.ite xt xa xb) := by
  intro A env ev outer L Y m mc σ g s K E ac I rd h
  replace h := eq_evX_14 h
  rw [arm_eval_IfExp]
  refine wpAny_bind (step (ht A env ev outer L Y m mc σ g s (fun r σ1 => brn r (evX G S.gc m mc xa σ1 K E) (evX G S.gc m mc xb σ1 K E)) E ac I rd h) fun b b' σ1 g1 s1 h1 e1 i1 r1 z1 => ?_)
  subst r1
  cases b with
  | true => exact from_ e1 z1 (ha A env ev outer L Y m mc σ1 g1 s1 K E ac i1 (rd.mono e1) h1)
  | false => exact from_ e1 z1 (hb A env ev outer L Y m mc σ1 g1 s1 K E ac i1 (rd.mono e1) h1)
theorem sndt_ifexp {t a b : PySem.Expr} {pos : Pos} {xt xa xb : X} (ht : SndT S G nd hd cx t xt) (ha : SndT S G nd hd cx a xa) (hb : SndT S G nd hd cx b xb) : SndT S G nd hd cx (.IfExp t a b pos) (.ite xt xa xb) := by
  intro A env ev outer L Y m mc σ g s K E ac I rd h
  replace h := eq_evX_14 h
  rw [arm_isTrue_IfExp]
  refine wpAny_bind (step (ht A env ev outer L Y m mc σ g s (fun r σ1 => brn r (evX G S.gc m mc xa σ1 _ E) (evX G S.gc m mc xb σ1 _ E)) E ac I rd h) fun b b' σ1 g1 s1 h1 e1 i1 r1 z1 => ?_)
  subst r1
  cases b with
  | true => exact from_ e1 z1 (ha A env ev outer L Y m mc σ1 g1 s1 K E ac i1 (rd.mono e1) h1)
  | false => exact from_ e1 z1 (hb A env ev outer L Y m mc σ1 g1 s1 K E ac i1 (rd.mono e1) h1)
theorem sndt_of (hx : SndX S G nd hd cx e x) (he : ∀ ev whole, isTrue e ev whole = (do let v ← whole; standAt e.pos; holding [v] (truthy v))) : SndT S G nd hd cx e x := by
  intro A env ev outer L Y m mc σ g s K E ac I rd h
  rw [he]
  refine wpAny_bind (step (hx A env ev outer L Y m mc σ g s _ E ac I rd h) fun v d σ1 g1 s1 h1 e1 i1 r1 z1 => ?_)
  obtain ⟨b, rfl, h1⟩ := truth_some h1
  obtain rfl := vr_bool r1
  exact wpAny_bind (wpAny_standAt (wpAny_holding (wpAny_truthy_bool ⟨_, σ1, g1, h1, e1, i1, rfl, z1⟩)))
theorem snd_sub (so : SubOk S) {v i : PySem.Expr} {pos : Pos} {a b : X} (hi : ∀ o j, subscripted i false o j = operate [o, j] (getItem o j)) (ha : SndX S G nd hd cx v a) (hb : SndX S G nd hd cx i b) : SndX S G nd hd cx (.Subscript v i pos) (.sub a b) := by
  intro A env ev outer L Y m mc σ g s K E ac I rd h
  replace h := eq_evX_15 h
  rw [arm_eval_Subscript]
  refine wpAny_bind (step (ha A env ev outer L Y m mc σ g s _ E ac I rd h) fun o dv σ1 g1 s1 h1 e1 i1 r1 z1 => ?_)
  refine fromE e1 z1 (wpAny_bind (wpAny_holding (step (hb A env ev outer L Y m mc σ1 g1 s1 _ E ac i1 (rd.mono e1) h1) fun w f σ2 g2 s2 h2 e2 i2 r2 z2 => ?_)))
  obtain ⟨z, hz, h2⟩ := need_some h2
  refine wpAny_bind (wpAny_standAt (wpAny_bind (wpAny_mono (so.gip ac.room i2 (r1.mono e2.up) (evSub_has hz)) (fun p s' hp => ?_) fun _ _ q => q)))
  obtain ⟨rfl, rfl⟩ := hp
  rw [hi]
  refine wpAny_bind (wpAny_operate (step (so.get ac.room i2 (r1.mono e2.up) r2 hz) fun c f' σ3 g3 s3 h3 e3 i3 r3 z3 => ?_))
  obtain ⟨rfl, rfl⟩ := h3
  exact wpAny_bind (wpAny_letTemporaryGo (wpAny_pure ⟨_, _, g3, h2, (e1.trans e2).trans e3, i3, r3, (z1.trans z2).trans z3⟩))
theorem intC_part {S : Sta} {A : Around} {ev : Env} {e : Option PySem.Expr} {i : Option Int} {s : Shared} {Ev : Value → Shared → Prop} {Q : Value → Shared → Prop} (h : intC e = some i) (hQ : ∀ v tk, IsPart v i → Q v { s with toks := tk }) : wpAny S.M A (valueOrNone (evalOpt e ev)) Q Ev s := by
  cases e with
  | none => cases h; exact wpAny_pure (hQ _ _ .none)
  | some e =>
    obtain ⟨j, h2, rfl⟩ := Option.map_eq_some_iff.mp h
    obtain ⟨c, h1, h⟩ := Option.bind_eq_some_iff.mp h2
    obtain ⟨_, _, rfl⟩ := asK_eq h1
    cases c <;> first | (cases h; done) | (cases h; exact fun Γ p hΓ => hQ _ _ (.int _ _))
theorem snd_slice (so : SubOk S) {v : PySem.Expr} {lo hi : Option PySem.Expr} {xlo xhi : Option Int} {p pos : Pos} {a : X} (hlo : intC lo = some xlo) (hhi : intC hi = some xhi) (ha : SndX S G nd hd cx v a) : SndX S G nd hd cx (.Subscript v (.Slice lo hi none p) pos) (.slice a xlo xhi) := by
  intro A env ev outer L Y m mc σ g s K E ac I rd h
  replace h := eq_evX_16 h
  rw [arm_eval_Subscript]
  refine wpAny_bind (step (ha A env ev outer L Y m mc σ g s _ E ac I rd h) fun o dv σ1 g1 s1 h1 e1 i1 r1 z1 => ?_)
  obtain ⟨d, hd, h1⟩ := kd_some h1
  rw [arm_eval_Slice]
  refine wpAny_bind (wpAny_holding (wpAny_bind (intC_part hlo fun vl tk pl => wpAny_bind (wpAny_holding (intC_part hhi fun vu tk' pu => wpAny_bind (wpAny_holding (wpAny_pure ?_)))))))
  unfold newFields
  refine wpAny_newObj_type ?_ (by show 3 ≤ _; rw [sizeLine_eq]; omega)
  obtain ⟨I2, E2⟩ := i1.keeps (h' := s1.heap.push { cls := .type "slice", dict := none, data := .fields [vl, vu, Value.none].toArray }) (fun b o q => Heap.get?_push_of_some _ q)
  refine wpAny_bind (wpAny_standAt (wpAny_bind (wpAny_mono (so.gip (σ := σ1) (g := g1) ac.room I2 (r1.mono E2.up) (evCut_has hd)) (fun p s' hp => ?_) fun _ _ q => q)))
  · obtain ⟨rfl, rfl⟩ := hp
    show wpAny _ _ (operate _ (getItem _ _) >>= _) _ _ _
    refine wpAny_bind (wpAny_operate (step (so.cut ac.room I2 (r1.mono E2.up) (Heap.IsSliceOf.new _ _ _ _) pl pu hd) fun c f' σ3 g3 s3 h3 e3 i3 r3 z3 => ?_))
    obtain ⟨rfl, rfl⟩ := h3
    exact wpAny_bind (wpAny_letTemporaryGo (wpAny_pure ⟨_, _, g3, h1, (e1.trans E2).trans e3, i3, r3, z1.trans z3⟩))
theorem snd_scope (so : SubOk S) {x : Str} {q pos : Pos} {a : X} (ha : SndX S G nd hd cx (.Name x q) a) : SndX S G nd hd cx (.Attribute (.Name x q) (Str.ofString "scope") pos) (.scope a) := by
  intro A env ev outer L Y m mc σ g s K E ac I rd h
  replace h := eq_evX_18 h
  rw [arm_eval_Attribute]
  refine wpAny_bind (m := eval (.Name x q) ev) (step (ha A env ev outer L Y m mc σ g s _ E ac I rd h) fun o dv σ1 g1 s1 h1 e1 i1 r1 z1 => ?_)
  obtain ⟨sc, hsc, h1⟩ := need_some h1
  obtain rfl := evrV_e hsc
  refine wpAny_bind (wpAny_standAt (wpAny_bind (wpAny_holding (step (so.scope ac.room i1 r1) fun c f' σ3 g3 s3 h3 e3 i3 r3 z3 => ?_))))
  obtain ⟨rfl, rfl⟩ := h3
  exact wpAny_bind (wpAny_letTemporaryGo (wpAny_pure ⟨_, _, g3, h1, e1.trans e3, i3, r3, z1.trans z3⟩))
end

/-! THE VARIABLES OF A FUNCTION, AND STORES -/
theorem idxOf_get : ∀ {names : Names} {x : Str} {k i : Nat} {kd : NameKind}, idxOf names x k = some (i, kd) → k ≤ i ∧ names[i - k]? = some (x, kd)
  | [], x, k, i, kd, h => by cases h
  | (a, c) :: r, x, k, i, kd, h => by
    unfold idxOf at h
    split at h
    · rename_i e; cases h; subst e; exact ⟨Nat.le_refl _, by simp⟩
    · obtain ⟨h1, h2⟩ := idxOf_get h
      exact ⟨Nat.le_of_succ_le h1, by rw [← Nat.sub_add_cancel (Nat.sub_pos_of_lt h1)]; exact h2⟩
theorem idxOf_lookup : ∀ {names : Names} {x : Str} {k i : Nat} {kd : NameKind}, idxOf names x k = some (i, kd) → names.lookup x = some kd
  | [], x, k, i, kd, h => by cases h
  | (a, c) :: r, x, k, i, kd, h => by
    unfold idxOf at h
    split at h
    · rename_i e; cases h; subst e; simp [List.lookup]
    · rename_i e
      have : (x == a) = false := by simp; exact fun q => e q.symm
      simp only [List.lookup, this]
      exact idxOf_lookup h
theorem idxOf_inj {names : Names} {x y : Str} {i : Nat} {k l : NameKind} (h : idxOf names x 0 = some (i, k)) (q : idxOf names y 0 = some (i, l)) : x = y := by
  have a := (idxOf_get h).2; have b := (idxOf_get q).2
  rw [a] at b; cases b; rfl
theorem setAt_self {α : Type} : ∀ {l : List α} {i : Nat} {x : α}, i < l.length → (setAt l i x)[i]? = some x
  | [], i, x, h => by cases h
  | _ :: r, 0, x, _ => rfl
  | _ :: r, i + 1, x, h => by show (setAt r i x)[i]? = _; exact setAt_self (Nat.lt_of_succ_lt_succ h)
theorem setAt_ne {α : Type} : ∀ {l : List α} {i j : Nat} {x : α}, i ≠ j → (setAt l i x)[j]? = l[j]?
  | [], i, j, x, h => rfl
  | _ :: r, 0, j, x, h => by cases j with
    | zero => exact absurd rfl h
    | succ j => rfl
  | _ :: r, i + 1, j, x, h => by cases j with
    | zero => rfl
    | succ j => show (setAt r i x)[j]? = r[j]?; exact setAt_ne fun q => h (by rw [q])
theorem setAt_len {α : Type} : ∀ {l : List α} {i : Nat} {x : α}, (setAt l i x).length = l.length
  | [], i, x => rfl
  | _ :: r, 0, x => rfl
  | _ :: r, i + 1, x => congrArg (· + 1) (setAt_len (l := r))
theorem setAt_comm {α : Type} : ∀ {l : List α} {i j : Nat} {x y : α}, i ≠ j → setAt (setAt l i x) j y = setAt (setAt l j y) i x
  | [], i, j, x, y, h => by cases i <;> cases j <;> rfl
  | _ :: r, 0, j, x, y, h => by cases j with
    | zero => exact absurd rfl h
    | succ j => rfl
  | _ :: r, i + 1, j, x, y, h => by cases j with
    | zero => rfl
    | succ j => exact congrArg (_ :: ·) (setAt_comm (l := r) fun q => h (by rw [q]))

structure VarsOk (S : Sta) (Y : Addr → Prop) (h : Heap) (g : Gh) (env : Env) (names : Names) (m : Fm) : Prop where
  len : m.length = names.length
  nm : env.scope.names = names
  kL : g.κ env.locals = .fr
  yL : Y env.locals
  yH : ∀ a, Y a → ∃ o, h.get? a = some o ∧ (g.κ a = .fr ∨ g.κ a = .cl)
  loc : ∃ mp, h.Ns env.locals mp ∧ ∀ x i l, idxOf names x 0 = some (i, .local) → m[i]? = some (some l) → ∃ v, mp x = some v ∧ LR S Y h g v l
  cel : ∀ x i, idxOf names x 0 = some (i, .cell) → ∃ c, env.cells.lookup x = some c ∧ Y c ∧ c ≠ env.locals ∧ g.κ c = .cl ∧ ∃ ov, h.IsCell c ov ∧ ∀ l, m[i]? = some (some l) → ∃ v, ov = some v ∧ LR S Y h g v l
  inj : ∀ x y c, env.cells.lookup x = some c → env.cells.lookup y = some c → x = y
theorem VarsOk.mono {S : Sta} {Y : Addr → Prop} {h h' : Heap} {g g' : Gh} {env : Env} {names : Names} {m : Fm} (E : Ext No g g' h h') (v : VarsOk S Y h g env names m) : VarsOk S Y h' g' env names m := by
  obtain ⟨mp, ns, r⟩ := v.loc
  have ns' := ns
  obtain ⟨o, es, ep, ho, q⟩ := ns'
  refine ⟨v.len, v.nm, (E.kind _ o ho).trans v.kL, v.yL, fun a ya => let ⟨o, e, k⟩ := v.yH a ya; let ⟨o', e'⟩ := E.still a o e; ⟨o', e', by rw [E.kind _ _ e]; exact k⟩, ⟨mp, ns_slots (fun o e => E.frs _ o e id v.kL) ns, fun x i l e1 e2 => let ⟨u, a, b⟩ := r x i l e1 e2; ⟨u, a, b.mono E.no⟩⟩, fun x i e => ?_, v.inj⟩
  obtain ⟨c, c1, c2, c3, c4, ov, ⟨oc, c5, c6⟩, c7⟩ := v.cel x i e
  refine ⟨c, c1, c2, c3, (E.kind _ oc c5).trans c4, ov, ⟨oc, E.keep _ oc c5 id (by rw [c4]; decide) (by rw [c4]; decide) (by rw [c4]; decide) (by rw [c4]; decide), c6⟩, fun l hl => ?_⟩
  obtain ⟨u, a, b⟩ := c7 l hl
  exact ⟨u, a, b.mono E.no⟩

theorem funFrames_own {h h' base : Heap} : ∀ {l : List Env}, (∀ L ∈ l.filterMap (·.frame), ∀ o, h.get? L = some o → (∀ vs, o.data ≠ .fields vs) → ∃ o', h'.get? L = some o' ∧ ∀ vs, o'.data ≠ .fields vs) → h.FunFrames base l → h'.FunFrames base l
  | [], _, _ => trivial
  | env :: r, k, ⟨a, ⟨L, o, e1, e2, e3, e4⟩, z⟩ => by
    obtain ⟨o', e, e'⟩ := k L (by simp [e1]) o e3 e4
    refine ⟨a, ⟨L, _, e1, e2, e, e'⟩, funFrames_own (fun L' m => k L' ?_) z⟩
    rw [List.filterMap_cons, e1]; exact List.mem_cons_of_mem _ m
/-- one of the function's own places changes -/
theorem Inv.own {S : Sta} {fr : List Env} {g : Gh} {σ : Hp} {h h' : Heap} {Y : Addr → Prop} (I : Inv S fr g σ h) {a : Addr} (ya : Y a) (ka : g.κ a = .fr ∨ g.κ a = .cl) (hs : Heap.SameBut a h h') (ha : ∃ o, h'.get? a = some o ∧ ∀ vs, o.data ≠ .fields vs) :
    Inv S fr g σ h' ∧ Ext Y g g h h' := by
  have kp : ∀ b o, g.κ b ≠ .fr → g.κ b ≠ .cl → h.get? b = some o → h'.get? b = some o := fun b o k1 k2 e => (hs.2 b fun q => by subst q; exact ka.elim k1 k2).trans e
  have ky : ∀ b o, ¬ Y b → h.get? b = some o → h'.get? b = some o := fun b o k e => (hs.2 b fun q => k (q ▸ ya)).trans e
  have E : Ext Y g g h h' := ⟨fun _ _ _ => rfl, Nat.le_refl _, fun _ _ => rfl, fun b o q e => ⟨q, kp b o (by rw [q]; decide) (by rw [q]; decide) e⟩, fun b o e z _ _ _ _ => ky b o z e, fun b o e z _ => ⟨o.slots, ky b o z e⟩, fun b o vs e z _ q => ⟨vs, q ▸ ky b o z e⟩, fun b o e => by
    by_cases z : b = a
    · obtain rfl := z.symm; obtain ⟨o', q, _⟩ := ha; exact ⟨o', q⟩
    · exact ⟨o, (hs.2 b z).trans e⟩⟩
  refine ⟨⟨fun b o e => (E.fz b o (I.bfz b o e) (I.stays b o e)).2, I.bfz, fun b e => I.ot b (by
    cases z : h.get? b with
    | none => rfl
    | some o => obtain ⟨o', y⟩ := E.still b o z; rw [y] at e; cases e), I.num, fun i o e => (I.mu i o e).mono_at E.up fun ob q => kp _ _ (by rw [I.km i (I.lt e)]; decide) (by rw [I.km i (I.lt e)]; decide) q, I.km, I.inj, ⟨funFrames_own (fun L m o e nf => ?_) I.fr.1, I.fr.2⟩, I.tb.mono E.fz I.tb.k fun o q => kp _ o (by rw [I.tb.k]; decide) (by rw [I.tb.k]; decide) q⟩, E⟩
  by_cases z : L = a
  · subst z; exact ha
  · exact ⟨o, (hs.2 L z).trans e, nf⟩
theorem ns_at {h : Heap} {a : Addr} {m : Str → Option Value} (n : h.Ns a m) : ∃ o, h.get? a = some o ∧ ∀ vs, o.data ≠ .fields vs := by
  obtain ⟨o, es, ep, ho, hd, _⟩ := n
  exact ⟨o, ho, fun vs q => by rw [hd] at q; cases q⟩
theorem cell_at {h : Heap} {a : Addr} {v : Option Value} (n : h.IsCell a v) : ∃ o, h.get? a = some o ∧ ∀ vs, o.data ≠ .fields vs := by
  obtain ⟨o, ho, hd⟩ := n
  exact ⟨o, ho, fun vs q => by rw [hd] at q; cases q⟩
theorem store {S : Sta} {M : Model} {A : Around} {Ev : Value → Shared → Prop} {Y : Addr → Prop} {env : Env} {outer : List Env} {names : Names} {m : Fm} {g : Gh} {σ : Hp} {s : Shared} {x : Str} {i : Nat} {k : NameKind} {v : Value} {l : Loc} {Q : Unit → Shared → Prop}
    (kf : env.scope.kind = .function) (V : VarsOk S Y s.heap g env names m) (I : Inv S (env :: outer) g σ s.heap) (hi : idxOf names x 0 = some (i, k)) (hk : k = .local ∨ k = .cell) (r : LR S Y s.heap g v l)
    (hQ : ∀ h' tk, Inv S (env :: outer) g σ h' → Ext Y g g s.heap h' → VarsOk S Y h' g env names (setAt m i (some l)) → (∀ C, g.κ C = .ot → h'.get? C = s.heap.get? C) → Q () { s with heap := h', toks := tk }) : wpAny M A (storeName env x v) Q Ev s := by
  have hkind : env.kindOf x = some k := by unfold Env.kindOf; rw [V.nm]; exact idxOf_lookup hi
  have ilt : i < m.length := by
    rw [V.len]; exact (List.getElem?_eq_some_iff.mp (by simpa using (idxOf_get hi).2)).1
  obtain ⟨mp, ns, lr⟩ := V.loc
  rcases hk with rfl | rfl
  · refine wpAny_storeName_local hkind ns (fun h' ns' sb => ?_) (by rw [kf]; rfl)
    obtain ⟨I', E'⟩ := I.own V.yL (.inl V.kL) sb (ns_at ns')
    refine hQ h' _ I' E' ⟨by rw [setAt_len]; exact V.len, V.nm, V.kL, V.yL, fun a ya => let ⟨o, e, k⟩ := V.yH a ya; let ⟨o', e'⟩ := E'.still a o e; ⟨o', e', k⟩, ⟨_, ns', fun y j l' e1 e2 => ?_⟩, fun y j e => ?_, V.inj⟩ fun C kC => sb.2 C fun q => by rw [q, V.kL] at kC; cases kC
    · by_cases z : y = x
      · obtain rfl := z.symm
        rw [hi] at e1; cases e1
        rw [setAt_self ilt] at e2; cases e2
        exact ⟨v, if_pos rfl, r.mono E'⟩
      · have ne : i ≠ j := fun q => z (idxOf_inj e1 (q ▸ hi))
        rw [setAt_ne ne] at e2
        obtain ⟨u, a, b⟩ := lr y j l' e1 e2
        exact ⟨u, (if_neg z).trans a, b.mono E'⟩
    · obtain ⟨c, c1, c2, c3, c4, ov, c5, c7⟩ := V.cel y j e
      refine ⟨c, c1, c2, c3, c4, ov, ?_, fun l' hl => ?_⟩
      · obtain ⟨oc, a, b⟩ := c5; exact ⟨oc, (sb.2 c c3).trans a, b⟩
      · have ne : i ≠ j := fun q => by subst q; have := idxOf_inj e hi; subst this; rw [hi] at e; cases e
        rw [setAt_ne ne] at hl
        obtain ⟨u, a, b⟩ := c7 l' hl
        exact ⟨u, a, b.mono E'⟩
  · obtain ⟨c, c1, c2, c3, c4, ov, c5, c7⟩ := V.cel x i hi
    refine wpAny_storeName_cell kf hkind c1 c5 fun h' ic sb => ?_
    obtain ⟨I', E'⟩ := I.own c2 (.inr c4) sb (cell_at ic)
    refine hQ h' s.toks I' E' ⟨by rw [setAt_len]; exact V.len, V.nm, V.kL, V.yL, fun a ya => let ⟨o, e, k⟩ := V.yH a ya; let ⟨o', e'⟩ := E'.still a o e; ⟨o', e', k⟩, ⟨mp, ?_, fun y j l' e1 e2 => ?_⟩, fun y j e => ?_, V.inj⟩ fun C kC => sb.2 C fun q => by rw [q, c4] at kC; cases kC
    · obtain ⟨o, es, ep, a, b⟩ := ns; exact ⟨o, es, ep, (sb.2 _ (Ne.symm c3)).trans a, b⟩
    · have ne : i ≠ j := fun q => by subst q; have := idxOf_inj e1 hi; subst this; rw [hi] at e1; cases e1
      rw [setAt_ne ne] at e2
      obtain ⟨u, a, b⟩ := lr y j l' e1 e2
      exact ⟨u, a, b.mono E'⟩
    · by_cases z : y = x
      · obtain rfl := z.symm
        rw [hi] at e; cases e
        refine ⟨c, c1, c2, c3, c4, _, ic, fun l' hl => ?_⟩
        rw [setAt_self ilt] at hl; cases hl
        exact ⟨v, rfl, r.mono E'⟩
      · obtain ⟨d, d1, d2, d3, d4, ow, d5, d7⟩ := V.cel y j e
        have ne : i ≠ j := fun q => z (idxOf_inj e (q ▸ hi))
        have cd : d ≠ c := fun q => z (V.inj y x c (q ▸ d1) c1)
        refine ⟨d, d1, d2, d3, d4, ow, ?_, fun l' hl => ?_⟩
        · obtain ⟨oc, a, b⟩ := d5; exact ⟨oc, (sb.2 d cd).trans a, b⟩
        · rw [setAt_ne ne] at hl
          obtain ⟨u, a, b⟩ := d7 l' hl
          exact ⟨u, a, b.mono E'⟩

/-- what the expressions of the function read -/
theorem VarsOk.rd {S : Sta} {Y : Addr → Prop} {h : Heap} {g : Gh} {env : Env} {names : Names} {m mc : Fm} (V : VarsOk S Y h g env names m) {lam : Bool} (nofree : ∀ x i, idxOf names x 0 ≠ some (i, .free)) : Rd S (S.at names none lam) env Y h g m mc := by
  have kind : ∀ {x i k}, idxOf names x 0 = some (i, k) → env.kindOf x = some k := fun e => by unfold Env.kindOf; rw [V.nm]; exact idxOf_lookup e
  refine ⟨fun x i hn l hl => ?_, fun x i hn => ?_, fun _ x i e => ?_⟩
  · obtain ⟨j, k, e, q⟩ := nmOf_0 rfl hn
    cases k with
    | «local» =>
      cases q
      obtain ⟨mp, ns, lr⟩ := V.loc
      obtain ⟨v, a, b⟩ := lr x i l e hl
      exact ⟨v, .inl ⟨kind e, .inl V.kL, mp, ns, a⟩, b⟩
    | cell =>
      cases q
      obtain ⟨c, c1, c2, c3, c4, ov, c5, c7⟩ := V.cel x i e
      obtain ⟨v, rfl, b⟩ := c7 l hl
      exact ⟨v, .inr ⟨c, .inl (kind e), c1, c4, c5⟩, b⟩
    | free => exact absurd e (nofree x j)
    | _ => cases q
  · obtain ⟨j, k, e, q⟩ := nmOf_0 rfl hn
    cases k <;> cases q
  · obtain ⟨c, c1, c2, c3, c4, ov, ⟨o, c5, _⟩, c7⟩ := V.cel x i e
    exact ⟨kind e, c, o, c1, c4, c5⟩
end Mine
namespace Mine
open PySem PySem.W PyProof.Rows PySem.Calls PySem.SeqAt
set_option genSizeOf false
set_option genInjectivity false

/-! THE OPERATORS -/
section
variable {prog : Program} {w : World} {A : Around} {E : Value → Shared → Prop} {s : Shared} {Q : Value → Shared → Prop}
end

section
variable {S : Sta} {fr : List Env} {g : Gh} {σ : Hp} {h : Heap}
theorem VEs.pes {es : List DictEntry} {kvs : List (Str × V)} (r : VEs S h g es kvs) : ∀ {ds : List (PyData × PyData)}, kvPd kvs = some ds → PEs S.w.params h g.κ es ds := by
  induction r with
  | nil => intro ds e; cases e; exact .nil
  | cons a b c d r ih => exact fun e => bd_e e fun p h1 e => map_e e fun q h2 e => e ▸ .cons a b (vr_pd (pdV_e h1 ▸ c)) d (ih h2)
theorem rd_ref {i : Nat} {d : PyData} {P : Prop} (e : rd σ (.ref i) = some d) (kl : ∀ l, σ[i]? = some (.list l) → d = .list l → P) (kd : ∀ l ds, σ[i]? = some (.dict l) → kvPd l = some ds → d = .dict ds → P) : P :=
  bd_e e fun o h1 e => by
    cases o with
    | list l => cases e; exact kl l h1 rfl
    | dict l => exact map_e e fun ds h2 e => kd l ds h1 h2 e.symm
theorem VR.rdK {v : Value} {x : V} {d : PyData} {P : Prop} (r : VR S h g v x) (e : rd σ x = some d) (kp : VR S h g v (.pd d) → P) (kr : ∀ i, VR S h g v (.ref i) → rd σ (.ref i) = some d → P) : P := by
  cases x with
  | pd d' => cases e; exact kp r
  | ref i => exact kr i r e
  | _ => cases e
theorem MO.asList {a : Addr} {l : List PyData} (r : MO S h g a (.list l)) : ∃ (vs : List Value) (n : Nat), h.get? a = some ⟨.type "list", none, .seq vs.toArray n, #[]⟩ ∧ PVs S.w.params h g.κ vs l := by
  cases r with
  | list e r => exact ⟨_, _, e, r⟩
theorem MO.asDict {a : Addr} {l : List (Str × V)} (r : MO S h g a (.dict l)) : ∃ (es : List DictEntry) (n : Nat), h.get? a = some ⟨.type "dict", none, .dict es.toArray n, #[]⟩ ∧ VEs S h g es l := by
  cases r with
  | dict e r => exact ⟨_, _, e, r⟩
theorem vr_ref {v : Value} {i : Nat} (r : VR S h g v (.ref i)) : v = .ref (g.μ i) ∧ i < g.n := by
  cases r with
  | ref hi => exact ⟨rfl, hi⟩
/-- what is read of a value, and that sys.modules is not in it -/
theorem VR.readsN (sm : ∃ o, S.B.get? sysModules = some o) (I : Inv S fr g σ h) {v : Value} {x : V} {d : PyData} (r : VR S h g v x) (e : rd σ x = some d) : ∃ as, Reads h v d as ∧ sysModules ∉ as := by
  refine r.rdK e (fun r => PV.reads (vr_pd r)) fun i r e => ?_
  obtain ⟨rfl, hi⟩ := vr_ref r
  have ne : g.μ i ≠ sysModules := fun q => by
    obtain ⟨o, y⟩ := sm
    have k1 := I.bfz _ o y
    have k2 := I.km i hi
    rw [q, k1] at k2; cases k2
  refine rd_ref e (fun l z q => ?_) fun l ds z hk q => ?_
  · subst q
    obtain ⟨vs, n, e1, r1⟩ := (I.mu i _ z).asList
    obtain ⟨as, q, n⟩ := PVs.reads r1
    exact ⟨_, .list e1 rfl rfl q, fun hm => (List.mem_cons.mp hm).elim (fun w => ne w.symm) n⟩
  · subst q
    obtain ⟨es, n, e1, r1⟩ := (I.mu i _ z).asDict
    obtain ⟨as, bs, q1, q2, n1, n2⟩ := PEs.reads (VEs.pes r1 hk)
    exact ⟨_, .dict e1 rfl rfl q1 q2, fun hm => (List.mem_append.mp hm).elim (fun hm => (List.mem_cons.mp hm).elim (fun w => ne w.symm) n1) n2⟩
theorem VR.reads (ok : StaOk S) (I : Inv S fr g σ h) {v : Value} {x : V} {d : PyData} (r : VR S h g v x) (e : rd σ x = some d) : ∃ as, Reads h v d as := (r.readsN ok.sm I e).imp fun _ q => q.1
/-- values, as the operators look at them -/
@[elab_as_elim] theorem VR.flat {P : Value → Prop} {v : Value} {x : V} {d : PyData} (r : VR S h g v x) (e : rd σ x = some d) (hl : listP d = none) (hd : dictP d = none) (k : ∀ v, VR S h g v (.pd d) → PV S.w.params h g.κ v d → P v) : P v := by
  exact r.rdK e (fun r => k v r (vr_pd r)) fun i r e => rd_ref e (fun l _ q => by rw [q] at hl; cases hl) fun l ds _ _ q => by rw [q] at hd; cases hd
@[elab_as_elim] theorem VR.strK {P : Value → Prop} {v : Value} {x : V} {d : PyData} {u : Str} (r : VR S h g v x) (e : rd σ x = some d) (q : strP d = some u) (k : ∀ t, P (.str u t)) : P v := by
  obtain rfl := strP_e q
  refine r.flat e rfl rfl fun v _ p => ?_
  cases p; exact k _
@[elab_as_elim] theorem VR.intK {P : Value → Prop} {v : Value} {x : V} {d : PyData} {i : Int} (r : VR S h g v x) (e : rd σ x = some d) (q : intP d = some i) (k : ∀ t, P (.int i t)) : P v := by
  obtain rfl := intP_e q
  refine r.flat e rfl rfl fun v _ p => ?_
  cases p; exact k _
@[elab_as_elim] theorem VR.numK {P : Value → Int → Prop} {v : Value} {x : V} {d : PyData} {i : Int} (r : VR S h g v x) (e : rd σ x = some d) (q : asInt d = some i) (k : ∀ i t, P (.int i t) i) (kb : ∀ b, P (.bool b) (if b = true then 1 else 0)) : P v i := by
  cases d with
  | int j =>
    cases q
    refine r.flat (P := fun v => P v i) e rfl rfl fun v _ p => ?_
    cases p; exact k _ _
  | bool b =>
    cases q
    refine r.flat (P := fun v => P v _) e rfl rfl fun v _ p => ?_
    cases p; exact kb _
  | _ => cases q
@[elab_as_elim] theorem VR.listK {P : Value → Prop} (I : Inv S fr g σ h) {v : Value} {x : V} {d : PyData} {l : List PyData} (r : VR S h g v x) (e : rd σ x = some d) (q : listP d = some l) (k : ∀ a vs, h.IsList a vs → PVs S.w.params h g.κ vs.toList l → vs.size = l.length → P (.ref a)) : P v := by
  obtain rfl := listP_e q
  refine r.rdK e (fun r => ?_) fun i r e => rd_ref e (fun l' z w => ?_) fun l ds _ _ w => by cases w
  · cases vr_pd r with
    | list k1 e1 c d z q => exact k _ _ ⟨_, e1, c, _, d⟩ q (by simpa using q.length)
  · cases w
    obtain ⟨rfl, hi⟩ := vr_ref r
    obtain ⟨vs, n, e1, r1⟩ := (I.mu i _ z).asList
    exact k _ _ ⟨_, e1, rfl, _, rfl⟩ r1 r1.length
@[elab_as_elim] theorem VR.tupK {P : Value → Prop} {v : Value} {x : V} {d : PyData} {l : List PyData} (r : VR S h g v x) (e : rd σ x = some d) (q : tupP d = some l) (k : ∀ a vs, IsTup h a vs → VR S h g (.ref a) (.pd (.tuple l)) → PVs S.w.params h g.κ vs.toList l → vs.size = l.length → P (.ref a)) : P v := by
  obtain rfl := tupP_e q
  refine r.flat e rfl rfl fun v r p => ?_
  cases p with
  | tuple k1 e1 c d q => exact k _ _ ⟨_, e1, c, _, d⟩ r q (by simpa using q.length)
theorem VR.isList (I : Inv S fr g σ h) {v : Value} {x : V} {l : List PyData} (r : VR S h g v x) (e : rd σ x = some (.list l)) : ∃ a vs, v = .ref a ∧ h.IsList a vs ∧ PVs S.w.params h g.κ vs.toList l := r.listK (P := fun v => ∃ a vs, v = .ref a ∧ h.IsList a vs ∧ PVs S.w.params h g.κ vs.toList l) I e rfl fun a vs h1 h2 _ => ⟨a, vs, rfl, h1, h2⟩
theorem VR.isTup {v : Value} {x : V} {l : List PyData} (r : VR S h g v x) (e : rd σ x = some (.tuple l)) : ∃ a vs, v = .ref a ∧ IsTup h a vs ∧ PVs S.w.params h g.κ vs.toList l := r.tupK (P := fun v => ∃ a vs, v = .ref a ∧ IsTup h a vs ∧ PVs S.w.params h g.κ vs.toList l) e rfl fun a vs h1 _ h2 _ => ⟨a, vs, rfl, h1, h2⟩
/-- a dict, by its entries -/
noncomputable def getE (es : List DictEntry) (k : Str) : Option Value := (es.find? fun e => Value.isStrOf k e.key).map (·.val)
theorem ves_get {es : List DictEntry} {kvs : List (Str × V)} (r : VEs S h g es kvs) (k : Str) : (∃ v x, getE es k = some v ∧ lookS k kvs = some x ∧ VR S h g v x) ∨ (getE es k = none ∧ lookS k kvs = none) := by
  induction r with
  | nil => exact .inr ⟨rfl, rfl⟩
  | @cons e es k' t x kvs a b c d r ih =>
    have hk : Value.isStrOf k e.key = sb k' k := by
      rw [a]; show (k' == k) = _; exact (str_beq k' k).symm
    unfold getE at ih ⊢
    rw [List.find?_cons, hk]
    simp only [lookS]
    cases q : sb k' k with
    | true => exact .inl ⟨e.val, x, rfl, rfl, c⟩
    | false => exact ih
theorem pes_ves {es : List DictEntry} {kvs : List (PyData × PyData)} (r : PEs S.w.params h g.κ es kvs) : ∃ kv, VEs S h g es kv ∧ (∀ k, lookS k kv = (lookP k kvs).map .pd) ∧ kv.length = kvs.length ∧ kvPd kv = some kvs := by
  induction kvs generalizing es with
  | nil => cases r; exact ⟨[], .nil, fun _ => rfl, rfl, rfl⟩
  | cons p r' ih =>
    cases r with
    | @cons e es k t d kvs a b c f r =>
      obtain ⟨kv, h1, h2, h3, h4⟩ := ih r
      refine ⟨(k, .pd d) :: kv, .cons a b (.pd c) f h1, fun y => ?_, congrArg (· + 1) h3, congrArg (Option.map ((PyData.str k, d) :: ·)) h4⟩
      show (match sb k y with | true => some (V.pd d) | false => lookS y kv) = Option.map V.pd (match sb k y with | true => some d | false => lookP y r')
      cases sb k y with
      | true => rfl
      | false => exact h2 y
theorem ves_keys {es : List DictEntry} {kvs : List (Str × V)} (r : VEs S h g es kvs) : ∀ e ∈ es, ∃ k, Value.isStrOf k e.key = true ∧ e.hash = hashStr S.w k := by
  induction r with
  | nil => exact fun _ he => (List.not_mem_nil he).elim
  | cons a b c d r ih => exact List.forall_mem_cons.mpr ⟨⟨_, by rw [a]; exact beq_self_eq_true _, b⟩, ih⟩
noncomputable abbrev sKind (S : Sta) : PySem.KeyKind S.prog S.w Str := PySem.strKind S.prog S.w
theorem ves_map {a : Addr} {es : List DictEntry} {n : Nat} {kvs : List (Str × V)} (e : h.get? a = some ⟨.type "dict", none, .dict es.toArray n, #[]⟩) (r : VEs S h g es kvs) : h.MapOf (sKind S) a (getE es) := by
  refine ⟨_, _, _, e, ⟨rfl, rfl, rfl⟩, rfl, fun e he => ?_, fun k => ?_⟩
  · exact ves_keys r e (by simpa using he)
  · unfold findBy getE
    rw [List.find?_toArray]; rfl
theorem VR.refDict (ok : StaOk S) (I : Inv S fr g σ h) {v : Value} {i : Nat} {l : List (Str × V)} (r : VR S h g v (.ref i)) (e : σ[i]? = some (.dict l)) :
    ∃ a es n, v = .ref a ∧ a = g.μ i ∧ i < g.n ∧ h.get? a = some ⟨.type "dict", none, .dict es.toArray n, #[]⟩ ∧ VEs S h g es l ∧ (a == sysModules) = false := by
  obtain ⟨rfl, hi⟩ := vr_ref r
  have hm := I.km i hi
  obtain ⟨es, n, e1, r1⟩ := (I.mu i _ e).asDict
  refine ⟨_, _, _, rfl, rfl, hi, e1, r1, ?_⟩
  obtain ⟨o, y⟩ := ok.sm
  have := I.bfz _ o y
  by_cases q : g.μ i = sysModules
  · rw [q, this] at hm; cases hm
  · simpa using q
theorem kv_look {k : Str} {l : List (Str × V)} : ∀ {ds : List (PyData × PyData)}, kvPd l = some ds → (lookS k l).isSome = (lookP k ds).isSome := by
  induction l with
  | nil => intro ds e; cases e; rfl
  | cons p r ih =>
    exact fun e => bd_e e fun d h1 e => map_e e fun q h2 e => by
      subst e
      show (match sb p.1 k with | true => some p.2 | false => lookS k r).isSome = (match sb p.1 k with | true => some d | false => lookP k q).isSome
      cases sb p.1 k with
      | true => rfl
      | false => exact ih h2
theorem VR.pdDict {v : Value} {d : List (PyData × PyData)} (r : VR S h g v (.pd (.dict d))) :
    ∃ a es n kv, v = .ref a ∧ g.κ a = .fz ∧ h.get? a = some ⟨.type "dict", none, .dict es.toArray n, #[]⟩ ∧ VEs S h g es kv ∧ (a == sysModules) = false ∧ (∀ k, lookS k kv = (lookP k d).map .pd) ∧ kv.length = d.length ∧ kvPd kv = some d := by
  cases vr_pd r with
  | dict k e n r =>
    obtain ⟨kv, h1, h2, h3, h4⟩ := pes_ves r
    exact ⟨_, _, _, kv, rfl, k, by simpa using e, h1, by simpa using n, h2, h3, h4⟩
end

section
variable {S : Sta} {fr : List Env} {A : Around} {g : Gh} {σ : Hp} {s : Shared} {d : V} {Ev : Value → Shared → Prop}
theorem is_same (I : Inv S fr g σ s.heap) {v : Value} {k : Nat} (r : VR S s.heap g v d) : Is S fr g σ s d v { s with toks := k } :=
  ⟨d, σ, g, ⟨rfl, rfl⟩, .refl _ _ _, I, r, ⟨rfl, rfl, rfl⟩⟩
theorem is_here (I : Inv S fr g σ s.heap) {v : Value} (r : VR S s.heap g v d) : Is S fr g σ s d v s := ⟨d, σ, g, ⟨rfl, rfl⟩, .refl _ _ _, I, r, ⟨rfl, rfl, rfl⟩⟩
theorem is_int (I : Inv S fr g σ s.heap) {i : Int} {t : Tok} {k : Nat} : Is S fr g σ s (.pd (.int i)) (.int i t) { s with toks := k } := is_same I (.pd (.int _ _))
theorem is_str (I : Inv S fr g σ s.heap) {x : Str} {t : Tok} {k : Nat} : Is S fr g σ s (.pd (.str x)) (.str x t) { s with toks := k } := is_same I (.pd (.str _ _))
theorem is_bool (I : Inv S fr g σ s.heap) {b : Bool} : Is S fr g σ s (.pd (.bool b)) (.bool b) s := is_here I (.pd (.bool _))
theorem is_boolT (I : Inv S fr g σ s.heap) {b : Bool} {k : Nat} : Is S fr g σ s (.pd (.bool b)) (.bool b) { s with toks := k } := is_same I (.pd (.bool _))
theorem is_tup (I : Inv S fr g σ s.heap) {vs : Array Value} {l : List PyData} {k : Nat} (r : PVs S.w.params s.heap g.κ vs.toList l) :
    Is S fr g σ s (.pd (.tuple l)) (.ref s.heap.objs.size) { s with heap := s.heap.push { cls := .type "tuple", data := .seq vs }, toks := k } := by
  have hn : s.heap.get? s.heap.objs.size = none := Heap.get?_none_of_le (Nat.le_refl _)
  obtain ⟨I2, E2⟩ := I.new (k := .fz) (fun b o q => Heap.get?_push_of_some _ q) hn (Heap.get?_push_size s.heap (o := { cls := .type "tuple", data := .seq vs }) rfl)
  exact ⟨_, σ, _, ⟨rfl, rfl⟩, E2, I2, .pd (.tuple (if_pos rfl) (Heap.get?_push_size _ rfl) rfl rfl (r.mono E2.up.fz)), ⟨rfl, rfl, rfl⟩⟩
theorem not_sys (ok : StaOk S) (I : Inv S fr g σ s.heap) : s.heap.objs.size ≠ sysModules := fun q => by
  obtain ⟨o, e⟩ := ok.sm
  have := Heap.lt_size (I.stays _ _ e)
  rw [← q] at this; exact Nat.lt_irrefl _ this
theorem is_lst (ok : StaOk S) (I : Inv S fr g σ s.heap) {vs : Array Value} {l : List PyData} {k : Nat} (r : PVs S.w.params s.heap g.κ vs.toList l) :
    Is S fr g σ s (.pd (.list l)) (.ref s.heap.objs.size) { s with heap := s.heap.push { cls := .type "list", data := .seq vs }, toks := k } := by
  have hn : s.heap.get? s.heap.objs.size = none := Heap.get?_none_of_le (Nat.le_refl _)
  obtain ⟨I2, E2⟩ := I.new (k := .fz) (fun b o q => Heap.get?_push_of_some _ q) hn (Heap.get?_push_size s.heap (o := { cls := .type "list", data := .seq vs }) rfl)
  exact ⟨_, σ, _, ⟨rfl, rfl⟩, E2, I2, .pd (.list (if_pos rfl) (Heap.get?_push_size _ rfl) rfl rfl (not_sys ok I) (r.mono E2.up.fz)), ⟨rfl, rfl, rfl⟩⟩

theorem evOp_rd {P : Prop} {o : Op} {x y : V} {d : PyData} (h1 : o ≠ .isin) (h2 : o ≠ .notin) (h : evOp o x y σ = some d) (k : ∀ a b, rd σ x = some a → rd σ y = some b → opP o a b = some d → P) : P := by
  have h : ((rd σ x).bind fun a => (rd σ y).bind fun b => opP o a b) = some d := by
    cases o <;> first | exact h | exact absurd rfl h1 | exact absurd rfl h2
  exact bd_e h fun a e1 h => bd_e h fun b e2 h => k a b e1 e2 h
theorem add_listsW {M : Model} {l b : Addr} {vs ws : Array Value} {Q : Value → Shared → Prop} (hl : s.heap.IsList l vs) (hb : s.heap.IsList b ws)
    (h : Q (.ref s.heap.objs.size) { s with heap := s.heap.push { cls := .type "list", data := .seq (vs ++ ws) } }) (hsz : vs.size + ws.size ≤ sizeLine) : wpAny (model S.prog S.w) A (binaryOp .Add (.ref l) (.ref b)) Q Ev s := by
  obtain ⟨⟨cls, dd, data, sl⟩, ho, hc, n, hd⟩ := id hl
  obtain ⟨⟨cls2, dd2, data2, sl2⟩, ho2, hc2, n2, hd2⟩ := id hb
  simp only at hc hd hc2 hd2
  subst hc hd hc2 hd2
  exact concat_meets ⟨_, ho, rfl⟩ ⟨_, ho2, rfl⟩ noFill_list_add seq_list_add PySem.F.slot_list_add PySem.F.entry_list_add (PySem.F.args_list_add_2 _ _) (list_addW l b vs ws n n2 dd dd2 sl sl2 hsz) ⟨ho, ho2, h⟩
theorem add_tuplesW {M : Model} {t b : Addr} {vs ws : Array Value} {Q : Value → Shared → Prop} (ht : IsTup s.heap t vs) (hb : IsTup s.heap b ws) (h0 : vs.isEmpty = true → Q (.ref b) s) (h1 : ws.isEmpty = true → Q (.ref t) s)
    (h2 : Q (.ref s.heap.objs.size) { s with heap := s.heap.push { cls := .type "tuple", data := .seq (vs ++ ws) } }) (hsz : vs.size + ws.size ≤ sizeLine) : wpAny (model S.prog S.w) A (binaryOp .Add (.ref t) (.ref b)) Q Ev s := by
  obtain ⟨⟨cls, dd, data, sl⟩, ho, hc, n, hd⟩ := id ht
  obtain ⟨⟨cls2, dd2, data2, sl2⟩, ho2, hc2, n2, hd2⟩ := id hb
  simp only at hc hd hc2 hd2
  subst hc hd hc2 hd2
  have go : ∀ {R}, Meets (Builtin.«tuple.__add__» ⟨[.ref t, .ref b], []⟩) R → R A (wants Q Ev) s → wpAny (model S.prog S.w) A (binaryOp .Add (.ref t) (.ref b)) Q Ev s := fun m r =>
    concat_meets ⟨_, ho, rfl⟩ ⟨_, ho2, rfl⟩ noFill_tuple_add seq_tuple_add PySem.F.slot_tuple_add PySem.F.entry_tuple_add (PySem.F.args_tuple_add_2 _ _) m r
  by_cases hv : vs.isEmpty = true
  · exact go (tuple_addW0 t b vs ws n n2 dd dd2 sl sl2 hv) ⟨ho, ho2, h0 hv⟩
  · by_cases hw : ws.isEmpty = true
    · exact go (tuple_addW1 t b vs ws n n2 dd dd2 sl sl2 hv hw) ⟨ho, ho2, h1 hw⟩
    · exact go (tuple_addW2 t b vs ws n n2 dd dd2 sl sl2 hv hw hsz) ⟨ho, ho2, h2⟩
theorem pvs_nil {P : Params} {h : Heap} {κ : Addr → Kd} {vs : Array Value} {l : List PyData} (p : PVs P h κ vs.toList l) (e : vs.isEmpty = true) : l = [] := by
  have := p.length
  rw [Array.length_toList, Array.size_eq_zero_iff.mpr (Array.isEmpty_iff.mp e)] at this
  exact List.length_eq_zero_iff.mp this.symm
theorem add_ok (ok : StaOk S) {a b : Value} {x y : V} {p q d : PyData} (I : Inv S fr g σ s.heap) (ra : VR S s.heap g a x) (rb : VR S s.heap g b y) (e1 : rd σ x = some p) (e2 : rd σ y = some q) (h : addP p q = some d) :
    wpAny S.M A (binaryOp .Add a b) (Is S fr g σ s (.pd d)) Ev s := by
  refine alt_e h (fun h => b2_e h fun u w h1 h2 h => ?_) fun h => alt_e h (fun h => b2_e h fun u w h1 h2 h => ?_) fun h => alt_e h (fun h => b2_e h fun u w h1 h2 h => ?_) fun h => b2_e h fun i j h1 h2 h => ?_
  · refine gd_m h fun hz => ?_
    refine ra.strK e1 h1 fun t => ?_
    exact rb.strK e2 h2 fun t' => PyProof.Rows.add_str (hsz := hz) fun _ _ => is_str I
  · refine gd_m h fun hz => ?_
    refine ra.listK I e1 h1 fun l vs hl pl z1 => ?_
    refine rb.listK I e2 h2 fun l' ws hl' pl' z2 => ?_
    exact add_listsW (M := S.M) hl hl' (is_lst (k := s.toks) ok I (by rw [Array.toList_append]; exact pl.append pl')) (by rw [z1, z2]; exact hz)
  · refine gd_m h fun hz => ?_
    refine ra.tupK e1 h1 fun l vs hl rt pl z1 => ?_
    refine rb.tupK e2 h2 fun l' ws hl' rt' pl' z2 => ?_
    refine add_tuplesW (M := S.M) hl hl' (fun q => ?_) (fun q => ?_) (is_tup (k := s.toks) I (by rw [Array.toList_append]; exact pl.append pl')) (by rw [z1, z2]; exact hz)
    · rw [pvs_nil pl q]; exact is_here I rt'
    · rw [pvs_nil pl' q, List.append_nil]; exact is_here I rt
  · refine some_m h ?_
    refine ra.intK e1 h1 fun t => ?_
    exact rb.intK e2 h2 fun t' => PyProof.Rows.add_int (is_int I)
theorem op_of {P : Prop} {o : Op} {bo : Operator} {x y : V} {d : PyData} (ho : opOf bo = some o) (h : evOp o x y σ = some d) (k : ∀ a b, rd σ x = some a → rd σ y = some b → opP o a b = some d → P) : P := by
  have h : ((rd σ x).bind fun a => (rd σ y).bind fun b => opP o a b) = some d := by
    cases bo <;> cases ho <;> exact h
  exact bd_e h fun a e1 h => bd_e h fun b e2 h => k a b e1 e2 h
theorem ops_bin (ok : StaOk S) {a b : Value} {x y : V} {d : PyData} {o : Op} {bo : Operator} (I : Inv S fr g σ s.heap) (ra : VR S s.heap g a x) (rb : VR S s.heap g b y) (ho : opOf bo = some o) (he : evOp o x y σ = some d) :
    wpAny S.M A (binaryOp bo a b) (Is S fr g σ s (.pd d)) Ev s := by
  refine op_of ho he fun p q e1 e2 h => ?_
  clear he
  cases bo <;> cases ho
  · exact add_ok ok I ra rb e1 e2 h
  · refine b2_e h fun i j h1 h2 h => some_m h ?_
    refine ra.intK e1 h1 fun t => ?_
    exact rb.intK e2 h2 fun t' => PySem.P.sub_int (is_int I)
  · refine b2_e h fun i j h1 h2 h => gd_m h fun hz => ?_
    refine ra.intK e1 h1 fun t => ?_
    exact rb.intK e2 h2 fun t' => PySem.P.mul_int (is_int I) (IntMulOk.of_left (intBits_le_64 hz.1 hz.2))
  · refine b2_e h fun i j h1 h2 h => gd_m h fun hz => ?_
    refine ra.intK e1 h1 fun t => ?_
    refine rb.intK e2 h2 fun t' => mod_int' (Int.ne_of_gt hz) ?_
    rw [Int.fmod_eq_emod_of_nonneg _ (Int.le_of_lt hz)]; exact is_int I
  · refine b2_e h fun i j h1 h2 h => gd_m h fun hz => ?_
    refine ra.intK e1 h1 fun t => ?_
    exact rb.intK e2 h2 fun t' => pow_int hz.1 hz.2 (is_int I)
theorem room_units (room : Room A) : A.units + 64 < cLine := Nat.lt_of_le_of_lt (Nat.add_le_add_left (by decide) _) room.units
/-- a comparison and its contrary -/
noncomputable abbrev CmpOk (S : Sta) (A : Around) (fr : List Env) (g : Gh) (σ : Hp) (s : Shared) (Ev : Value → Shared → Prop) (p n : CmpOp) (a b : Value) (r : Bool) : Prop := wpAny S.M A (compareOp p a b) (Is S fr g σ s (.pd (.bool r))) Ev s ∧ wpAny S.M A (compareOp n a b) (Is S fr g σ s (.pd (.bool (!r)))) Ev s
theorem ops_eq (ok : StaOk S) {a b : Value} {x y : V} {p q : PyData} {r : Bool} (room : Room A) (I : Inv S fr g σ s.heap) (ra : VR S s.heap g a x) (rb : VR S s.heap g b y) (e1 : rd σ x = some p) (e2 : rd σ y = some q) (he : eqP p q = some r) : CmpOk S A fr g σ s Ev .Eq .NotEq a b r := by
  refine alt_e he (fun h => b2_e h fun u w h1 h2 h => some_m h ?_) fun h => alt_e h (fun h => b2_e h fun i j h1 h2 h => some_m h ?_) fun h => gd_m h fun hz => ?_
  · refine ra.strK e1 h1 fun t => ?_
    exact rb.strK e2 h2 fun t' => ⟨PySem.P.eq_str (is_bool I), PySem.P.ne_str (is_bool I)⟩
  · refine ra.intK e1 h1 fun t => ?_
    exact rb.intK e2 h2 fun t' => ⟨PySem.P.eq_int (is_bool I), PySem.P.ne_int (is_bool I)⟩
  · obtain ⟨as, r1⟩ := ra.reads ok I e1
    obtain ⟨bs, r2⟩ := rb.reads ok I e2
    have hu : A.units + min p.depth q.depth < cLine := Nat.lt_of_le_of_lt (Nat.add_le_add_left (Nat.le_trans (Nat.min_le_left _ _) hz.2.2) _) (room_units room)
    exact ⟨compareEq_reads r1 r2 hz.1 hz.2.1 hu (is_bool I), compareNe_reads r1 r2 hz.1 hz.2.1 hu (is_bool I)⟩
theorem beq_sb (x y : Str) : (x == y) = sb x y := by
  rw [Bool.eq_iff_iff, beq_iff_eq]
  unfold sb
  rw [beq_iff_eq]
  exact ⟨fun h => h ▸ rfl, fun h => by cases x; cases y; rw [Str.mk.injEq]; exact Array.toList_inj.mp h⟩
theorem okS_ok {x : Str} (h : okS x = true) : (PyData.str x).canLay0 = true := by
  show PyData.strOk x = true
  unfold PyData.strOk
  rw [← Array.all_toList]; exact h
theorem inS_e {x : Str} : ∀ {l : List PyData} {r : Bool}, inS x l = some r → PyData.canLayAll0 l = true ∧ (l.any fun y => PyData.eqv y (.str x)) = r
  | [], _, h => ⟨rfl, Option.some.inj h⟩
  | d :: l, _, h0 => bd_e h0 fun y h1 h => bd_e h fun b h2 h => map_e h fun q h3 h4 => gd_e h2 fun ho hb => by
    obtain rfl := strP_e h1
    obtain ⟨e1, e2⟩ := inS_e h3
    refine ⟨Bool.and_eq_true_iff.mpr ⟨okS_ok ho, e1⟩, ?_⟩
    rw [List.any_cons, e2, ← h4, ← hb]; exact congrArg (· || q) (beq_sb y x)
theorem inI_e {i : Int} : ∀ {l : List PyData} {r : Bool}, inI i l = some r → PyData.canLayAll0 l = true ∧ (l.any fun y => PyData.eqv y (.int i)) = r
  | [], _, h => ⟨rfl, Option.some.inj h⟩
  | d :: l, _, h0 => bd_e h0 fun y h1 h => map_e h fun q h3 h4 => by
    obtain rfl := intP_e h1
    obtain ⟨e1, e2⟩ := inI_e h3
    refine ⟨e1, ?_⟩
    rw [List.any_cons, e2, ← h4]; rfl
@[elab_as_elim] theorem inL_m {P : Bool → Prop} {d : PyData} {l : List PyData} {r : Bool} (h : inL d l = some r) (k : d.canLay0 = true ∧ PyData.canLayAll0 l = true ∧ d.depth ≤ 64 → P (l.any fun y => PyData.eqv y d)) : P r :=
  alt_e h (fun h => bd_e h fun x h1 h => bd_e h fun y h2 h => gd_e h2 fun ho e => by
    obtain rfl := strP_e h1; subst e
    obtain ⟨e1, e2⟩ := inS_e h
    exact e2 ▸ k ⟨okS_ok ho, e1, Nat.le_of_ble_eq_true rfl⟩) fun h => alt_e h (fun h => bd_e h fun i h1 h => by
    obtain rfl := intP_e h1
    obtain ⟨e1, e2⟩ := inI_e h
    exact e2 ▸ k ⟨rfl, e1, Nat.le_of_ble_eq_true rfl⟩) fun h => gd_m h k
theorem in_units (room : Room A) {m n : Nat} (h : n ≤ 64) : A.units + 1 + min m n < cLine := Nat.lt_of_le_of_lt (Nat.add_le_add_left (Nat.le_trans (Nat.min_le_right _ _) h) _) (Nat.lt_of_le_of_lt (by rw [Nat.add_assoc]; exact Nat.add_le_add_left (by decide) _) room.units)
theorem in_dict {a : Value} {k : Str} {da : Addr} {es : List DictEntry} {n : Nat} {kv : List (Str × V)} {r : Bool} (I : Inv S fr g σ s.heap) (ra : VR S s.heap g a (.pd (.str k))) (e1 : s.heap.get? da = some ⟨.type "dict", none, .dict es.toArray n, #[]⟩) (e2 : VEs S s.heap g es kv) (e3 : (da == sysModules) = false) (e4 : (lookS k kv).isSome = r) : CmpOk S A fr g σ s Ev .In .NotIn a (.ref da) r := by
  obtain ⟨t, rfl⟩ := vr_str ra
  have hr : (getE es k).isSome = r := by
    rcases ves_get e2 k with ⟨v, x, h1, h2, _⟩ | ⟨h1, h2⟩ <;> rw [h1, ← e4, h2] <;> rfl
  have mp := ves_map e1 e2
  exact ⟨wpAny_in_of (knd := sKind S) (k := k) (beq_self_eq_true k) e3 mp (hr.symm ▸ is_boolT I), wpAny_notIn_of (knd := sKind S) (k := k) (beq_self_eq_true k) e3 mp (hr.symm ▸ is_boolT I)⟩
theorem setV_e {v : V} {l : List Int} (h : setV v = some l) : v = .set l := by cases v <;> cases h; rfl
theorem set_has (l : List Int) (i : Int) : l.contains i = l.any (· == i) := by
  rw [Bool.eq_iff_iff, any_mem, List.contains_iff_mem]
theorem ops_in (ok : StaOk S) {a b : Value} {x y : V} {r : Bool} (room : Room A) (I : Inv S fr g σ s.heap) (ra : VR S s.heap g a x) (rb : VR S s.heap g b y) (he : inV x σ y = some r) : CmpOk S A fr g σ s Ev .In .NotIn a b r := by
  have rc : ∀ {c}, pdV x = some c → ∃ as, Reads s.heap a c as := fun h2 => ra.reads ok I (by rw [pdV_e h2]; rfl)
  refine alt_e he (fun h => bd_e h fun l h1 h => map_e h fun i h2 h => ?s) fun h => alt_e h (fun h => bd_e h fun p h1 h => bd_e h fun k h2 h => ?r) fun h => bd_e h fun d e2 h => alt_e h (fun h => bd_e h fun l h1 h => bd_e h fun c h2 h => inL_m h fun hz => ?l) fun h => alt_e h (fun h => bd_e h fun l h1 h => bd_e h fun c h2 h => inL_m h fun hz => ?t) fun h => bd_e h fun l h1 h => bd_e h fun k h2 h => ?d
  case s =>
    subst h
    obtain ⟨t, rfl⟩ := vr_int (intV_e h2 ▸ ra)
    cases setV_e h1 ▸ rb with
    | set k e q b nd => exact ⟨wpAny_inSet_of (intKind_is _ _ _ _) rfl q.1 (set_has l i ▸ is_boolT I), wpAny_notInSet_of (intKind_is _ _ _ _) rfl q.1 (set_has l i ▸ is_boolT I)⟩
  case r =>
    obtain ⟨q, z⟩ := dctR_e h1
    obtain ⟨da, es, n, rfl, _, _, e1, e2, e3⟩ := (q ▸ rb).refDict ok I z
    exact in_dict I (strV_e h2 ▸ ra) e1 e2 e3 (Option.some.inj h)
  case l =>
    obtain ⟨as, r1⟩ := rc h2
    obtain ⟨bs, r2⟩ := rb.reads ok I (listP_e h1 ▸ e2)
    exact ⟨in_list_reads r2 r1 hz.2.1 hz.1 (in_units room hz.2.2) (is_bool I), notIn_list_reads r2 r1 hz.2.1 hz.1 (in_units room hz.2.2) (is_bool I)⟩
  case t =>
    obtain ⟨as, r1⟩ := rc h2
    obtain ⟨bs, r2⟩ := rb.reads ok I (tupP_e h1 ▸ e2)
    exact ⟨in_tuple_reads r2 r1 hz.2.1 hz.1 (in_units room hz.2.2) (is_bool I), notIn_tuple_reads r2 r1 hz.2.1 hz.1 (in_units room hz.2.2) (is_bool I)⟩
  case d =>
    have e2 := dictP_e h1 ▸ e2
    refine rb.rdK e2 (fun rb => ?_) fun i rb e2 => rd_ref e2 (fun l _ q => by cases q) fun l' ds z hk q => ?_
    · obtain ⟨da, es, n, kv, rfl, _, e1, e2, e3, e4, _⟩ := rb.pdDict
      exact in_dict I (strV_e h2 ▸ ra) e1 e2 e3 (by rw [e4, ← Option.some.inj h]; cases lookP k l <;> rfl)
    · cases q
      obtain ⟨da, es, n, rfl, _, _, e1, e2, e3⟩ := rb.refDict ok I z
      exact in_dict I (strV_e h2 ▸ ra) e1 e2 e3 ((kv_look hk).trans (Option.some.inj h))
theorem ord_ok {f : Int → Int → Bool} {co : CmpOp} {a b : Value} {x y : V} {p q : PyData} {r : Bool} (ra : VR S s.heap g a x) (rb : VR S s.heap g b y) (e1 : rd σ x = some p) (e2 : rd σ y = some q) (h : ordP f p q = some r) (k : ∀ i t j u, wpAny S.M A (compareOp co (.int i t) (.int j u)) (Is S fr g σ s (.pd (.bool (f i j)))) Ev s) : wpAny S.M A (compareOp co a b) (Is S fr g σ s (.pd (.bool r))) Ev s := by
  refine b2_e h fun i j h1 h2 h => some_m h ?_
  refine ra.intK e1 h1 fun t => ?_
  exact rb.intK e2 h2 fun t' => k i t j t'
theorem ops_cmp (ok : StaOk S) {a b : Value} {x y : V} {d : PyData} {co : CmpOp} (room : Room A) (I : Inv S fr g σ s.heap) (ra : VR S s.heap g a x) (rb : VR S s.heap g b y) (he : evOp (cmpOf co) x y σ = some d) :
    wpAny S.M A (compareOp co a b) (Is S fr g σ s (.pd d)) Ev s := by
  cases co with
  | Eq => exact evOp_rd (o := .eq) nofun nofun he fun p q e1 e2 h => map_m h fun r h => (ops_eq ok room I ra rb e1 e2 h).1
  | NotEq => exact evOp_rd (o := .ne) nofun nofun he fun p q e1 e2 h => map_m h fun r h => (ops_eq ok room I ra rb e1 e2 h).2
  | Lt => exact evOp_rd (o := .lt) nofun nofun he fun p q e1 e2 h => map_m h fun r h => ord_ok ra rb e1 e2 h fun i t j u => PySem.P.lt_int (is_bool I)
  | LtE => exact evOp_rd (o := .le) nofun nofun he fun p q e1 e2 h => map_m h fun r h => ord_ok ra rb e1 e2 h fun i t j u => PySem.P.le_int (is_bool I)
  | Gt => exact evOp_rd (o := .gt) nofun nofun he fun p q e1 e2 h => map_m h fun r h => ord_ok ra rb e1 e2 h fun i t j u => PySem.P.gt_int (is_bool I)
  | GtE => exact evOp_rd (o := .ge) nofun nofun he fun p q e1 e2 h => map_m h fun r h => ord_ok ra rb e1 e2 h fun i t j u => PySem.P.ge_int (is_bool I)
  | Is => exact evOp_rd (o := .is) nofun nofun he fun p q e1 e2 h => nomatch h
  | IsNot => exact evOp_rd (o := .isnot) nofun nofun he fun p q e1 e2 h => nomatch h
  | In => exact map_m he fun r h => (ops_in ok room I ra rb h).1
  | NotIn => exact map_m he fun r h => (ops_in ok room I ra rb h).2
theorem opsOk (ok : StaOk S) : OpsOk S := ⟨fun r I a b o e => ops_bin ok I a b o e, fun r I a b e => ops_cmp ok r I a b e⟩
end

/-! BRACKETS -/
section
variable {S : Sta} {fr : List Env} {A : Around} {g : Gh} {σ : Hp} {s : Shared} {d : V} {Ev : Value → Shared → Prop}
theorem gip_false {o : Value} {T id : String} {Q : Bool → Shared → Prop} {M : Model} (hT : s.TypeIs o T) (hl : typeLookup (.type T) "__getitem__" = pure (some (.builtin id))) (h : Q false s) : wpAny M A (getitemInPython o) Q Ev s := by
  rw [getitemInPython_of_ne hT.not_modules]
  exact wpAny_bind (wpAny_specialOf hT hl (wpAny_pure h))
structure IdxAt (l : List PyData) (i : Int) (w : PyData) (j : Nat) : Prop where
  h1 : seqIndex? i l.length = some j
  h2 : l[j]? = some w
  h3 : -(2 ^ 63) ≤ i
  h4 : i < 2 ^ 63
  h5 : 0 ≤ i → j = i.toNat
  h6 : i < 0 → j = (i + l.length).toNat ∧ -(l.length : Int) ≤ i
theorem idx_some {l : List PyData} {i : Int} {w : PyData} (h : idx l i = some w) : ∃ j, IdxAt l i w j := by
  have hb : -(l.length : Int) ≤ i ∧ i < l.length ∧ l.length ≤ sizeLine := Classical.byContradiction fun q => by cases (if_neg q).symm.trans h
  have h := (if_pos hb).symm.trans h
  obtain ⟨h1, h2, h3⟩ := hb
  rw [sizeLine_eq] at h3
  refine ⟨_, ?_, h, by omega, by omega, fun h0 => ?_, fun h0 => ?_⟩
  · unfold seqIndex?
    by_cases hn : i < 0
    · simp only [hn, if_true]; rw [if_pos]; simp; omega
    · simp only [hn, if_false]; rw [if_pos]; simp; omega
  · rw [if_neg (by omega)]
  · exact ⟨by rw [if_pos h0], h1⟩
theorem PVs.getA {P : Params} {h : Heap} {κ : Addr → Kd} {vs : Array Value} {l : List PyData} (p : PVs P h κ vs.toList l) {j : Nat} {w : PyData} (e : l[j]? = some w) : ∃ v, vs[j]? = some v ∧ PV P h κ v w := by
  obtain ⟨v, h1, h2⟩ := p.get e
  exact ⟨v, by simpa using h1, h2⟩
theorem sub_list {v : Value} {x : V} {d : PyData} {l : List PyData} {i : Int} {u : Tok} {w : PyData} (I : Inv S fr g σ s.heap) (r : VR S s.heap g v x) (e : rd σ x = some d) (q : listP d = some l) (hi : idx l i = some w) :
    wpAny S.M A (getItem v (.int i u)) (Is S fr g σ s (.pd w)) Ev s := by
  refine r.listK I e q fun a vs hl p hlen => ?_
  obtain ⟨j, J⟩ := idx_some hi
  obtain ⟨y, h8, h9⟩ := p.getA J.h2
  by_cases hn : i < 0
  · refine wpAny_getItem_list_neg hl hn (by rw [hlen]; exact (J.h6 hn).2) J.h3 ?_ (is_here I (.pd h9))
    rw [hlen, ← (J.h6 hn).1]; exact h8
  · refine wpAny_getItem_list hl (Int.not_lt.mp hn) J.h4 ?_ (is_here I (.pd h9))
    rw [← J.h5 (Int.not_lt.mp hn)]; exact h8
theorem sub_tup {v : Value} {x : V} {d : PyData} {l : List PyData} {i : Int} {u : Tok} {w : PyData} (I : Inv S fr g σ s.heap) (r : VR S s.heap g v x) (e : rd σ x = some d) (q : tupP d = some l) (hi : idx l i = some w) :
    wpAny S.M A (getItem v (.int i u)) (Is S fr g σ s (.pd w)) Ev s := by
  refine r.tupK e q fun a vs hl _ p hlen => ?_
  obtain ⟨j, J⟩ := idx_some hi
  obtain ⟨y, h8, h9⟩ := p.getA J.h2
  exact PyProof.Rows.getItem_tuple hl J.h3 J.h4 (by rw [hlen]; exact J.h1) h8 (is_here I (.pd h9))
theorem sub_dict {da : Addr} {es : List DictEntry} {n : Nat} {kv : List (Str × V)} {k : Str} {t : Tok} {z : V} (I : Inv S fr g σ s.heap) (e1 : s.heap.get? da = some ⟨.type "dict", none, .dict es.toArray n, #[]⟩) (e2 : VEs S s.heap g es kv) (e3 : lookS k kv = some z) : wpAny S.M A (getItem (.ref da) (.str k t)) (Is S fr g σ s z) Ev s := by
  rcases ves_get e2 k with ⟨v, x, h1, h2, h3⟩ | ⟨h1, h2⟩
  · rw [h2] at e3; cases e3
    exact wpAny_getItem_of (knd := sKind S) (k := k) (beq_self_eq_true k) (ves_map e1 e2) h1 (is_same I h3)
  · rw [h2] at e3; cases e3
theorem sub_get (ok : StaOk S) {a b : Value} {x y z : V} (I : Inv S fr g σ s.heap) (ra : VR S s.heap g a x) (rb : VR S s.heap g b y) (he : evSub σ x y = some z) : wpAny S.M A (getItem a b) (Is S fr g σ s z) Ev s := by
  refine alt_e he (fun h => bd_e h fun k hk h => ?_) fun h => bd_e h fun i hi h => bd_e h fun d e h => ?_
  · obtain ⟨t, rfl⟩ := vr_str (strV_e hk ▸ rb)
    refine alt_e h (fun h => bd_e h fun p hp h => ?_) fun h => bd_e h fun l hl h => bd_e hl fun d hp hd => ?_
    · obtain ⟨q, z'⟩ := dctR_e hp
      obtain ⟨da, es, n, rfl, _, _, e1, e2, e3⟩ := (q ▸ ra).refDict ok I z'
      exact sub_dict I e1 e2 h
    · have ra : VR S s.heap g a (.pd (.dict l)) := by rw [← dictP_e hd, ← pdV_e hp]; exact ra
      obtain ⟨da, es, n, kv, rfl, _, e1, e2, e3, e4, _⟩ := ra.pdDict
      exact sub_dict I e1 e2 (by rw [e4]; exact h)
  · obtain ⟨t, rfl⟩ := vr_int (intV_e hi ▸ rb)
    refine alt_e h (fun h => bd_e h fun l hl h => ?_) fun h => bd_e h fun l hl h => ?_
    · refine map_m h fun w hw => ?_
      exact sub_list I ra e hl hw
    · refine map_m h fun w hw => ?_
      exact sub_tup I ra e hl hw
theorem cut_pvs {P : Params} {h : Heap} {κ : Addr → Kd} {vs : Array Value} {l : List PyData} (p : PVs P h κ vs.toList l) (lo hi : Option Int) : PVs P h κ (slicePick vs lo hi none).toList (cut l lo hi) := by
  rw [slicePick_plain]
  have e : vs.size = l.length := by have := p.length; simpa using this
  simp only [cut, e]
  exact (p.drop _).take _
theorem sliceApplied_at {sl : Addr} {vl vu vs : Value} {lo hi st : Option Int} {n : Nat} {Q : Int × Int × Nat → Shared → Prop} (hs : s.heap.IsSliceOf sl vl vu vs) (pl : IsPart vl lo) (pu : IsPart vu hi) (ps : IsPart vs st) (h0 : (st.getD 1 == 0) = false)
    (h : Q ((Builtin.Slice.sliceAdjust lo hi (st.getD 1) n).1, st.getD 1, Builtin.Slice.slicePlaces (Builtin.Slice.sliceAdjust lo hi (st.getD 1) n).1 (Builtin.Slice.sliceAdjust lo hi (st.getD 1) n).2 (st.getD 1)) s) :
    wpAny (model S.prog S.w) A (Builtin.Slice.sliceApplied (.ref sl) (pure (n : Int))) Q Ev s := by
  have part : ∀ {v k} {R : Option Int → Shared → Prop}, IsPart v k → R k s → wpAny (model S.prog S.w) A (Builtin.Slice.slicePartIndex v) R Ev s := by
    intro v k R p r
    cases p with
    | none => exact slicePart_none r
    | int i t => exact slicePart_int r
  obtain ⟨os, hos, hcs, hds⟩ := id hs
  unfold Builtin.Slice.sliceApplied Builtin.Slice.sliceFields
  refine wpAny_bind (wpAny_bind (wpAny_field hos hds (x := vl) rfl (wpAny_bind (wpAny_field hos hds (x := vu) rfl (wpAny_bind (wpAny_field hos hds (x := vs) rfl (wpAny_pure ?_)))))))
  refine wpAny_bind (part ps ?_)
  show wpAny _ _ (if (st.getD 1 == 0) = true then _ else _) _ _ s
  rw [if_neg (by rw [h0]; decide)]
  refine wpAny_bind (part pl (wpAny_bind (part pu (wpAny_bind (wpAny_pure ?_)))))
  exact wpAny_pure h
theorem getItem_tup_slice {t sl : Addr} {items : Array Value} {vl vu vs : Value} {lo hi st : Option Int} {Q : Value → Shared → Prop} {a b c : Int} {k : Nat} (ht : IsTup s.heap t items) (hs : s.heap.IsSliceOf sl vl vu vs) (pl : IsPart vl lo) (pu : IsPart vu hi) (ps : IsPart vs st) (h0 : (st.getD 1 == 0) = false)
    (ea : Builtin.Slice.sliceAdjust lo hi (st.getD 1) items.size = (a, b)) (ec : st.getD 1 = c) (ek : Builtin.Slice.slicePlaces a b c = k)
    (hw : (a == 0 && c == 1 && k == items.size) = true → Q (.ref t) s)
    (h : Q (.ref s.heap.objs.size) { s with heap := s.heap.push { cls := .type "tuple", data := .seq ((List.range k).filterMap fun (j : Nat) => items[(a + (j : Int) * c).toNat]?).toArray } })
    (hz : k ≤ sizeLine) : wpAny (model S.prog S.w) A (getItem (.ref t) (.ref sl)) Q Ev s := by
  subst ec
  have hsz : sizeOk (.seq ((List.range k).filterMap fun (j : Nat) => items[(a + (j : Int) * (st.getD 1)).toNat]?).toArray) := by
    show ((List.range k).filterMap fun (j : Nat) => items[(a + (j : Int) * (st.getD 1)).toNat]?).toArray.size ≤ sizeLine
    rw [List.size_toArray]
    exact Nat.le_trans (List.length_filterMap_le _ _) (by rw [List.length_range]; exact hz)
  obtain ⟨os, hos, hcs, hds⟩ := id hs
  have hTs : s.TypeIs (.ref sl) "slice" := ⟨os, hos, hcs⟩
  unfold getItem
  try with_reducible refine wpAny_holding ?_
  first | refine wpAny_bind (wpAny_pure ?_) | skip
  refine wpAny_bind (wpAny_sequenceKey ht.typeIs (by decide) ?_)
  refine wpAny_bind (wpAny_callSpecial?_slot (name := Str.ofString "__getitem__") ht.typeIs slot_tuple_getitem
    (wpAny_call_entry slot_tuple_getitem ht.typeIs entry_tuple_getitem ?_ (args_tuple_getitem _ _)))
  show wpAny _ _ (Builtin.Tuple.tupleItemsOf (.ref t) >>= _) _ _ s
  refine wpAny_bind (tupleItemsOf_ ht ?_)
  refine wpAny_bind (wpAny_typeOf hTs ?_)
  rw [if_pos (by decide)]
  refine wpAny_bind (sliceApplied_at hs pl pu ps h0 ?_)
  rw [ea, ek]
  show wpAny _ _ (if (a == 0 && st.getD 1 == 1 && k == items.size) = true then _ else _) _ _ s
  have tail : wpAny (model S.prog S.w) A.in1 (Builtin.Tuple.tupleExact ((List.range k).filterMap fun (j : Nat) => items[(a + (j : Int) * (st.getD 1)).toNat]?).toArray) (fun v s' => Q v s') Ev s := wpAny_newObj_type h hsz
  split
  · rename_i q
    unfold Builtin.Tuple.tupleIsExact
    refine wpAny_bind (wpAny_bind (wpAny_typeOf ht.typeIs (wpAny_pure ?_)))
    rw [if_pos (by decide)]
    first
      | exact wpAny_bind (wpAny_rule (wpAny_bind (wpAny_pure (wpAny_pure ⟨_, rfl, wpAny_pure (hw q)⟩))))
      | exact wpAny_bind (wpAny_rule (wpAny_bind (wpAny_pure ⟨_, rfl, wpAny_pure (hw q)⟩)))
      | exact wpAny_bind (wpAny_rule (wpAny_pure ⟨_, rfl, wpAny_pure (hw q)⟩))
  · first
      | exact wpAny_bind (wpAny_mono tail (fun v s' q => wpAny_pure ⟨_, rfl, wpAny_pure q⟩) fun _ _ q => q)
      | exact wpAny_bind (wpAny_mono tail (fun v s' q => wpAny_bind (wpAny_pure (wpAny_pure ⟨_, rfl, wpAny_pure q⟩))) fun _ _ q => q)
theorem clip_n {i : Int} (n : Nat) (h : 0 ≤ i) : (if i < 0 then max (i + n) (if (1 : Int) < 0 then -1 else 0) else min i (if (1 : Int) < 0 then (n : Int) - 1 else n)) = ((clipAt n i : Nat) : Int) := by
  have e : ¬ i < 0 := Int.not_lt.mpr h
  rw [if_neg e, if_neg (by decide), clipAt_cast, if_neg e]
  exact (Int.max_eq_right (Int.le_min.mpr ⟨h, Int.natCast_nonneg n⟩)).symm
theorem adjust_plain {lo hi : Option Int} {n : Nat} (h1 : notNeg lo = true) (h2 : notNeg hi = true) : Builtin.Slice.sliceAdjust lo hi 1 (n : Int) = (((lo.elim 0 (clipAt n) : Nat) : Int), ((hi.elim n (clipAt n) : Nat) : Int)) := by
  refine Prod.ext ?_ ?_
  · cases lo with
    | none => rfl
    | some i => exact clip_n n (of_decide_eq_true h1)
  · cases hi with
    | none => rfl
    | some i => exact clip_n n (of_decide_eq_true h2)
theorem places_plain {a b : Nat} : Builtin.Slice.slicePlaces (a : Int) (b : Int) 1 = b - a := by
  unfold Builtin.Slice.slicePlaces
  rw [if_pos (by decide), Int.ediv_one]
  by_cases h : a < b
  · rw [if_pos (Int.ofNat_lt.mpr h), Int.sub_add_cancel]; exact Int.toNat_sub b a
  · rw [if_neg fun q => h (Int.ofNat_lt.mp q)]; exact (Nat.sub_eq_zero_of_le (Nat.le_of_not_lt h)).symm
theorem clip_le (n : Nat) (i : Option Int) : (i.elim n (clipAt n)) ≤ n := by
  cases i with
  | none => exact Nat.le_refl _
  | some i => exact Int.ofNat_le.mp (by show ((clipAt n i : Nat) : Int) ≤ _; rw [clipAt_cast]; exact Int.max_le.mpr ⟨Int.natCast_nonneg n, Int.min_le_right _ _⟩)
theorem sub_cut (ok : StaOk S) {a : Value} {x : V} {d : PyData} {lo hi : Option Int} {sl : Addr} {vl vu : Value} (I : Inv S fr g σ s.heap) (ra : VR S s.heap g a x) (hs : s.heap.IsSliceOf sl vl vu .none) (pl : IsPart vl lo) (pu : IsPart vu hi) (he : evCut σ x lo hi = some d) :
    wpAny S.M A (getItem a (.ref sl)) (Is S fr g σ s (.pd d)) Ev s := by
  refine bd_e he fun d e h => alt_e h (fun h => bd_e h fun l hl h => ?_) fun h => bd_e h fun l hl h => ?_
  · refine gd_m h fun hz => ?_
    refine ra.listK I e hl fun a vs hl p hlen => ?_
    exact wpAny_getItem_list_slice hl hs pl pu .none (by simp) (is_lst (k := s.toks) ok I (cut_pvs p lo hi)) (by rw [hlen]; exact hz)
  · refine gd_m h fun hz => ?_
    refine ra.tupK e hl fun a vs hl ra p hlen => ?_
    refine getItem_tup_slice (c := 1) hl hs pl pu .none rfl (adjust_plain (n := vs.size) hz.2.1 hz.2.2) rfl places_plain (fun q => ?_) ?_ (Nat.le_trans (Nat.sub_le _ _) (Nat.le_trans (clip_le _ _) (hlen ▸ hz.1)))
    · simp only [Bool.and_eq_true, beq_iff_eq] at q
      obtain ⟨⟨q1, _⟩, q2⟩ := q
      have q1 : lo.elim 0 (clipAt vs.size) = 0 := by exact_mod_cast q1
      rw [q1, Nat.sub_zero] at q2
      have : cut l lo hi = l := by
        show ((l.drop (lo.elim 0 (clipAt l.length))).take (hi.elim l.length (clipAt l.length) - lo.elim 0 (clipAt l.length))) = l
        rw [← hlen, q1, q2, Nat.sub_zero, hlen]
        exact List.take_length
      rw [this]; exact is_here I ra
    · have e2 : ((List.range (hi.elim vs.size (clipAt vs.size) - lo.elim 0 (clipAt vs.size))).filterMap fun (j : Nat) => vs[(((lo.elim 0 (clipAt vs.size) : Nat) : Int) + (j : Int) * 1).toNat]?) = (vs.toList.drop (lo.elim 0 (clipAt vs.size))).take (hi.elim vs.size (clipAt vs.size) - lo.elim 0 (clipAt vs.size)) := by
        rw [← pick_run, List.filterMap_map]
        congr 1
        funext j
        show vs[_]? = vs[lo.elim 0 (clipAt vs.size) + j]?
        congr 1; omega
      show Is S fr g σ s _ _ { s with heap := s.heap.push { cls := .type "tuple", data := .seq (((List.range _).filterMap _).toArray) } }
      rw [e2]
      refine is_tup (k := s.toks) I ?_
      simp only [cut, hlen]
      exact (p.drop _).take _
end

/-! THE WRITTEN PART: what is asked of it -/
structure KOk (S : Sta) : Prop where
  eGet : ∀ x, plainGet S.K S.cev x = true
  eDict : hasDictIn S.K S.cev = true
  eScope : findIn S.K (.ref S.cev) (Str.ofString "scope") = some none
  xGa : ∀ b, findIn S.K (.ref (S.ec b)) "__getattribute__" = some (some (.builtin "BaseException.__getattribute__"))
  xGn : ∀ b, findIn S.K (.ref (S.ec b)) "__getattr__" = some none
  xSub : ∀ b, mroIn S.K (S.ec b) (.type "BaseException") = some true
  xDict : ∀ b, hasDictIn S.K (S.ec b) = true
  xWhat : ∀ b, findIn S.K (.ref (S.ec b)) (Str.ofString "what") = some none
  xSpot : ∀ b, findIn S.K (.ref (S.ec b)) (Str.ofString "spot") = some none

section
variable {prog : Program} {w : World} {A : Around} {E : Value → Shared → Prop} {s : Shared} {K : Frag} {x C : Addr} {ox : Obj} {od : Option Obj} {name : Str} {expr : Bool} {Q : Value → Shared → Prop}
theorem attrName_str {name : Str} {t : Tok} : Builtin.ObjectAttr.attrName (.str name t) = pure name := by rfl
/-- an exception's own attribute -/
theorem get_exc {v : Value} (X : K.In s.heap) (I : InstAt s.heap x ox C od) (hga : findIn K (.ref C) "__getattribute__" = some (some (.builtin "BaseException.__getattribute__"))) (hgn : findIn K (.ref C) "__getattr__" = some none) (hsub : mroIn K C (.type "BaseException") = some true)
    (hf : findObj K C od name = some (.value v)) (hh : handedIn v = true) (h : Q v { s with toks := s.toks + 1 }) : wpAny (model prog w) A (getAttr (.ref x) name expr) Q E s := by
  obtain ⟨hp, gg, d, t, os⟩ := s
  have L0 := I.type (M := model prog w)
  have L1 := looks_findIn (M := model prog w) X hga
  have L2 := looks_findIn (M := model prog w) X hgn
  have L3 := looks_find (M := model prog w) X I hf
  have f3 := PySem.F.attr_Exception.ga.bind (.ref x)
  have hx0 : (expr && onTheHeap (Value.builtin "BaseException.__getattribute__")) = false := by cases expr <;> rfl
  have hx1 : (onTheHeap (Value.ref C) && Value.builtin "BaseException.__getattribute__" == Value.builtin "object.__getattribute__") = false := by
    have : (Value.builtin "BaseException.__getattribute__" == Value.builtin "object.__getattribute__") = false := by decide +kernel
    rw [this]; rfl
  unfold getAttr getAttrBy
  refine wpAny_bind (wpAny_mkText (wpAny_holding (wpAny_bind (L0.at (wpAny_bind (L1.at ?_))))))
  dsimp only
  rw [hx1, if_neg Bool.false_ne_true]
  unfold getAttrByItsOwn hookBefore
  refine wpAny_bind ?_
  show wpAny _ _ (typeLookup (.ref C) "__getattr__") _ _ _
  refine L2.at ?_
  refine wpAny_bind (wpAny_attempt (wpAny_holding ?_))
  unfold callGetattribute
  rw [hx0, if_neg Bool.false_ne_true]
  unfold boundAndCalled
  refine wpAny_bind (wpAny_of_eq f3 ?_)
  refine wpAny_call ?_
  show codeAny (model prog w) A (.call (.builtin "BaseException.__getattribute__") ⟨[.ref x, .str name t], []⟩) _ _
  have hk : builtinKind "BaseException.__getattribute__" = some .slot := by decide +kernel
  have hs : splitId "BaseException.__getattribute__" = some ("BaseException", "__getattribute__") := by decide +kernel
  refine codeAny_call_builtin PySem.F.attr_Exception.ga.plain PySem.F.entry_bexc_ga (@check_slot (model prog w) _ _ ⟨hp, gg, d, t + 1, os⟩ "BaseException.__getattribute__" "BaseException" "__getattribute__" (.ref x) [.str name t] [] _ hk hs (L0.andThen (looks_mroIn X hsub)) (PySem.F.args_bexc_ga (.ref x) (.str name t)) ?_)
  unfold Builtin.«object.__getattribute__»
  refine wpAny_bind (m := slotArgs "__getattribute__" 1 _) (wpAny_pure ?_)
  refine wpAny_bind (wpAny_of_eq attrName_str (wpAny_bind (L0.at (wpAny_bind (L3.at ?_)))))
  show wpAny _ _ (ret v) _ _ _
  refine wpAny_pure ?_
  show wpAny _ _ (handedOut v) _ _ _
  rw [handedOut_of hh]; exact wpAny_pure h
end
section
variable {S : Sta} {fr : List Env} {A : Around} {g : Gh} {σ : Hp} {s : Shared} {Ev : Value → Shared → Prop}
theorem look_ns {h : Heap} {a : Addr} {mp : Str → Option Value} {name : Str} {v : Value} (n : h.Ns a mp) (e : mp name = some v) : ∃ o, h.get? a = some o ∧ lookIn name o = some (some v) := by
  obtain ⟨o, es, ep, ho, hd, _, hf⟩ := n
  refine ⟨o, ho, ?_⟩
  have := hf name
  rw [e] at this
  unfold nsFind findBy at this
  obtain ⟨en, h1, h2⟩ := Option.map_eq_some_iff.mp this
  have h1 : es.find? (fun e => e.key.isStr name) = some en := h1
  unfold lookIn
  rw [hd]
  dsimp only
  rw [Array.find?_toList, h1]
  exact congrArg (fun z => some (some z)) h2
theorem vr_handed {h : Heap} {v : Value} {x : V} (r : VR S h g v x) : handedIn v = true := by
  cases r with
  | pd p => cases p <;> rfl
  | _ => rfl
theorem kIn (ok : StaOk S) (I : Inv S fr g σ s.heap) : S.K.In s.heap := fun a o e => I.stays _ _ (ok.K a o e)
theorem sub_scope (ok : StaOk S) (ko : KOk S) {a : Value} {sc : V} (I : Inv S fr g σ s.heap) (r : VR S s.heap g a (.evr sc)) : wpAny S.M A (getAttr a (Str.ofString "scope") true) (Is S fr g σ s sc) Ev s := by
  cases r with
  | evr k1 k2 e1 e2 hk hh r =>
    rename_i a dx e t n
    have II : InstAt s.heap a (instObj S.cev dx) S.cev (some (dictOf [e] n)) := ⟨e1, rfl, rfl, e2⟩
    refine get_value (kIn ok I) II (plainGet_of (ko.eGet (Str.ofString "scope"))).1 (findObj_own (v := e.val) ko.eDict ko.eScope rfl ?_) (vr_handed r) (is_same I r)
    unfold lookIn
    have : e.key.isStr (Str.ofString "scope") = true := by rw [hk]; exact beq_self_eq_true _
    simp [this]
theorem sub_fault (ok : StaOk S) (ko : KOk S) {ea : Addr} {e : Exc} {b : Bool} {y : Str} {Y : Addr → Prop} (I : Inv S fr g σ s.heap) (x : FaultAt S Y s.heap g ea e) (hy : faultOf y = some b) (hb : b = true → e.lim = false) :
    wpAny S.M A (getAttr (.ref ea) y true) (Is S fr g σ s (.pd (if b then e.spot else .str e.what))) Ev s := by
  obtain ⟨kd, nx, oe, vs, dx, mp, h1, h2, h3, h4, h6, h7, ⟨v1, h8, h9⟩, h10⟩ := x
  have key : ∀ name v d, mp name = some v → PV S.w.params s.heap g.κ v d → findIn S.K (.ref (S.ec e.lim)) name = some none → wpAny S.M A (getAttr (.ref ea) name true) (Is S fr g σ s (.pd d)) Ev s := by
    intro name v d e1 e2 e3
    obtain ⟨od, h11, h12⟩ := look_ns h7 e1
    have I' : InstAt s.heap ea oe (S.ec e.lim) (some od) := ⟨h1, h2, by unfold notCls; rw [h4], by rw [h3]; exact h11⟩
    exact get_exc (kIn ok I) I' (ko.xGa _) (ko.xGn _) (ko.xSub _) (findObj_own (ko.xDict _) e3 rfl h12) (vr_handed (S := S) (g := g) (h := s.heap) (.pd e2)) (is_same I (.pd e2))
  rcases List.mem_cons.mp (lookT_mem hy) with q | q
  · cases q; exact key _ _ _ h8 h9 (ko.xWhat _)
  · rcases List.mem_cons.mp q with q | q
    · cases q
      obtain ⟨v, h11, h12⟩ := h10 (hb rfl)
      exact key _ _ _ h11 h12 (ko.xSpot _)
    · cases q
theorem subOk (ok : StaOk S) (ko : KOk S) : SubOk S := by
  refine ⟨fun r I v hs => ?_, fun r I a b e => sub_get ok I a b e, fun r I a h1 h2 h3 h4 => sub_cut ok I a h1 h2 h3 h4, fun r I v => sub_scope ok ko I v, fun r I x h1 h2 => sub_fault ok ko I x h1 h2⟩
  rename_i A fr g σ s a x Ev
  cases hs with
  | l l e =>
    obtain ⟨a, vs, rfl, hl, p⟩ := v.isList I e
    exact gip_false hl.typeIs slot_list_getitem.lookup ⟨rfl, rfl⟩
  | t l e =>
    obtain ⟨a, vs, rfl, hl, p⟩ := v.isTup e
    exact gip_false hl.typeIs slot_tuple_getitem.lookup ⟨rfl, rfl⟩
  | r i l q e =>
    obtain ⟨da, es, n, rfl, _, _, e1, e2, e3⟩ := (q ▸ v).refDict ok I e
    exact gip_false (ves_map e1 e2).typeIs slot_dict_getitem.lookup ⟨rfl, rfl⟩
  | d l q =>
    obtain ⟨da, es, n, kv, rfl, _, e1, e2, e3, _⟩ := (q ▸ v).pdDict
    exact gip_false (ves_map e1 e2).typeIs slot_dict_getitem.lookup ⟨rfl, rfl⟩
end
end Mine
namespace Mine
open PySem PySem.W PyProof.Rows
set_option genSizeOf false
set_option genInjectivity false
set_option maxRecDepth 100000
set_option maxHeartbeats 3200000
noncomputable abbrev setObj0 (w : World) : Obj := { cls := .type "set", dict := none, data := .set #[] 0 (.fresh 0 0 (!byText w)) }
/-- what a set is made from -/
structure Src (prog : Program) (w : World) (l : Addr) (ol : Obj) (T : String) (itO : Obj) (n : Nat) (P : Nat → Value → Prop) (St : Addr → Nat → Heap → Prop) : Prop where
  cls : ol.cls = .type T
  s1 : isSubtype (.type T) (.type "set") = pure false
  s2 : isSubtype (.type T) (.type "frozenset") = pure false
  nd : (Value.type T == Value.type "dict") = false
  iter : ∀ {A E} {s : Shared} {Q : Value → Shared → Prop}, s.heap.get? l = some ol → Q (.ref s.heap.objs.size) { s with heap := s.heap.push itO } → wpAny (model prog w) A (pyIter (.ref l)) Q E s
  walks : ∀ {A : Around} (I : Addr), A.handled = none → l ≠ I → Walks prog w A I [I, l] [I] n P (St I)
  st0 : ∀ {h : Heap}, h.get? l = some ol → St h.objs.size 0 (h.push itO)
section
variable {prog : Program} {w : World} {A : Around} {E : Value → Shared → Prop} {s : Shared}
theorem set_new (a : Value) {Q : Value → Shared → Prop} (h : Q (.ref s.heap.objs.size) { s with heap := s.heap.push (setObj0 w) }) :
    codeAny (model prog w) A (.call (.builtin "set.__new__") ⟨[.type "set", a], []⟩) (wants Q E) s := by
  refine codeAny_of_tree ?_
  show wpAny _ A.in1 (do checkBuiltinCall "set.__new__" ⟨[.type "set", a], []⟩; again (.builtin "set.__new__" ⟨[.type "set", a], []⟩)) _ _ s
  refine wpAny_bind (wpAny_of_eq (PySem.F.newCall_set_1 a) (wpAny_pure ⟨plainId_quiet PySem.F.plain_set_new _, codeAny_builtin PySem.F.entry_set_new ?_⟩))
  rw [Around.under_plainId PySem.F.plain_set_new _]
  unfold Builtin.«set.__new__» Builtin.Frozenset.newClass
  have hsub := sub_set_self
  obtain ⟨hp, g, d, tk, os⟩ := s
  dsimp only
  wp_walk
  refine wpAny_askSetting (wpAny_pure ?_)
  dsimp only
  simp only [newObj]
  refine wpAny_bind (wpAny_alloc (wpAny_pure ?_))
  exact wpAny_pure h
theorem pl_nil : (#[] : Array Nat) = plc 0 := by decide +kernel
theorem SI.nil {h : Heap} (a : Addr) (e : h.get? a = some (setObj0 w)) : SI prog w h a [] :=
  have G : SetS prog w h a [] := ⟨_, #[], 0, _, 0, e, ⟨rfl, rfl, rfl⟩, rfl, (fun e he => absurd he (by simp)), fun k => by simp, rfl, ⟨rfl, pl_nil, rfl, by decide, rfl⟩, by decide +kernel, rfl, by decide⟩
  ⟨G.setOf, fun _ => G⟩
theorem set_from {l : Addr} {ol itO : Obj} {T : String} {n : Nat} {P : Nat → Value → Prop} {St : Addr → Nat → Heap → Prop} {Q : Value → Shared → Prop} {val : Nat → Int} (hh : A.handled = none) (W : Src prog w l ol T itO n P St)
    (hol : s.heap.get? l = some ol) (hval : ∀ i v, P i v → ∃ t, v = .int (val i) t) (hb : n + 1 < scanBound)
    (h : ∀ (h' : Heap) (tk : Nat), SI prog w h' s.heap.objs.size (firstMet val n) → (∀ b o, s.heap.get? b = some o → h'.get? b = some o) → Q (.ref s.heap.objs.size) { s with heap := h', toks := tk }) :
    wpAny (model prog w) A (call (.type "set") [.ref l]) Q E s := by
  obtain ⟨c, tl, hmro⟩ := PySem.F.called_set.mro
  have hmade := PySem.F.called_set.made
  have hsub := PySem.F.called_set.sub
  refine wpAny_call (codeAny_of_tree ?_)
  show wpAny _ _ (callAny (.type "set") _) _ _ _
  refine wpAny_pure ⟨Code.quiet_builtin _ (by decide +kernel), codeAny_builtin PySem.F.entry_type_call ?_⟩
  rw [Around.under_plain (weight_type_call_type "set" [.ref l] []) rfl]
  have h1 := PySem.F.called_set.notType
  have h2 := PySem.F.called_set.canCreate
  have hct := PySem.F.typeCall_set_1 (.ref l)
  repeat (any_goals (first | assumption | wp_step))
  refine codeAny_mono (set_new (.ref l) (E := E) (Q := fun obj s₁ => obj = .ref s.heap.objs.size ∧ s₁ = { s with heap := s.heap.push (setObj0 w) }) ⟨rfl, rfl⟩) fun r s₁ hr => ?_
  cases r with
  | error e => exact hr
  | ok fl =>
    cases fl with
    | ret obj =>
      obtain ⟨rfl, rfl⟩ := hr
      have hS : (s.heap.push (setObj0 w)).get? s.heap.objs.size = some (setObj0 w) := Heap.get?_push_size _ rfl
      have hT : Shared.TypeIs { s with heap := s.heap.push (setObj0 w) } (.ref s.heap.objs.size) "set" := ⟨_, hS, rfl⟩
      have hli := PySem.F.called_set.init.lookup
      have hbi := PySem.F.called_set.init.bind (.ref s.heap.objs.size)
      repeat (any_goals (first | assumption | wp_step))
      refine codeAny_mono (codeAny_call_builtin (R := wants (fun r s₂ => r = .none ∧ ∃ h' tk, s₂ = { s with heap := h', toks := tk } ∧ SI prog w h' s.heap.objs.size (firstMet val n) ∧
          (∀ b o, s.heap.get? b = some o → h'.get? b = some o)) E) PySem.F.called_set.init.plain PySem.F.entry_set_init (check_set_init_1 hT ?_)) fun r₂ s₂ hr₂ => ?_
      · have hol' : (s.heap.push (setObj0 w)).get? l = some ol := Heap.get?_push_of_some _ hol
        have hsls := W.s1
        have hslf := W.s2
        have hne := W.nd
        have hTl : Shared.TypeIs { s with heap := s.heap.push (setObj0 w) } (.ref l) T := ⟨_, hol', W.cls⟩
        unfold Builtin.«set.__init__» noKeywords Builtin.Frozenset.updateFrom
        generalize hPI : pyIter = PI
        wp_walk
        subst hPI
        refine W.iter hol' ?_
        refine wpAny_bind (wpAny_runValue ?_)
        have hlS : l < s.heap.objs.size := Heap.lt_size hol
        have hh3 : A.in1.in1.in1.handled = none := by simp [hh]
        have hneI : l ≠ (s.heap.push (setObj0 w)).objs.size := by
          rw [Heap.size_push]; exact Nat.ne_of_lt (Nat.lt_succ_of_lt hlS)
        have hSf : s.heap.objs.size ∉ [(s.heap.push (setObj0 w)).objs.size, l] := by
          rw [Heap.size_push]; simp only [List.mem_cons, List.not_mem_nil, or_false, not_or]
          exact ⟨Nat.ne_of_lt (Nat.lt_succ_self _), Nat.ne_of_gt hlS⟩
        refine set_loop ((W.walks _ hh3 hneI).toS) s.heap.objs.size hSf val hval hb n 0 _ (Nat.sub_zero _) (Nat.zero_le _) (W.st0 hol') ?_ fun s' hm hS' => ?_
        · exact SI.nil _ (Heap.get?_push_of_some _ hS)
        · obtain ⟨h', g', d', tk', os'⟩ := s'
          have eg : g' = s.gens := hm.gens
          have ed : d' = s.drawn := hm.drawn
          have eo : os' = s.os := hm.os
          subst eg; subst ed; subst eo
          show wpAny _ _ _ _ _ _
          refine wpAny_pure ?_
          show wpAny _ _ (ret Value.none) _ _ _
          refine wpAny_pure ⟨rfl, h', tk', rfl, hS', fun b o e => ?_⟩
          have hb := Heap.lt_size e
          have hb1 : b ≠ s.heap.objs.size := Nat.ne_of_lt hb
          have hb2 : b ≠ (s.heap.push (setObj0 w)).objs.size := by
            rw [Heap.size_push]; exact Nat.ne_of_lt (Nat.lt_succ_of_lt hb)
          exact hm.heap b o (by simp only [List.mem_cons, List.not_mem_nil, or_false, not_or]; exact ⟨hb1, hb2⟩) (Heap.get?_push_of_some _ (Heap.get?_push_of_some _ e))
      · cases r₂ with
        | error e => exact hr₂
        | ok fl₂ =>
          cases fl₂ with
          | ret r =>
            obtain ⟨rfl, h', tk, rfl, hS', hk'⟩ := hr₂
            repeat (any_goals (first | assumption | wp_step))
            exact h _ _ hS' hk'
          | _ => exact hr₂.elim
    | _ => exact hr.elim
theorem src_list {l : Addr} {ol : Obj} {items : Array Value} {k : Nat} (hc : ol.cls = .type "list") (hd : ol.data = .seq items k) :
    Src prog w l ol "list" { cls := .type "list_iterator", data := .fields #[.ref l, .int 0 0] } items.size (fun i v => items[i]? = some v) (fun I i h => h.IsListIter I l i ∧ h.IsList l items) where
  cls := hc
  s1 := PySem.F.sub_list_set
  s2 := PySem.F.sub_list_frozenset
  nd := by decide
  iter := fun e q => wpAny_pyIter_list ⟨_, e, hc, k, hd⟩ q
  walks := fun I hh ne => Walks.list hh I l ne items
  st0 := fun e => ⟨⟨_, Heap.get?_push_size _ rfl, rfl, rfl⟩, ⟨_, Heap.get?_push_of_some _ e, hc, k, hd⟩⟩
theorem src_tuple {l : Addr} {ol : Obj} {items : Array Value} {k : Nat} (hc : ol.cls = .type "tuple") (hd : ol.data = .seq items k) :
    Src prog w l ol "tuple" { cls := .type "tuple_iterator", data := .fields #[.ref l, .int 0 0] } items.size (fun i v => items[i]? = some v) (fun I i h => h.IsTupleIter I l i ∧ h.IsTuple l items) where
  cls := hc
  s1 := PySem.F.sub_tuple_set
  s2 := PySem.F.sub_tuple_frozenset
  nd := by decide
  iter := fun e q => wpAny_pyIter_tuple ⟨_, e, hc, k, hd⟩ q
  walks := fun I hh ne => Walks.tuple hh I l ne items
  st0 := fun e => ⟨⟨_, Heap.get?_push_size _ rfl, rfl, rfl⟩, ⟨_, Heap.get?_push_of_some _ e, hc, k, hd⟩⟩
end
/-! walking over a set -/
theorem owner_si : Manifest.owners.lookup (String.ofList ['r', 'o', 't', 'a', 'r', 'e', 't', 'i', '_', 't', 'e', 's'].reverse) = some Manifest.sig_set_iterator := by kernel_rfl
theorem slot_si_next : Slot "set_iterator" "__next__" "set_iterator.__next__" :=
  .of (owner := "set_iterator") (n := "__next__") (by rw [typeLookup_type, builtinLookup_eq_fast]; kernel_rfl) (by decide +kernel) (by decide +kernel) (by decide +kernel)
    (by first | exact .inl (by decide +kernel) | exact .inr (by decide +kernel)) (by rw [isSubtype_type]; kernel_rfl)
theorem entry_si_next : entryFor table "set_iterator.__next__" = some Builtin.«set_iterator.__next__» := entryFor_of_tree (by kernel_rfl)
theorem args_si_next (a : Value) : argsOk "set_iterator.__next__" ⟨[a], []⟩ := by
  unfold argsOk; rw [signature?_of (id := "set_iterator.__next__") (n := ['_', '_', 't', 'x', 'e', 'n', '_', '_']) (o := ['r', 'o', 't', 'a', 'r', 'e', 't', 'i', '_', 't', 'e', 's']) (by kernel_rfl) owner_si]; kernel_rfl
theorem slot_si_iter : Slot "set_iterator" "__iter__" "set_iterator.__iter__" :=
  .of (owner := "set_iterator") (n := "__iter__") (by rw [typeLookup_type, builtinLookup_eq_fast]; kernel_rfl) (by decide +kernel) (by decide +kernel) (by decide +kernel)
    (by first | exact .inl (by decide +kernel) | exact .inr (by decide +kernel)) (by rw [isSubtype_type]; kernel_rfl)
theorem entry_si_iter : entryFor table "set_iterator.__iter__" = some Builtin.«dict_keyiterator.__iter__» :=
  entryFor_alias (id' := "dict_keyiterator.__iter__") (by kernel_rfl) (by first | rfl | decide +kernel) (by decide +kernel) (by kernel_rfl)
theorem args_si_iter (a : Value) : argsOk "set_iterator.__iter__" ⟨[a], []⟩ := by
  unfold argsOk; rw [signature?_of (id := "set_iterator.__iter__") (n := ['_', '_', 'r', 'e', 't', 'i', '_', '_']) (o := ['r', 'o', 't', 'a', 'r', 'e', 't', 'i', '_', 't', 'e', 's']) (by kernel_rfl) owner_si]; kernel_rfl
theorem entry_set_iter : entryFor table "set.__iter__" = some Builtin.«frozenset.__iter__» :=
  entryFor_alias (id' := "frozenset.__iter__") (by kernel_rfl) rfl (by decide +kernel) (by kernel_rfl)
theorem erase_perm {α : Type} : ∀ (l : List α) (i : Nat) (h : i < l.length), (l[i] :: l.eraseIdx i).Perm l
  | a :: r, 0, _ => .refl _
  | a :: r, i + 1, h => (List.Perm.swap a _ _).trans ((erase_perm r i (Nat.lt_of_succ_lt_succ h)).cons a)
theorem pick_go {α : Type} (next : Nat → Nat) : ∀ (f k : Nat) (l : List α) (out : Array α), l.length ≤ f → (pickOrder.go next f k l out).toList.Perm (out.toList ++ l)
  | 0, k, l, out, h => by
    have : l = [] := List.length_eq_zero_iff.mp (Nat.le_zero.mp h)
    subst this; rw [List.append_nil]; exact .refl _
  | f + 1, k, l, out, h => by
    show (match l[next k % l.length]? with
      | some x => pickOrder.go next f (k + 1) (l.eraseIdx (next k % l.length)) (out.push x)
      | none => out).toList.Perm _
    cases e : l[next k % l.length]? with
    | none =>
      have : l = [] := by
        cases l with
        | nil => rfl
        | cons a r => exact absurd (List.getElem?_eq_none_iff.mp e) (Nat.not_le.mpr (Nat.mod_lt _ (by simp)))
      subst this; rw [List.append_nil]
    | some x =>
      obtain ⟨lt, ex⟩ := List.getElem?_eq_some_iff.mp e
      refine (pick_go next f (k + 1) _ _ (by rw [List.length_eraseIdx_of_lt lt]; omega)).trans ?_
      rw [Array.toList_push, List.append_assoc]
      refine List.Perm.append_left _ ?_
      rw [← ex]
      exact erase_perm _ _ lt
/-- the order of the walk -/
noncomputable def ordA (w : World) (a : Addr) (ep : Nat) (es : Array (Int × Value)) : Array (Int × Value) := if byText w = true then pickOrder (w.params.setOrder a ep) es else es
theorem ord_perm (w : World) (a : Addr) (ep : Nat) (es : Array (Int × Value)) : (ordA w a ep es).toList.Perm es.toList := by
  unfold ordA
  split
  · exact pick_go _ _ _ _ _ (Nat.le_of_eq Array.length_toList)
  · exact .refl _
noncomputable def SetIt (h : Heap) (it a : Addr) (slot i n ep : Nat) : Prop := h.get? it = some { cls := .type "set_iterator", data := .fields #[.int slot 0, .int i 0, .ref a, .int n 0, .int ep 0] }
noncomputable abbrev slotOk (w : World) (t : SetTable) (slot i : Nat) : Prop := byText w = false → SetTable.below t.place slot = i
section
variable {prog : Program} {w : World} {A : Around} {E : Value → Shared → Prop} {s : Shared} {a it : Addr} {l : List Int} {o : Obj} {es : Array (Int × Value)} {ep : Nat} {t : SetTable} {m : Nat}
theorem set_iter {Q : Value → Shared → Prop} (G : SetG prog w s.heap a l o es ep t m)
    (h : Q (.ref s.heap.objs.size) { s with heap := s.heap.push { cls := .type "set_iterator", data := .fields #[.int (0 : Nat) 0, .int (0 : Nat) 0, .ref a, .int es.size 0, .int ep 0] } }) : wpAny (model prog w) A (pyIter (.ref a)) Q E s := by
  have hT : s.TypeIs (.ref a) "set" := ⟨o, G.at_, G.ex.1⟩
  refine wpAny_pyIter_slot hT PySem.F.slot_set_iter (wpAny_call_entry PySem.F.slot_set_iter hT entry_set_iter ?_ (PySem.F.args_set_iter_1 _))
  unfold Builtin.«frozenset.__iter__» Builtin.Frozenset.slot0 slotArgs
  refine wpAny_bind (wpAny_bind (wpAny_pure (wpAny_pure ?_)))
  unfold Builtin.Frozenset.sizeOf
  refine wpAny_bind (wpAny_bind (wpAny_setEntries_of G.at_ G.data G.fits (wpAny_pure ?_)))
  unfold setDrawn
  refine wpAny_bind (wpAny_bind (wpAny_setState_of G.at_ G.data G.fits ?_))
  unfold setsByText
  refine wpAny_bind (wpAny_bind (wpAny_askSetting (wpAny_pure (wpAny_pure ?_))))
  have pl : (!byText w && (!t.plain && decide (es.size > 1))) = false := by rw [G.tab.plain]; cases byText w <;> rfl
  show wpAny _ _ (if (!byText w && (!t.plain && decide (es.size > 1))) = true then _ else (pure (rawInt 0) >>= _)) _ _ _
  rw [if_neg (by rw [pl]; exact Bool.false_ne_true)]
  refine wpAny_bind (wpAny_pure ?_)
  unfold setEpoch
  refine wpAny_bind (wpAny_bind (wpAny_setState_of G.at_ G.data G.fits (wpAny_pure ?_)))
  exact wpAny_bind (wpAny_newObj_type (wpAny_pure ⟨_, rfl, "set_iterator", _, ⟨_, Heap.get?_push_size _ rfl, rfl⟩, slot_si_next.lookup, h⟩))
theorem set_self {slot i n : Nat} {Q : Value → Shared → Prop} (H : SetIt s.heap it a slot i n ep) (h : Q (.ref it) s) : wpAny (model prog w) A (pyIter (.ref it)) Q E s := by
  have hT : s.TypeIs (.ref it) "set_iterator" := ⟨_, H, rfl⟩
  refine wpAny_pyIter_slot hT slot_si_iter (wpAny_call_entry slot_si_iter hT entry_si_iter ?_ (args_si_iter _))
  exact wpAny_pure ⟨_, rfl, "set_iterator", _, hT, slot_si_next.lookup, h⟩
/-- the next one, or none -/
theorem set_next1 (G : SetG prog w s.heap a l o es ep t m) {slot i : Nat} (hs : slotOk w t slot i) {Q : Option (Value × Nat) → Shared → Prop}
    (h : ∀ r, (∀ x nx, r = some (x, nx) → ∃ e, (ordA w a ep es)[i]? = some e ∧ x = e.2 ∧ slotOk w t nx (i + 1)) → (r = none → es.size ≤ i) → Q r s) : wpAny (model prog w) A (setNext a slot i ep) Q E s := by
  unfold setNext
  refine wpAny_bind (wpAny_setState_of G.at_ G.data G.fits ?_)
  unfold setsByText
  refine wpAny_bind (wpAny_bind (wpAny_askSetting (wpAny_pure ?_)))
  dsimp only
  have sz : (ordA w a ep es).size = es.size := by rw [← Array.length_toList, (ord_perm w a ep es).length_eq, Array.length_toList]
  by_cases q : byText w = true
  · show wpAny _ _ (if byText w = true then _ else _) _ _ _
    rw [if_pos q]
    show wpAny _ _ (if (ep != ep) = true then _ else _) _ _ _
    rw [if_neg (by simp)]
    unfold setWalk
    refine wpAny_bind (wpAny_bind (wpAny_setState_of G.at_ G.data G.fits ?_))
    unfold setsByText
    refine wpAny_bind (wpAny_bind (wpAny_askSetting (wpAny_pure ?_)))
    show wpAny _ _ (if byText w = true then _ else _) _ _ _
    rw [if_pos q]
    refine wpAny_bind (wpAny_askSetting (wpAny_pure (wpAny_pure (h _ (fun x nx e => ?_) fun e => ?_))))
    · obtain ⟨e1, h1, h2⟩ := Option.map_eq_some_iff.mp e
      cases h2
      exact ⟨e1, by unfold ordA; rw [if_pos q]; exact h1, rfl, fun z => by rw [q] at z; cases z⟩
    · have := Option.map_eq_none_iff.mp e
      have : (ordA w a ep es)[i]? = none := by unfold ordA; rw [if_pos q]; exact this
      rw [← sz]; exact Array.getElem?_eq_none_iff.mp this
  · have q : byText w = false := by cases z : byText w with | true => exact absurd z q | false => rfl
    show wpAny _ _ (if byText w = true then _ else _) _ _ _
    rw [if_neg (by rw [q]; exact Bool.false_ne_true)]
    show wpAny _ _ (if (!t.plain && decide (es.size > 1)) = true then _ else _) _ _ _
    rw [if_neg (by rw [G.tab.plain]; exact Bool.false_ne_true)]
    show wpAny _ _ ((if (!t.led && !es.isEmpty) = true then _ else pure ()) >>= _) _ _ _
    rw [G.led, q, if_neg (by exact Bool.false_ne_true)]
    refine wpAny_bind (wpAny_pure ?_)
    rw [hs q]
    have oe : ordA w a ep es = es := by unfold ordA; rw [if_neg (by rw [q]; exact Bool.false_ne_true)]
    have hp : t.place[i]? = (plL m)[i]? := by rw [G.tab.place]; exact List.getElem?_toArray
    cases e1 : es[i]? with
    | none => exact wpAny_pure (h _ (fun x nx e => nomatch e) fun _ => Array.getElem?_eq_none_iff.mp e1)
    | some e =>
      have lt : i < (plL m).length := by rw [G.cnt]; exact (Array.getElem?_eq_some_iff.mp e1).1
      have e2 : t.place[i]? = some ((plL m)[i]) := hp.trans (List.getElem?_eq_getElem lt)
      rw [e2]
      refine wpAny_pure (h _ (fun x nx z => ?_) fun z => nomatch z)
      cases z
      refine ⟨e, by rw [oe]; exact e1, rfl, fun _ => ?_⟩
      rw [G.tab.place]
      have := pl_next m (Nat.lt_trans G.tab.lt (by decide)) i lt
      rw [List.getD_eq_getElem?_getD, List.getElem?_eq_getElem lt] at this
      exact this
end
section
variable {prog : Program} {w : World} {A : Around} {E : Value → Shared → Prop} {s : Shared} {a it : Addr} {l : List Int} {o : Obj} {es : Array (Int × Value)} {ep : Nat} {t : SetTable} {m : Nat}
theorem SetG.at' {h h' : Heap} (G : SetG prog w h a l o es ep t m) (e : ∀ o, h.get? a = some o → h'.get? a = some o) : SetG prog w h' a l o es ep t m := { G with at_ := e _ G.at_ }
theorem set_pyNext (hh : A.handled = none) (G : SetG prog w s.heap a l o es ep t m) {slot i : Nat} (H : SetIt s.heap it a slot i es.size ep) (hs : slotOk w t slot i) {Q : Option Value → Shared → Prop}
    (hi : ∀ e h' nx, (ordA w a ep es)[i]? = some e → slotOk w t nx (i + 1) → SetIt h' it a nx (i + 1) es.size ep → Heap.ExtBut it s.heap h' → Q (some e.2) { s with heap := h' })
    (hd : es.size ≤ i → ∀ h', Heap.ExtBut it s.heap h' → Q none { s with heap := h' }) : wpAny (model prog w) A (pyNext (.ref it)) Q E s := by
  have hT : s.TypeIs (.ref it) "set_iterator" := ⟨_, H, rfl⟩
  unfold pyNext
  refine wpAny_bind (wpAny_attempt (wpAny_callSpecial?_slot (name := Str.ofString "__next__") hT slot_si_next (wpAny_call_entry slot_si_next hT entry_si_next ?_ (args_si_next _))))
  unfold Builtin.«set_iterator.__next__» slotArgs
  refine wpAny_bind (wpAny_pure ?_)
  refine wpAny_bind (wpAny_fieldsOf H rfl ?_)
  refine wpAny_bind (wpAny_setEntries_of G.at_ G.data G.fits ?_)
  rw [if_neg (by simp)]
  simp only [Int.toNat_natCast]
  refine wpAny_bind (set_next1 G hs fun r hr hn => ?_)
  cases r with
  | some p =>
    obtain ⟨x, nx⟩ := p
    obtain ⟨e, h1, h2, h3⟩ := hr x nx rfl
    subst h2
    dsimp only
    refine wpAny_bind (wpAny_setField H rfl (by simp) ?_)
    have H1 := Heap.get?_update_self (Obj.mapFields (·.setIfInBounds 0 (rawInt (nx : Int)))) H rfl
    refine wpAny_bind (wpAny_setField H1 rfl (by simp) ?_)
    have H2 := Heap.get?_update_self (Obj.mapFields (·.setIfInBounds 1 (rawInt ((i : Int) + 1)))) H1 rfl
    refine wpAny_pure ⟨_, rfl, ?_⟩
    exact wpAny_pure (hi e _ nx h1 h3 H2 (((Heap.SameBut.update s.heap it _).trans (Heap.SameBut.update _ it _)).extBut))
  | none =>
    dsimp only
    refine wpAny_bind (wpAny_setField H rfl (by simp) ?_)
    show wpAny _ _ (newExc (.type "StopIteration") [] >>= _) _ _ _
    refine wpAny_bind ?_
    simp only [newExc, newTuple]
    refine wpAny_bind (wpAny_newObj_type ?_ (by size_fits))
    refine wpAny_bind (m := firstArgMember _ _) (wpAny_of_eq (a := Value.none) (by first | rfl | (simp only [firstArgMember]; rfl)) ?_)
    refine wpAny_newObj_type ?_ (by size_fits)
    simp only [raiseNew]
    refine wpAny_bind (wpAny_handled ?_)
    rw [show A.in1.handled = none from hh]
    refine wpAny_bind (wpAny_pure (wpAny_throw ?_))
    refine wpAny_bind (wpAny_isInstance (T := "StopIteration") (b := true) ⟨_, Heap.get?_push_size _ rfl, rfl⟩ isSubtype_stop ?_)
    exact wpAny_pure (hd (hn rfl) _ (((Heap.SameBut.update ..).extBut.push _).push _))
theorem ord_size (w : World) (a : Addr) (ep : Nat) (es : Array (Int × Value)) : (ordA w a ep es).size = es.size := by
  rw [← Array.length_toList, (ord_perm w a ep es).length_eq, Array.length_toList]
theorem walks_set (hh : A.handled = none) (I : Addr) (hne : a ≠ I) : Walks prog w A I [I, a] [I] es.size (fun i v => ∃ e, (ordA w a ep es)[i]? = some e ∧ v = e.2)
    (fun i h => (∃ slot, SetIt h I a slot i es.size ep ∧ slotOk w t slot i) ∧ SetG prog w h a l o es ep t m) where
  sub := fun b hb => by simp at hb; simp [hb]
  frame := fun _ _ _ st hk => by
    obtain ⟨⟨slot, h1, h2⟩, G⟩ := st
    exact ⟨⟨slot, hk I (by simp) _ h1, h2⟩, G.at' fun o e => hk a (by simp) o e⟩
  item := fun i s Q E hi st hQ => by
    obtain ⟨⟨slot, h1, h2⟩, G⟩ := st
    refine set_pyNext hh G h1 h2 (fun e h' nx q1 q2 q3 q4 => ?_) fun q => absurd hi (Nat.not_lt.mpr q)
    exact hQ _ h' s.toks ⟨e, q1, rfl⟩ ⟨⟨nx, q3, q2⟩, G.at' fun o e => q4 a o hne e⟩ fun b o hb e => q4 b o (fun h => hb (by simp [h])) e
  done := fun s Q E st hQ => by
    obtain ⟨⟨slot, h1, h2⟩, G⟩ := st
    refine set_pyNext hh G h1 h2 (fun e h' nx q1 q2 q3 q4 => ?_) fun q h' q4 => ?_
    · have := (Array.getElem?_eq_some_iff.mp q1).1
      rw [ord_size] at this
      exact absurd this (Nat.lt_irrefl _)
    · exact hQ h' s.toks fun b o hb e => q4 b o (fun h => hb (by simp [h])) e
  self := fun _ _ _ _ st hQ => by
    obtain ⟨⟨slot, h1, h2⟩, G⟩ := st
    exact set_self h1 hQ
end
noncomputable abbrev Kept (s : Shared) (h' : Heap) : Prop := ∀ b o, s.heap.get? b = some o → h'.get? b = some o
section
variable {prog : Program} {w : World} {A : Around} {E : Value → Shared → Prop} {s : Shared} {a it : Addr} {l : List Int} {o : Obj} {es : Array (Int × Value)} {ep : Nat} {t : SetTable} {m : Nat}
theorem set_hint (G : SetG prog w s.heap a l o es ep t m) {Q : Bool → Shared → Prop} (h : Q false s) : wpAny (model prog w) A (Builtin.List.listLengthHint (.ref a)) Q E s := by
  have hT : s.TypeIs (.ref a) "set" := ⟨o, G.at_, G.ex.1⟩
  unfold Builtin.List.listLengthHint
  refine wpAny_bind (wpAny_specialOf hT PySem.F.slot_set_len.lookup ?_)
  have sp : splitId "set.__len__" = some ("set", "__len__") := by decide +kernel
  dsimp only
  rw [sp]
  dsimp only
  refine wpAny_bind (wpAny_isInstance hT sub_set_self ?_)
  simp only [Bool.not_true, Bool.false_eq_true, if_false]
  refine wpAny_bind (m := typeOf (.ref a)) (wpAny_typeOf hT ?_)
  exact wpAny_pure h
theorem collect_set (hh : A.handled = none) (G : SetG prog w s.heap a l o es ep t m) {Q : List Value → Shared → Prop}
    (h : ∀ h' tk, Kept s h' → Q ((ordA w a ep es).toList.map (·.2)) { s with heap := h', toks := tk }) : wpAny (model prog w) A (collect (.ref a)) Q E s := by
  have hlt : a < s.heap.objs.size := Heap.lt_size G.at_
  unfold collect
  refine wpAny_bind (wpAny_runValue (codeAny_builtin PySem.F.entry_proto_collect ?_))
  rw [Around.under_plainId PySem.F.plain_proto_collect _]
  show wpAny _ A.in1 (newList [] >>= fun l => again (.builtin "list.__iadd__" ⟨[l, .ref a], []⟩)) _ _ s
  refine wpAny_bind (wpAny_newObj_type ?_)
  refine wpAny_pure ⟨plainId_quiet PySem.F.plain_list_iadd _, codeAny_builtin PySem.F.entry_list_iadd ?_⟩
  rw [Around.under_plainId PySem.F.plain_list_iadd _]
  have G1 : SetG prog w (s.heap.push { cls := .type "list", data := .seq ([] : List Value).toArray }) a l o es ep t m := G.at' fun o e => Heap.get?_push_of_some _ e
  show wpAny _ A.in1 (Builtin.List.listExtendWith (.ref s.heap.objs.size) (.ref a) (.ref s.heap.objs.size)) _ _ _
  unfold Builtin.List.listExtendWith
  refine wpAny_bind (wpAny_typeOf (T := "set") ⟨o, G1.at_, G.ex.1⟩ ?_)
  have h1 : Builtin.List.listSameRef (.ref s.heap.objs.size) (.ref a) = false := by
    show (s.heap.objs.size == a) = false
    rw [beq_eq_false_iff_ne]; exact Nat.ne_of_gt hlt
  have h2 : (Value.type "set" == Value.type "list") = false := by decide
  have h3 : (Value.type "set" == Value.type "tuple") = false := by decide
  simp only [h1, h2, h3, Bool.or_false, Bool.false_eq_true, if_false]
  refine wpAny_bind (set_iter (s := { s with heap := s.heap.push { cls := .type "list", data := .seq ([] : List Value).toArray } }) G1 ?_)
  refine wpAny_bind (wpAny_holding (set_hint (s := { s with heap := (s.heap.push { cls := .type "list", data := .seq ([] : List Value).toArray }).push _ }) (G1.at' fun o e => Heap.get?_push_of_some _ e) ?_))
  show wpAny _ A.in1 (rule "list.extend.makes-room" >>= fun _ => Builtin.List.listTouch (.ref s.heap.objs.size) >>= fun _ =>
    again (.builtin "list.extend.loop" ⟨[.ref s.heap.objs.size, .ref (s.heap.push { cls := .type "list", data := .seq ([] : List Value).toArray }).objs.size, .ref s.heap.objs.size], []⟩)) _ _ _
  refine wpAny_bind (wpAny_rule ?_)
  generalize hI : (s.heap.push { cls := .type "list", data := .seq ([] : List Value).toArray }).objs.size = I
  have eI : I = s.heap.objs.size + 1 := by rw [← hI, Heap.size_push]
  have hS0 : (s.heap.push { cls := .type "list", data := .seq ([] : List Value).toArray }).get? s.heap.objs.size = some { cls := .type "list", data := .seq ([] : List Value).toArray } := Heap.get?_push_size _ rfl
  generalize hH : (s.heap.push { cls := .type "list", data := .seq ([] : List Value).toArray }) = H at hS0 G1 hI
  have kH : ∀ b o, s.heap.get? b = some o → H.get? b = some o := fun b o e => by rw [← hH]; exact Heap.get?_push_of_some _ e
  have hS1 : (H.push { cls := .type "set_iterator", data := .fields #[.int (0 : Nat) 0, .int (0 : Nat) 0, .ref a, .int es.size 0, .int ep 0] }).get? s.heap.objs.size = some { cls := .type "list", data := .seq ([] : List Value).toArray } := Heap.get?_push_of_some _ hS0
  have hI1 : (H.push { cls := .type "set_iterator", data := .fields #[.int (0 : Nat) 0, .int (0 : Nat) 0, .ref a, .int es.size 0, .int ep 0] }).get? I = some { cls := .type "set_iterator", data := .fields #[.int (0 : Nat) 0, .int (0 : Nat) 0, .ref a, .int es.size 0, .int ep 0] } := by rw [← hI]; exact Heap.get?_push_size _ rfl
  have kH1 : ∀ b o, s.heap.get? b = some o → (H.push { cls := .type "set_iterator", data := .fields #[.int (0 : Nat) 0, .int (0 : Nat) 0, .ref a, .int es.size 0, .int ep 0] }).get? b = some o := fun b o e => Heap.get?_push_of_some _ (kH b o e)
  generalize (H.push { cls := .type "set_iterator", data := .fields #[.int (0 : Nat) 0, .int (0 : Nat) 0, .ref a, .int es.size 0, .int ep 0] }) = H1 at hS1 hI1 kH1
  refine wpAny_bind ?_
  show wpAny _ A.in1 (updateSeq s.heap.objs.size (·.push .none) >>= fun _ => updateSeq s.heap.objs.size (·.pop)) _ _ _
  refine wpAny_bind (wpAny_updateSeq hS1 rfl ?_)
  have hS2 := Heap.get?_update_self (Obj.mapSeq (·.push Value.none)) hS1 rfl
  refine wpAny_updateSeq hS2 rfl ?_
  have hS3 := Heap.get?_update_self (Obj.mapSeq (·.pop)) hS2 rfl
  have oth : ∀ b o, b ≠ s.heap.objs.size → H1.get? b = some o → ((H1.update s.heap.objs.size (Obj.mapSeq (·.push Value.none))).update s.heap.objs.size (Obj.mapSeq (·.pop))).get? b = some o :=
    fun b o hb e => (Heap.get?_update_other _ _ (Ne.symm hb)).trans ((Heap.get?_update_other _ _ (Ne.symm hb)).trans e)
  have nSI : s.heap.objs.size ≠ I := by rw [eI]; exact Nat.ne_of_lt (Nat.lt_succ_self _)
  have nIa : a ≠ I := by rw [eI]; exact Nat.ne_of_lt (Nat.lt_succ_of_lt hlt)
  have nSa : s.heap.objs.size ≠ a := Nat.ne_of_gt hlt
  have W := (walks_set (prog := prog) (w := w) (A := A.in1) (l := l) (o := o) (es := es) (ep := ep) (t := t) (m := m) (a := a) hh I nIa).toS
  refine wpAny_pure ⟨plainId_quiet PySem.F.plain_extend_loop _, codeAny_extend_loopS W (by have := G.small; rw [sizeLine_eq]; omega) s.heap.objs.size (by simp only [List.mem_cons, List.not_mem_nil, or_false, not_or]; exact ⟨nSI, nSa⟩) (.ref s.heap.objs.size) es.size 0 _ _ _ (Nat.sub_zero _) (Nat.zero_le _) ?_ hS3 (ItemsOf.nil _) fun s' acc' c' hm hS' hacc => ?_⟩
  · exact ⟨⟨0, oth I _ nSI.symm hI1, fun _ => by rw [G.tab.place]; exact pl_zero m (Nat.lt_trans G.tab.lt (by decide))⟩, G.at' fun o e => oth a o nSa.symm (kH1 a o e)⟩
  · show wpAny _ A (load s.heap.objs.size >>= _) _ _ s'
    refine wpAny_bind (wpAny_load hS' ?_)
    obtain ⟨h', g', d', tk', os'⟩ := s'
    have eg : g' = s.gens := hm.gens
    have ed : d' = s.drawn := hm.drawn
    have eo : os' = s.os := hm.os
    subst eg; subst ed; subst eo
    have ea : acc'.toList = (ordA w a ep es).toList.map (·.2) := by
      refine List.ext_getElem? fun j => ?_
      obtain ⟨z1, z2⟩ := hacc
      rw [List.getElem?_map]
      cases q : acc'.toList[j]? with
      | some v =>
        obtain ⟨e, q1, q2⟩ := z2 j v (by rw [← Array.getElem?_toList]; exact q)
        rw [Array.getElem?_toList, q1, q2]; rfl
      | none =>
        have := List.getElem?_eq_none_iff.mp q
        rw [Array.length_toList, z1] at this
        rw [List.getElem?_eq_none (by rw [Array.length_toList, ord_size]; exact this)]; rfl
    show wpAny _ _ (pure acc'.toList) _ _ _
    rw [ea]
    refine wpAny_pure (h h' tk' fun b o e => ?_)
    have lt := Heap.lt_size e
    exact hm.heap b o (by simp only [List.mem_cons, List.not_mem_nil, or_false, not_or]; exact ⟨Nat.ne_of_lt lt, by rw [eI]; exact Nat.ne_of_lt (Nat.lt_succ_of_lt lt)⟩) (oth b o (Nat.ne_of_lt lt) (kH1 b o e))
end
section
variable {prog : Program} {w : World} {A : Around} {E : Value → Shared → Prop} {s : Shared}
theorem collect_seq {T : String} {b : Addr} {ob : Obj} {vs : List Value} {n : Nat} (hT : T = "list" ∨ T = "tuple") (ho : s.heap.get? b = some ob) (hc : ob.cls = .type T) (hd : ob.data = .seq vs.toArray n) (hz : vs.length ≤ sizeLine) {Q : List Value → Shared → Prop}
    (h : ∀ h' tk, Kept s h' → Q vs { s with heap := h', toks := tk }) : wpAny (model prog w) A (collect (.ref b)) Q E s := by
  have lt := Heap.lt_size ho
  unfold collect
  refine wpAny_bind (wpAny_runValue (codeAny_builtin PySem.F.entry_proto_collect ?_))
  show wpAny _ _ (do again (.builtin "list.__iadd__" ⟨[← newList [], .ref b], []⟩)) _ _ s
  refine wpAny_bind (wpAny_newList (wpAny_pure ⟨Code.quiet_builtin _ (by decide +kernel), codeAny_builtin PySem.F.entry_list_iadd ?_⟩))
  show wpAny _ _ (Builtin.List.listExtendWith (.ref s.heap.objs.size) (.ref b) (.ref s.heap.objs.size)) _ _ { s with heap := s.heap.push (seqObj "list" #[] 0) }
  unfold Builtin.List.listExtendWith
  have ho' : (s.heap.push (seqObj "list" #[] 0)).get? b = some ob := Heap.get?_push_of_some _ ho
  refine wpAny_bind (wpAny_typeOf (T := T) ⟨ob, ho', hc⟩ ?_)
  have ht : ((Builtin.List.listSameRef (.ref s.heap.objs.size) (.ref b) || Value.type T == .type "list") || Value.type T == .type "tuple") = true := by
    rcases hT with rfl | rfl
    · rw [show (Value.type "list" == .type "list") = true from rfl, Bool.or_true]; rfl
    · rw [show (Value.type "tuple" == .type "tuple") = true from rfl, Bool.or_true]
  rw [if_pos ht]
  refine wpAny_bind (listItems_at ho' hd ?_)
  refine wpAny_bind (listItems_at (xs := #[]) (n := 0) (Heap.get?_push_size _ rfl) rfl ?_)
  rw [if_neg (by simp)]
  refine wpAny_bind (listUpdate_at (xs := #[]) (n := 0) (Heap.get?_push_size _ rfl) rfl ?_ (Nat.zero_le _) (by show (#[] ++ vs.toArray).size ≤ sizeLine + 1; simp only [Array.size_append, List.size_toArray, List.length_nil]; omega))
  refine wpAny_pure ?_
  show wpAny (model prog w) A (load s.heap.objs.size >>= _) Q E { s with heap := (s.heap.push (seqObj "list" #[] 0)).update s.heap.objs.size (Obj.mapSeq (· ++ vs.toArray)) }
  refine wpAny_bind (wpAny_load (get?_update_seq (Heap.get?_push_size _ rfl) _) ?_)
  show wpAny _ _ (pure ((#[] : Array Value) ++ vs.toArray).toList) Q E _
  rw [show ((#[] : Array Value) ++ vs.toArray).toList = vs by simp]
  refine wpAny_pure (h _ s.toks fun c o e => ?_)
  have lc := Heap.lt_size e
  rw [Heap.get?_update_ne _ _ _ _ (Nat.ne_of_lt lc)]
  exact Heap.get?_push_of_some _ e
theorem sorted_of {src : Value} {vs : List Value} {ns : List Int} {Q : Value → Shared → Prop} (hh : A.handled = none)
    (col : ∀ {A' : Around} {Q' : List Value → Shared → Prop} {E' : Value → Shared → Prop}, A'.handled = none → (∀ h' tk, Kept s h' → Q' vs { s with heap := h', toks := tk }) → wpAny (model prog w) A' (collect src) Q' E' s)
    (hI : IntsAre vs ns) (h64 : vs.length < 64)
    (h : ∀ (h' : Heap) (tk : Nat) (b : Addr) (out : Array Value) (e : Nat) (ns' : List Int), h'.get? b = some (seqObj "list" out e) → s.heap.get? b = none → Kept s h' → IntsAre out.toList ns' → ns'.Perm ns → ns'.Pairwise (· ≤ ·) → Q (.ref b) { s with heap := h', toks := tk }) :
    wpAny (model prog w) A (call (.builtin "sorted") [src]) Q E s := by
  refine Calls.call_function_entry kind_sorted plain_sorted entry_sorted (args_sorted1 _) ?_
  unfold Builtin.«sorted»
  refine wpAny_bind (m := checkCount "sorted" 1 1 _) (wpAny_pure ?_)
  refine wpAny_bind (col hh fun h1 tk kp => ?_)
  refine wpAny_bind (wpAny_newList ?_)
  have hoL : (h1.push (seqObj "list" vs.toArray 0)).get? h1.objs.size = some (seqObj "list" vs.toArray 0) := Heap.get?_push_size _ rfl
  show wpAny _ _ _ _ _ { s with heap := h1.push (seqObj "list" vs.toArray 0), toks := tk }
  refine wpAny_bind (wpAny_holding (wpAny_call_entry slot_list_sort ⟨_, hoL, rfl⟩ entry_list_sort (list_sort_tree hoL hI h64 fun out ns' a1 a2 a3 => ⟨_, rfl, ?_⟩) (args_list_sort _)))
  have old : ∀ b o, h1.get? b = some o → (sortedHeap (h1.push (seqObj "list" vs.toArray 0)) h1.objs.size vs out).get? b = some o := fun b o e => by
    have lb := Heap.lt_size e
    rw [sortedHeap_old (Nat.ne_of_lt lb) (by rw [size_push']; exact Nat.lt_succ_of_lt lb)]
    exact Heap.get?_push_of_some _ e
  obtain ⟨e, he⟩ := sortedHeap_at (out := out) hoL
  refine wpAny_pure ⟨_, rfl, h _ tk h1.objs.size out e ns' he ?_ (fun b o q => old b o (kp b o q)) a1 a2 a3⟩
  cases q : s.heap.get? h1.objs.size with
  | none => rfl
  | some o => exact absurd (Heap.lt_size (kp _ _ q)) (Nat.lt_irrefl _)
end
section
variable {prog : Program} {w : World} {A : Around} {E : Value → Shared → Prop} {s : Shared}
theorem collect_range {r : Addr} {a b : Int} {t u v : Tok} {n : Nat} (hh : A.handled = none) (hr : IsRange s.heap r a b 1 t u v) (hsmall : Builtin.Range.small a b 1 = true) (hn : Builtin.Range.rangeSize a b 1 = n) (hlen : n ≤ 2 ^ 24) {Q : List Value → Shared → Prop}
    (h : ∀ h' tk acc, Kept s h' → ItemsOf (fun i v => ∃ t, v = Value.int (a + i * 1) t) acc n → Q acc.toList { s with heap := h', toks := tk }) : wpAny (model prog w) A (collect (.ref r)) Q E s := by
  unfold collect
  refine wpAny_bind (wpAny_runValue (codeAny_builtin PySem.F.entry_proto_collect ?_))
  rw [Around.under_plainId PySem.F.plain_proto_collect _]
  show wpAny _ A.in1 (newList [] >>= fun l => again (.builtin "list.__iadd__" ⟨[l, .ref r], []⟩)) _ _ s
  refine wpAny_bind (wpAny_newObj_type ?_)
  refine wpAny_pure ⟨plainId_quiet PySem.F.plain_list_iadd _, codeAny_builtin PySem.F.entry_list_iadd ?_⟩
  rw [Around.under_plainId PySem.F.plain_list_iadd _]
  have hS : (s.heap.push { cls := .type "list", data := .seq #[] }).get? s.heap.objs.size = some { cls := .type "list", data := .seq #[] } := Heap.get?_push_size _ rfl
  generalize hR : (fun (r : Result) (s' : Shared) => (match r with
    | .ok (.ret v) => wpAny (model prog w) A (match v with
      | .ref a => do match (← load a).data with
        | .seq xs _ => pure xs.toList
        | _ => unsupported "internal:collect"
      | _ => unsupported "internal:collect") Q E s'
    | .ok _ => False
    | .error e => E e s' : Prop)) = R
  have go : ∀ h' tk (acc : Array Value) c', h'.get? s.heap.objs.size = some { cls := .type "list", dict := none, data := .seq acc c', slots := #[] } → Kept s h' → ItemsOf (fun i v => ∃ t, v = Value.int (a + i * 1) t) acc n → R (.ok (.ret (.ref s.heap.objs.size))) { s with heap := h', toks := tk } := fun h' tk acc c' hS' kp hacc => by
    rw [← hR]
    show wpAny _ A (load s.heap.objs.size >>= _) _ _ _
    refine wpAny_bind (wpAny_load hS' ?_)
    exact wpAny_pure (h h' tk acc kp hacc)
  refine wpAny_mono (PySem.wpAny_extend_range (R := R) (s := { s with heap := s.heap.push { cls := .type "list", data := .seq #[] } }) hh (Heap.get?_push_of_some _ hr) hsmall hn hlen s.heap.objs.size (.ref s.heap.objs.size) _ hS fun h' tk acc c' hk hS' hacc => go h' tk acc c' hS' (fun b o e => hk b o (Nat.ne_of_lt (Heap.lt_size e)) (Heap.get?_push_of_some _ e)) hacc) (fun fin s' q => ?_) fun e s' q => by rw [← hR] at q; exact q
  cases fin with
  | done f => rw [← hR] at q; exact q
  | again c' => exact q
theorem meets_tuple_range (r : Addr) {a b : Int} {n : Nat} (hsmall : Builtin.Range.small a b 1 = true) (hn : Builtin.Range.rangeSize a b 1 = n) (hlen : n ≤ 2 ^ 24) :
    Meets (Builtin.«tuple.__new__» ⟨[.type "tuple", .ref r], []⟩)
      (fun A R s => A.handled = none ∧ (∃ t u v, IsRange s.heap r a b 1 t u v) ∧ ∀ (h' : Heap) tk (acc : Array Value), Kept s h' → ItemsOf (fun i v => ∃ t, v = Value.int (a + i * 1) t) acc n →
        R (.ok (.ret (.ref h'.objs.size))) { s with heap := h'.push { cls := .type "tuple", data := .seq acc }, toks := tk }) :=
  .of_wp fun prog w A R s h => by
    obtain ⟨hh, ⟨t, u, v, hr⟩, h⟩ := h
    have hsub := sub_tuple_self
    have hinit := init_tuple_lookup
    have hmh := madeHere_tuple
    have hT : s.TypeIs (.ref r) "range" := ⟨_, hr, rfl⟩
    have hh1 : A.in1.handled = none := hh
    wp_walk using wpAny_typeOf hT, collect_range hh1 hr hsmall hn hlen
    intro h' tk acc hk hacc
    show wpAny _ _ (Builtin.Tuple.tupleExact acc.toList.toArray >>= fun v => ret v) _ _ _
    unfold Builtin.Tuple.tupleExact
    refine wpAny_bind (wpAny_newObj_type ?_ (show acc.toList.toArray.size ≤ sizeLine by simp only [Array.toArray_toList]; rw [hacc.1, sizeLine_eq]; omega))
    refine wpAny_pure ⟨_, rfl, ?_⟩
    have e : acc.toList.toArray = acc := by simp
    rw [e]
    exact h h' tk acc hk hacc
theorem tuple_range {r : Addr} {a b : Int} {t u v : Tok} {n : Nat} {Q : Value → Shared → Prop} (hh : A.handled = none) (hr : IsRange s.heap r a b 1 t u v) (hsmall : Builtin.Range.small a b 1 = true) (hn : Builtin.Range.rangeSize a b 1 = n) (hlen : n ≤ 2 ^ 24)
    (h : ∀ h' tk acc, Kept s h' → ItemsOf (fun i v => ∃ t, v = Value.int (a + i * 1) t) acc n → Q (.ref h'.objs.size) { s with heap := h'.push { cls := .type "tuple", data := .seq acc }, toks := tk }) :
    wpAny (model prog w) A (call (.type "tuple") [.ref r]) Q E s := by
  refine callType_new PySem.F.called_tuple (by decide) (PySem.F.typeCall_tuple_1 _) (PySem.F.newCall_tuple_1 _) (fun obj => PySem.F.args_object_init_2 obj _) PySem.F.entry_tuple_new
    (meets_tuple_range r hsmall hn hlen) ⟨hh, ⟨t, u, v, hr⟩, fun h' tk acc hk hacc => ⟨⟨_, Heap.get?_push_size _ rfl, rfl⟩, h h' tk acc hk hacc⟩⟩
end
end Mine
namespace Mine
open PySem PySem.W PyProof.Rows
set_option genSizeOf false
set_option genInjectivity false
theorem insI_perm (i : Int) : ∀ l : List Int, (insI i l).Perm (i :: l)
  | [] => .refl _
  | j :: r => by
    unfold insI
    split
    · exact .refl _
    · exact ((insI_perm i r).cons j).trans (.swap _ _ _)
theorem sortI_perm : ∀ l : List Int, (sortI l).Perm l
  | [] => .refl _
  | i :: r => (insI_perm i _).trans ((sortI_perm r).cons i)
theorem insI_sorted (i : Int) : ∀ l : List Int, l.Pairwise (· ≤ ·) → (insI i l).Pairwise (· ≤ ·)
  | [], _ => List.pairwise_cons.mpr ⟨fun _ h => (nomatch h), .nil⟩
  | j :: r, h => by
    obtain ⟨h1, h2⟩ := List.pairwise_cons.mp h
    unfold insI
    by_cases q : i ≤ j
    · rw [if_pos q]
      exact List.pairwise_cons.mpr ⟨fun k hk => by rcases List.mem_cons.mp hk with rfl | hk; exact q; exact Int.le_trans q (h1 k hk), h⟩
    · rw [if_neg q]
      refine List.pairwise_cons.mpr ⟨fun k hk => ?_, insI_sorted i r h2⟩
      rcases List.mem_cons.mp ((insI_perm i r).mem_iff.mp hk) with rfl | hk
      · exact Int.le_of_lt (Int.not_le.mp q)
      · exact h1 k hk
theorem sortI_sorted : ∀ l : List Int, (sortI l).Pairwise (· ≤ ·)
  | [] => .nil
  | i :: r => insI_sorted i _ (sortI_sorted r)
end Mine
namespace Mine
open PySem PySem.W PyProof.Rows PySem.Calls PySem.SeqAt
set_option genSizeOf false
set_option genInjectivity false

/-! CALLS: the road to them -/
theorem star_plain {pos : Pos} {ev : Env} : ∀ {es : List PySem.Expr}, es.all (fun e => !isStar e) = true → (backTo pos (starEach es ev)).any (·.1) = false
  | [], _ => rfl
  | e :: r, h => by
    rw [List.all_cons, Bool.and_eq_true] at h
    have ih := star_plain (pos := pos) (ev := ev) h.2
    have he : starEach (e :: r) ev = (false, eval e ev) :: starEach r ev := by
      cases e <;> first | rfl | exact absurd h.1 Bool.noConfusion
    rw [he]
    show (false || (backTo pos (starEach r ev)).any (·.1)) = false
    rw [ih]; rfl
theorem star_cons {e : PySem.Expr} {r : List PySem.Expr} {ev : Env} (h : isStar e = false) : starEach (e :: r) ev = (false, eval e ev) :: starEach r ev := by
  cases e <;> first | rfl | exact absurd h Bool.noConfusion
section
variable {S : Sta} {G : CallS} {nd : Nat} {hd : Bool} {cx : Cx}
theorem call_road {A : Around} {env ev : Env} {outer : List Env} {L : Addr} {Y : Addr → Prop} {m mc : Fm} {σ : Hp} {g : Gh} {s : Shared} {K : List V → Hp → Prop} {E : KE} {Q : Value → Shared → Prop} {pos : Pos} {es : List PySem.Expr} {xs : List X} {f : Value} {first : List Value} {P : Heap → Prop}
    (hs : es.all (fun e => !isStar e) = true) (hx : SndXs S G nd hd cx es xs) (a : Act S cx A env ev outer L nd hd) (I : Inv S (env :: outer) g σ s.heap) (rd : Rd S cx ev Y s.heap g m mc)
    (hk : ∀ h, P h → ∃ k, (k = Keeper.frame ∨ k = Keeper.machine ∨ k = Keeper.boundFrame) ∧ Looks S.M h (keeperOf f) k) (h : evXs G S.gc m mc xs σ K E) (hn : es = [] → xs = [])
    (c : ∀ vs ds σ1 g1 s1, K ds σ1 → Ext No g g1 s.heap s1.heap → Inv S (env :: outer) g1 σ1 s1.heap → VRs S s1.heap g1 vs ds → Rest s s1 → P s1.heap ∧ wpAny S.M A (call f (first ++ vs) []) Q (Er S (env :: outer) No false g s E) s1) :
    wpAny S.M A (callWith pos f first (backTo pos (starEach es ev)) []) Q (Er S (env :: outer) No false g s E) s := by
  have hp := star_plain (pos := pos) (ev := ev) hs
  refine callWith_of (P := P) (by rw [hp]; rfl) hk ?_
  cases es with
  | nil =>
    obtain rfl := hn rfl
    exact evalArgs_nil3 (c [] [] σ g s h (.refl _ _ _) I .nil (.refl _))
  | cons e r =>
    rw [List.all_cons, Bool.and_eq_true] at hs
    have hq := hx A env ev outer L Y m mc σ g s K E pos a I rd h
    rw [star_cons (by simpa using hs.1)] at hq ⊢
    exact evalArgs_plain (step hq fun vs ds σ1 g1 s1 h1 e1 i1 r1 z1 => c vs ds σ1 g1 s1 h1 e1 i1 r1 z1)
theorem keeps_plain {f : Value} (hf : ∀ a, f ≠ .ref a) {M : Model} (h : Heap) (_ : True) : ∃ k, (k = Keeper.frame ∨ k = Keeper.machine ∨ k = Keeper.boundFrame) ∧ Looks M h (keeperOf f) k := by
  refine ⟨.machine, .inr (.inl rfl), ?_⟩
  cases f <;> first | exact Looks.now | exact absurd rfl (hf _)
end

/-! the built-in ones -/
noncomputable def primV : Prim → Value
  | .len => .builtin "len" | .isi => .builtin "isinstance" | .int => .type "int" | .repr => .builtin "repr" | .tuple => .type "tuple"
  | .range => .type "range" | .sorted => .builtin "sorted" | .set => .type "set" | .abs => .builtin "abs" | .min => .builtin "min" | .max => .builtin "max"
section
variable {S : Sta} {fr : List Env} {A : Around} {g : Gh} {σ : Hp} {s : Shared} {d : V} {K : KV} {Ev : Value → Shared → Prop}
theorem vrs1 {h : Heap} {vs : List Value} {x : V} (r : VRs S h g vs [x]) : ∃ v, vs = [v] ∧ VR S h g v x := by
  cases r with
  | cons a r => cases r; exact ⟨_, rfl, a⟩
theorem vrs2 {h : Heap} {vs : List Value} {x y : V} (r : VRs S h g vs [x, y]) : ∃ v w, vs = [v, w] ∧ VR S h g v x ∧ VR S h g w y := by
  cases r with
  | cons a r =>
    obtain ⟨w, rfl, b⟩ := vrs1 r
    exact ⟨_, _, rfl, a, b⟩
theorem vr_ty {h : Heap} {v : Value} {n : String} (r : VR S h g v (.ty n)) : v = .type n := by cases r; rfl
theorem szl {n : Nat} (h : n ≤ sizeLine) : (n : Int) < 2 ^ 63 := by rw [sizeLine_eq] at h; omega
/-- a row, a list or a tuple -/
theorem VR.seqK {P : Prop} (I : Inv S fr g σ s.heap) {v : Value} {x : V} {l : List PyData} (r : VR S s.heap g v x) (h : seqT σ x = some l) (kl : ∀ a vs, v = .ref a → s.heap.IsList a vs → PVs S.w.params s.heap g.κ vs.toList l → vs.size = l.length → P)
    (kt : ∀ a vs, v = .ref a → IsTup s.heap a vs → VR S s.heap g v (.pd (.tuple l)) → PVs S.w.params s.heap g.κ vs.toList l → vs.size = l.length → P) : P :=
  bd_e h fun d e h => alt_e h (fun q => r.listK (P := fun v => (∀ a vs, v = .ref a → s.heap.IsList a vs → PVs S.w.params s.heap g.κ vs.toList l → vs.size = l.length → P) → P) I e q (fun a vs h1 h2 h3 k => k a vs rfl h1 h2 h3) kl)
    fun q => r.tupK (P := fun v => (∀ a vs, v = .ref a → IsTup s.heap a vs → VR S s.heap g v (.pd (.tuple l)) → PVs S.w.params s.heap g.κ vs.toList l → vs.size = l.length → P) → P) e q (fun a vs h1 h2 h3 h4 k => k a vs rfl h1 h2 h3 h4) kt
theorem prim_len {v : Value} {x : V} {l : List PyData} (I : Inv S fr g σ s.heap) (r : VR S s.heap g v x) (hl : seqT σ x = some l) (h : l.length ≤ sizeLine ∧ K (.pd (.int l.length)) σ) : wpAny S.M A (call (.builtin "len") [v]) (Ok S fr No (RV S) g s K) Ev s := by
  refine r.seqK I hl (fun a vs e hl p hlen => ?_) fun a vs e hl _ p hlen => ?_
  · rw [e]
    refine call_len_list hl (by rw [hlen]; exact szl h.1) ?_
    rw [hlen]; exact Is.ok h.2 (is_int I)
  · rw [e]
    refine call_function_entry kind_len plain_len entry_len (args_len1 _) (len_body_tuple hl (by rw [hlen]; exact szl h.1) ?_)
    rw [hlen]; exact Is.ok h.2 (is_int I)
theorem prim_isi {v : Value} {d : PyData} {n : String} {b : Bool} (I : Inv S fr g σ s.heap) (r : VR S s.heap g v (.pd d)) (hb : isiP d n = some b) (h : K (.pd (.bool b)) σ) : wpAny S.M A (call (.builtin "isinstance") [v, .type n]) (Ok S fr No (RV S) g s K) Ev s := by
  have q1 : ∀ {b : Bool}, K (.pd (.bool b)) σ → ∀ k, Ok S fr No (RV S) g s K (.bool b) { s with toks := k } := fun h k => Is.ok h (is_boolT I)
  have q0 : ∀ {b : Bool}, K (.pd (.bool b)) σ → Ok S fr No (RV S) g s K (.bool b) s := fun h => Is.ok h (is_bool I)
  have all : ∀ p ∈ isiL d, K (.pd (.bool p.2)) σ → wpAny S.M A (call (.builtin "isinstance") [v, .type p.1]) (Ok S fr No (RV S) g s K) Ev s := by
    have nil : ∀ p ∈ ([] : List (String × Bool)), K (.pd (.bool p.2)) σ → wpAny S.M A (call (.builtin "isinstance") [v, .type p.1]) (Ok S fr No (RV S) g s K) Ev s := fun _ q => (List.not_mem_nil q).elim
    have r := vr_pd r
    cases d with
    | bool b => cases r; exact List.forall_mem_cons.mpr ⟨fun h => IsiPair.bool_bool (q0 h), List.forall_mem_cons.mpr ⟨fun h => IsiPair.bool_int (q0 h), List.forall_mem_cons.mpr ⟨fun h => IsiPair.bool_tuple (q1 h _), nil⟩⟩⟩
    | int i => cases r; exact List.forall_mem_cons.mpr ⟨fun h => IsiPair.int_int (q0 h), List.forall_mem_cons.mpr ⟨fun h => IsiPair.int_tuple (q1 h _), List.forall_mem_cons.mpr ⟨fun h => IsiPair.int_list (q1 h _), nil⟩⟩⟩
    | str x => cases r; exact List.forall_mem_cons.mpr ⟨fun h => IsiPair.str_int (q1 h _), List.forall_mem_cons.mpr ⟨fun h => IsiPair.str_tuple (q1 h _), nil⟩⟩
    | tuple l =>
      cases r with
      | tuple _ e c => exact List.forall_mem_cons.mpr ⟨fun h => IsiPair.tuple_int e c (q1 h _), List.forall_mem_cons.mpr ⟨fun h => IsiPair.tuple_tuple e c (q0 h), List.forall_mem_cons.mpr ⟨fun h => IsiPair.tuple_list e c (q1 h _), nil⟩⟩⟩
    | list l =>
      cases r with
      | list _ e c => exact List.forall_mem_cons.mpr ⟨fun h => IsiPair.list_list e c (q0 h), nil⟩
    | _ => exact nil
  exact all _ (lookT_mem hb) h
theorem prim_int {v : Value} {d : PyData} {i : Int} (I : Inv S fr g σ s.heap) (r : VR S s.heap g v (.pd d)) (hi : asInt d = some i) (h : K (.pd (.int i)) σ) : wpAny S.M A (call (.type "int") [v]) (Ok S fr No (RV S) g s K) Ev s := by
  refine r.numK (σ := σ) (P := fun v i => K (.pd (.int i)) σ → wpAny S.M A (call (.type "int") [v]) (Ok S fr No (RV S) g s K) Ev s) rfl hi (fun i t h => ?_) (fun b h => ?_) h
  · exact call_int_int (Is.ok h (is_here I (.pd (.int _ _))))
  · exact call_int_bool (Is.ok h (is_int I))
theorem prim_abs {v : Value} {i : Int} (I : Inv S fr g σ s.heap) (r : VR S s.heap g v (.pd (.int i))) (h : K (.pd (.int i.natAbs)) σ) : wpAny S.M A (call (.builtin "abs") [v]) (Ok S fr No (RV S) g s K) Ev s := by
  obtain ⟨t, rfl⟩ := vr_int r
  refine call_abs_int fun u tk => ?_
  have : (if i < 0 then -i else i) = (i.natAbs : Int) := by split <;> omega
  rw [this]; exact Is.ok h (is_int I)
theorem prim_repr (ok : StaOk S) {v : Value} {x : V} {d : PyData} (room : Room A) (I : Inv S fr g σ s.heap) (r : VR S s.heap g v x) (hd : rd σ x = some d) (h : (d.showable = true ∧ d.depth ≤ 64 ∧ d.shown.length ≤ sizeLine) ∧ K (.pd (.str d.shown)) σ) :
    wpAny S.M A (call (.builtin "repr") [v]) (Ok S fr No (RV S) g s K) Ev s := by
  obtain ⟨as, q, n⟩ := r.readsN ok.sm I hd
  have big : ∀ {a : Addr}, v = .ref a → wpAny S.M A (call (.builtin "repr") [v]) (Ok S fr No (RV S) g s K) Ev s := by
    rintro a rfl
    refine repr_of_reads' q h.1.1 (fun _ => n) room.guards (by have := room.units; have := h.1.2.1; omega) (fun _ _ e => e) (fun h' u tk kp => ?_) h.1.2.2
    obtain ⟨I2, E2⟩ := I.keeps kp
    exact ⟨_, σ, g, h.2, E2, I2, .pd (.str _ _), ⟨rfl, rfl, rfl⟩⟩
  cases q with
  | none => exact P.repr_of_none (Is.ok h.2 (is_str I))
  | bool b => exact P.repr_of_bool (Is.ok h.2 (is_str I))
  | int i t => exact P.repr_of_int (by simpa [PyData.showable] using h.1.1) (Is.ok h.2 (is_str I))
  | str y t => exact P.repr_of_str (Is.ok h.2 (is_str I)) h.1.2.2
  | list => exact big rfl
  | tuple => exact big rfl
  | dict => exact big rfl
theorem range_pvs {P : Params} {h : Heap} {κ : Addr → Kd} {a b : Int} {acc : Array Value} (q : ItemsOf (fun i v => ∃ t, v = Value.int (a + i * 1) t) acc (b - a).toNat) : PVs P h κ acc.toList (rangeL a b) := by
  obtain ⟨q1, q2⟩ := q
  have : ∀ (n k : Nat) (vs : List Value), vs.length = n → (∀ j v, vs[j]? = some v → ∃ t, v = Value.int (a + (k + j : Nat)) t) → PVs P h κ vs ((List.range' k n).map fun (j : Nat) => PyData.int (a + j)) := by
    intro n
    induction n with
    | zero => intro k vs hv _; rw [List.length_eq_zero_iff] at hv; subst hv; exact .nil
    | succ n ih =>
      intro k vs hv hj
      cases vs with
      | nil => simp at hv
      | cons v vs =>
        rw [List.range'_succ, List.map_cons]
        obtain ⟨t, rfl⟩ := hj 0 v rfl
        refine .cons (.int _ _) (ih (k + 1) vs (by simpa using hv) fun j w hw => ?_)
        obtain ⟨t, rfl⟩ := hj (j + 1) w (by simpa using hw)
        exact ⟨t, by congr 1; omega⟩
  unfold rangeL
  rw [List.range_eq_range']
  refine this _ 0 _ (by simpa using q1) fun j v hv => ?_
  obtain ⟨t, rfl⟩ := q2 j v (by simpa using hv)
  exact ⟨t, by congr 1 <;> first | omega | simp⟩
theorem small_one {a b : Int} (h1 : -(2 ^ 62) ≤ a) (h2 : a < 2 ^ 62) (h3 : -(2 ^ 62) ≤ b) (h4 : b < 2 ^ 62) : Builtin.Range.small a b 1 = true := by
  unfold Builtin.Range.small Builtin.Range.rangeFitsLong
  rw [rangeSize_one]
  simp only [Bool.and_eq_true, Bool.or_eq_true, decide_eq_true_eq, beq_iff_eq]
  refine ⟨⟨⟨⟨by omega, by omega⟩, by omega⟩, by split <;> omega⟩, .inr ?_⟩
  rw [if_pos (by decide)]
  simp only [Bool.and_eq_true, decide_eq_true_eq]
  omega
theorem prim_tuple_seq (ok : StaOk S) {v : Value} {x : V} {l : List PyData} (I : Inv S fr g σ s.heap) (r : VR S s.heap g v x) (hl : seqT σ x = some l) (h : l.length ≤ sizeLine ∧ K (.pd (.tuple l)) σ) :
    wpAny S.M A (call (.type "tuple") [v]) (Ok S fr No (RV S) g s K) Ev s := by
  refine r.seqK I hl (fun a vs e hl p hlen => ?_) fun a vs e hl rt p hlen => ?_
  · rw [e]
    refine call_tuple_list hl (fun h' kp => ?_) (by rw [hlen]; exact h.1)
    obtain ⟨I2, E2⟩ := I.keeps kp
    have := is_tup (s := { s with heap := h' }) (σ := σ) (k := s.toks) I2 (p.mono E2.up.fz)
    exact Ok.trans (s1 := { s with heap := h' }) E2 ⟨rfl, rfl, rfl⟩ (Is.ok (d := .pd (.tuple l)) h.2 this)
  · have := is_here I rt
    rw [e] at this ⊢
    exact call_tuple_tup hl (Is.ok (d := .pd (.tuple l)) h.2 this)
theorem prim_tuple (ok : StaOk S) {v : Value} {x : V} (hn : A.handled = none) (I : Inv S fr g σ s.heap) (r : VR S s.heap g v x) (h : evTuple x σ K) :
    wpAny S.M A (call (.type "tuple") [v]) (Ok S fr No (RV S) g s K) Ev s := by
  unfold evTuple at h
  cases hr : rngV x with
  | some p =>
    rw [hr] at h
    obtain ⟨⟨h1, h2, h3, h4, h5⟩, h⟩ := when_e h
    have r := rngV_e hr ▸ r
    cases r with
    | rng k e =>
      refine tuple_range (n := (_ - _ : Int).toNat) hn e (small_one h1 h2 h3 h4) (rangeSize_nat _ _) (by omega) fun h' tk acc kp q => ?_
      obtain ⟨I2, E2⟩ := I.keeps kp
      exact Ok.trans (s1 := { s with heap := h' }) E2 ⟨rfl, rfl, rfl⟩ (Is.ok h (is_tup (s := { s with heap := h' }) (σ := σ) (k := tk) I2 (range_pvs q)))
  | none =>
    rw [hr] at h
    exact need_e h fun l hl h => prim_tuple_seq ok I r hl (when_e h)
theorem allInt_are {P : Params} {h : Heap} {κ : Addr → Kd} : ∀ {vs : List Value} {l : List PyData} {ns : List Int}, PVs P h κ vs l → allInt l = some ns → IntsAre vs ns
  | [], l, ns, p, e => by cases p; cases e; exact .nil
  | v :: vs, l, ns, p, e => by
    cases p with
    | cons a r =>
      refine bd_e e fun i hi e => map_e e fun q hq e => ?_
      subst e
      obtain rfl := intP_e hi
      cases a with
      | int i t => exact .cons _ _ (allInt_are r hq)
theorem pv_ints {P : Params} {h : Heap} {κ : Addr → Kd} : ∀ {vs : List Value} {l : List Int}, IntsAre vs l → PVs P h κ vs (l.map .int)
  | _, _, .nil => .nil
  | _, _, .cons n t r => .cons (.int n t) (pv_ints r)
theorem sortI_eq {a b : List Int} (p : a.Perm b) (s : a.Pairwise (· ≤ ·)) : a = sortI b := ksm_same (p.trans (sortI_perm b).symm) s (sortI_sorted b)
theorem are_len {vs : List Value} {ns : List Int} (h : IntsAre vs ns) : vs.length = ns.length := IntsAre.length h
theorem perm_of : ∀ (l ns : List Int), l.Nodup → (∀ k ∈ l, k ∈ ns) → ns.length = l.length → ns.Perm l
  | [], ns, _, _, e => by rw [List.length_eq_zero_iff.mp e]
  | k :: r, ns, nd, h, e => by
    obtain ⟨n1, n2⟩ := List.nodup_cons.mp nd
    have hk := h k List.mem_cons_self
    have p := List.perm_cons_erase hk
    refine p.trans (.cons k (perm_of r (ns.erase k) n2 (fun j hj => ?_) (by rw [List.length_erase_of_mem hk, e]; rfl)))
    rcases List.mem_cons.mp (p.mem_iff.mp (h j (List.mem_cons_of_mem _ hj))) with rfl | q
    · exact absurd hj n1
    · exact q
theorem set_ord {l : List Int} {o : Obj} {es : Array (Int × Value)} {ep : Nat} {t : SetTable} {m : Nat} {a : Addr} {h : Heap} (G : SetG S.prog S.w h a l o es ep t m) (nd : l.Nodup) : ∃ ns, IntsAre ((ordA S.w a ep es).toList.map (·.2)) ns ∧ ns.Perm l := by
  have p := ord_perm S.w a ep es
  have key : ∀ (q : List (Int × Value)), (∀ e ∈ q, ∃ k, (intKind S.prog S.w).is k e.2 = true) → ∃ ns, IntsAre (q.map (·.2)) ns ∧ ∀ k, k ∈ ns ↔ ∃ e ∈ q, (intKind S.prog S.w).is k e.2 = true := by
    intro q
    induction q with
    | nil => intro _; exact ⟨[], .nil, fun k => ⟨fun h => (nomatch h), fun ⟨_, h, _⟩ => (nomatch h)⟩⟩
    | cons e r ih =>
      intro hq
      obtain ⟨ns, i1, i2⟩ := ih fun e he => hq e (List.mem_cons_of_mem _ he)
      obtain ⟨k, hk⟩ := hq e List.mem_cons_self
      obtain ⟨u, eu⟩ := Value.isInt_shape hk
      refine ⟨k :: ns, by rw [List.map_cons, eu]; exact .cons k u i1, fun j => ?_⟩
      rw [List.mem_cons, i2 j]
      refine ⟨fun z => ?_, fun ⟨e', he, hj⟩ => ?_⟩
      · rcases z with rfl | ⟨e', he, hj⟩
        · exact ⟨e, List.mem_cons_self, hk⟩
        · exact ⟨e', List.mem_cons_of_mem _ he, hj⟩
      · rcases List.mem_cons.mp he with rfl | he
        · exact .inl ((intKind S.prog S.w).inj _ _ _ hj hk)
        · exact .inr ⟨e', he, hj⟩
  obtain ⟨ns, i1, i2⟩ := key _ fun e he => G.el.keys e (p.mem_iff.mp he)
  refine ⟨ns, i1, ?_⟩
  have mem : ∀ k, k ∈ ns ↔ k ∈ l := fun k => (i2 k).trans (Iff.trans ⟨fun ⟨e, he, q⟩ => ⟨e, p.mem_iff.mp he, q⟩, fun ⟨e, he, q⟩ => ⟨e, p.mem_iff.mpr he, q⟩⟩ (G.mem k).symm)
  have len : ns.length = l.length := by rw [← are_len i1, List.length_map, p.length_eq, Array.length_toList, G.size]
  exact perm_of l ns nd (fun k hk => (mem k).mpr hk) len
theorem dedup_nodup_go : ∀ (l acc : List Int), acc.Nodup → (l.foldl step_dedup acc).Nodup
  | [], _, h => h
  | k :: r, acc, h => dedup_nodup_go r _ (by
    unfold step_dedup
    by_cases q : acc.any (· == k) = true
    · rw [if_pos q]; exact h
    · rw [if_neg q]; exact List.nodup_append.mpr ⟨h, List.nodup_cons.mpr ⟨List.not_mem_nil, .nil⟩, fun a ha b hb => by
        rw [List.mem_singleton] at hb; subst hb; rintro rfl; exact q (any_mem.mpr ha)⟩)
theorem fm_dedup (ns : List Int) : firstMet (fun i => ns.getD i 0) ns.length = dedup ns := by
  unfold firstMet dedup
  congr 1
  refine List.ext_getElem (by simp) fun i h1 h2 => ?_
  simp [List.getD_eq_getElem?_getD, h2]
theorem sorted_lst (ok : StaOk S) {h' : Heap} {b : Addr} {out : Array Value} {e tk : Nat} {ns' : List Int} (I : Inv S fr g σ s.heap) (h1 : h'.get? b = some (seqObj "list" out e)) (h2 : s.heap.get? b = none) (kp : Kept s h') (ia : IntsAre out.toList ns') :
    Is S fr g σ s (.pd (.list (ns'.map .int))) (.ref b) { s with heap := h', toks := tk } := by
  obtain ⟨I2, E2⟩ := I.new (k := .fz) kp h2 h1
  have nb : b ≠ sysModules := fun q => by
    obtain ⟨o, e⟩ := ok.sm
    rw [q, I.stays _ _ e] at h2; cases h2
  exact ⟨_, σ, _, ⟨rfl, rfl⟩, E2, I2, .pd (.list (if_pos rfl) h1 rfl rfl nb (pv_ints ia)), ⟨rfl, rfl, rfl⟩⟩
theorem prim_sorted (ok : StaOk S) {v : Value} {x : V} {l : List Int} (hn : A.handled = none) (I : Inv S fr g σ s.heap) (r : VR S s.heap g v x) (hl : sortL σ x = some l) (h : K (.pd (.list ((sortI l).map .int))) σ) :
    wpAny S.M A (call (.builtin "sorted") [v]) (Ok S fr No (RV S) g s K) Ev s := by
  have fin : ∀ {src : Value} {vs : List Value} {ns : List Int}, (∀ {A' : Around} {Q' : List Value → Shared → Prop} {E' : Value → Shared → Prop}, A'.handled = none → (∀ h' tk, Kept s h' → Q' vs { s with heap := h', toks := tk }) → wpAny S.M A' (collect src) Q' E' s) →
      IntsAre vs ns → ns.Perm l → vs.length < 64 → wpAny S.M A (call (.builtin "sorted") [src]) (Ok S fr No (RV S) g s K) Ev s := fun col ia pm h64 =>
    sorted_of hn col ia h64 fun h' tk b out e ns' q1 q2 kp ia' p' s' => by
      rw [← sortI_eq (p'.trans pm) s'] at h
      exact Is.ok h (sorted_lst ok I q1 q2 kp ia')
  refine alt_e hl (fun q => bd_e q fun l' h1 q => gd_e q fun h4 e => ?_) fun q => bd_e q fun l' h1 q => bd_e q fun l'' h2 q => gd_e h2 fun h64 e => ?_
  · subst e
    cases setV_e h1 ▸ r with
    | set k e si b nd =>
      obtain ⟨o, es, ep, t, m, G⟩ := si.2 h4
      obtain ⟨ns, i1, i2⟩ := set_ord G nd
      exact fin (fun hh h => collect_set hh G h) i1 i2 (by rw [are_len i1, i2.length_eq]; omega)
  · subst e
    refine r.seqK I h1 (fun a vs e hl p hlen => ?_) fun a vs e hl _ p hlen => ?_
    · obtain ⟨ob, ho, hc, n, hd⟩ := hl
      exact e ▸ fin (fun hh h => collect_seq (.inl rfl) ho hc (vs := vs.toList) hd (by rw [Array.length_toList, hlen, sizeLine_eq]; omega) h) (allInt_are p q) (.refl _) (by rw [Array.length_toList, hlen]; exact h64)
    · obtain ⟨ob, ho, hc, n, hd⟩ := hl
      exact e ▸ fin (fun hh h => collect_seq (.inr rfl) ho hc (vs := vs.toList) hd (by rw [Array.length_toList, hlen, sizeLine_eq]; omega) h) (allInt_are p q) (.refl _) (by rw [Array.length_toList, hlen]; exact h64)
theorem prim_set (ok : StaOk S) {v : Value} {x : V} {l : List Int} (hn : A.handled = none) (I : Inv S fr g σ s.heap) (r : VR S s.heap g v x) (hl : (seqT σ x).bind allInt = some l) (h : l.length < 1000 ∧ K (.set (dedup l)) σ) :
    wpAny S.M A (call (.type "set") [v]) (Ok S fr No (RV S) g s K) Ev s := by
  have sb : scanBound = 4096 := rfl
  refine bd_e hl fun l' h1 q => ?_
  have fin : ∀ {a : Addr} {ob itO : Obj} {T : String} {vs : Array Value} {St : Addr → Nat → Heap → Prop}, v = .ref a → s.heap.get? a = some ob → Src S.prog S.w a ob T itO vs.size (fun i v => vs[i]? = some v) St → PVs S.w.params s.heap g.κ vs.toList l' → wpAny S.M A (call (.type "set") [v]) (Ok S fr No (RV S) g s K) Ev s := fun {a ob itO T vs St} e ho W p => by
    have ia := allInt_are p q
    have hz : vs.size = l.length := by rw [← Array.length_toList]; exact are_len ia
    have hn0 : s.heap.get? s.heap.objs.size = none := Heap.get?_none_of_le (Nat.le_refl _)
    rw [e]
    refine set_from (val := fun i => l.getD i 0) hn W ho (fun i v hv => ia.int_at i v (by rw [Array.getElem?_toList]; exact hv)) (by rw [hz, sb]; omega) fun h' tk G kp => ?_
    rw [hz, fm_dedup] at G
    obtain ⟨o, es, ep, t, m, r⟩ := id G.1
    obtain ⟨I2, E2⟩ := I.new (k := .fz) kp hn0 m
    have dl : (dedup l).length ≤ l.length := by rw [← fm_dedup]; exact firstMet_length_le _ _
    exact ⟨_, σ, _, h.2, E2, I2, .set (if_pos rfl) m G (by rw [sb]; omega) (dedup_nodup_go l [] .nil), ⟨rfl, rfl, rfl⟩⟩
  refine r.seqK I h1 (fun a vs e hl p hlen => ?_) fun a vs e hl _ p hlen => ?_
  · obtain ⟨ob, ho, hc, n, hd⟩ := hl
    exact fin e ho (src_list hc hd) p
  · obtain ⟨ob, ho, hc, n, hd⟩ := hl
    exact fin e ho (src_tuple hc hd) p
theorem prim_min {v u : Value} {i j : Int} (hn : A.handled = none) (I : Inv S fr g σ s.heap) (r : VR S s.heap g v (.pd (.int i))) (q : VR S s.heap g u (.pd (.int j))) (h : K (.pd (.int (if j < i then j else i))) σ) : wpAny S.M A (call (.builtin "min") [v, u]) (Ok S fr No (RV S) g s K) Ev s := by
  obtain ⟨t, rfl⟩ := vr_int r
  obtain ⟨t', rfl⟩ := vr_int q
  refine min_two_ints hn fun h' tk kp => ?_
  obtain ⟨I2, E2⟩ := I.keeps kp
  by_cases c : j < i
  · rw [if_pos c] at h ⊢; exact ⟨_, σ, g, h, E2, I2, .pd (.int _ _), ⟨rfl, rfl, rfl⟩⟩
  · rw [if_neg c] at h ⊢; exact ⟨_, σ, g, h, E2, I2, .pd (.int _ _), ⟨rfl, rfl, rfl⟩⟩
theorem prim_max {v u : Value} {i j : Int} (hn : A.handled = none) (I : Inv S fr g σ s.heap) (r : VR S s.heap g v (.pd (.int i))) (q : VR S s.heap g u (.pd (.int j))) (h : K (.pd (.int (if i < j then j else i))) σ) : wpAny S.M A (call (.builtin "max") [v, u]) (Ok S fr No (RV S) g s K) Ev s := by
  obtain ⟨t, rfl⟩ := vr_int r
  obtain ⟨t', rfl⟩ := vr_int q
  refine max_two_ints hn fun h' tk kp => ?_
  obtain ⟨I2, E2⟩ := I.keeps kp
  by_cases c : i < j
  · rw [if_pos c] at h; rw [if_pos (show j > i from c)]; exact ⟨_, σ, g, h, E2, I2, .pd (.int _ _), ⟨rfl, rfl, rfl⟩⟩
  · rw [if_neg c] at h; rw [if_neg (show ¬ j > i from c)]; exact ⟨_, σ, g, h, E2, I2, .pd (.int _ _), ⟨rfl, rfl, rfl⟩⟩
theorem prim_range1 {v : Value} {n : Int} (I : Inv S fr g σ s.heap) (r : VR S s.heap g v (.pd (.int n))) (h : K (.rng 0 n) σ) : wpAny S.M A (call (.type "range") [v]) (Ok S fr No (RV S) g s K) Ev s := by
  obtain ⟨t, rfl⟩ := vr_int r
  refine call_range_1 ?_
  have hn : s.heap.get? s.heap.objs.size = none := Heap.get?_none_of_le (Nat.le_refl _)
  obtain ⟨I2, E2⟩ := I.new (k := .fz) (fun b o q => Heap.get?_push_of_some _ q) hn (IsRange.new s.heap 0 n 1 s.toks t (s.toks + 1))
  exact ⟨_, σ, _, h, E2, I2, .rng (if_pos rfl) (IsRange.new s.heap 0 n 1 s.toks t (s.toks + 1)), ⟨rfl, rfl, rfl⟩⟩
theorem prim_range2 {v u : Value} {n m : Int} (I : Inv S fr g σ s.heap) (r : VR S s.heap g v (.pd (.int n))) (r2 : VR S s.heap g u (.pd (.int m))) (h : K (.rng n m) σ) : wpAny S.M A (call (.type "range") [v, u]) (Ok S fr No (RV S) g s K) Ev s := by
  obtain ⟨t, rfl⟩ := vr_int r
  obtain ⟨t', rfl⟩ := vr_int r2
  refine call_range_2 ?_
  have hn : s.heap.get? s.heap.objs.size = none := Heap.get?_none_of_le (Nat.le_refl _)
  obtain ⟨I2, E2⟩ := I.new (k := .fz) (fun b o q => Heap.get?_push_of_some _ q) hn (IsRange.new s.heap n m 1 t t' s.toks)
  exact ⟨_, σ, _, h, E2, I2, .rng (if_pos rfl) (IsRange.new s.heap n m 1 t t' s.toks), ⟨rfl, rfl, rfl⟩⟩
theorem one_r {P : Prop} {vs : List Value} {xs : List V} {k : V → Prop} (r : VRs S s.heap g vs xs) (h : one xs k) (c : ∀ v x, vs = [v] → VR S s.heap g v x → k x → P) : P :=
  one_e h fun x e h => by
    obtain ⟨v, q, r1⟩ := vrs1 (e ▸ r)
    exact c v x q r1 h
theorem two_r {P : Prop} {vs : List Value} {xs : List V} {k : V → V → Prop} (r : VRs S s.heap g vs xs) (h : two xs k) (c : ∀ v u x y, vs = [v, u] → VR S s.heap g v x → VR S s.heap g u y → k x y → P) : P :=
  two_e h fun x y e h => by
    obtain ⟨v, u, q, r1, r2⟩ := vrs2 (e ▸ r)
    exact c v u x y q r1 r2 h
theorem prim_range {vs : List Value} {xs : List V} (I : Inv S fr g σ s.heap) (r : VRs S s.heap g vs xs) (h : evRange xs σ K) : wpAny S.M A (call (.type "range") vs []) (Ok S fr No (RV S) g s K) Ev s := by
  have two : two xs (fun v u => need (intV v) fun a => need (intV u) fun b => K (.rng a b) σ) → wpAny S.M A (call (.type "range") vs []) (Ok S fr No (RV S) g s K) Ev s := fun h =>
    two_r r h fun v u x y e r1 r2 h => need_e h fun a ha h => need_e h fun b hb h => e ▸ prim_range2 I (intV_e ha ▸ r1) (intV_e hb ▸ r2) h
  cases xs with
  | nil => exact two h
  | cons x q =>
    cases q with
    | nil =>
      obtain ⟨v, e, r1⟩ := vrs1 r
      exact need_e h fun n hn h => e ▸ prim_range1 I (intV_e hn ▸ r1) h
    | cons y q => exact two h
theorem prim_ok (ok : StaOk S) {p : Prim} {vs : List Value} {xs : List V} (room : Room A) (hn : A.handled = none) (I : Inv S fr g σ s.heap) (r : VRs S s.heap g vs xs) (h : evPrim p xs σ K) : wpAny S.M A (call (primV p) vs []) (Ok S fr No (RV S) g s K) Ev s := by
  cases p with
  | len => exact one_r r h fun v x e r h => need_e h fun l hl h => e ▸ prim_len I r hl (when_e h)
  | isi =>
    refine two_r r h fun v u x y e r1 r2 h => need_e h fun d hd h => need_e h fun n hn h => need_e h fun b hb h => ?_
    have r2 : VR S s.heap g u (.ty n) := tyV_e hn ▸ r2
    rw [e, vr_ty r2]
    exact prim_isi I (pdV_e hd ▸ r1) hb h
  | int => exact one_r r h fun v x e r h => need_e h fun d hd h => need_e h fun i hi h => e ▸ prim_int I (pdV_e hd ▸ r) hi h
  | repr => exact one_r r h fun v x e r h => need_e h fun d hd h => e ▸ prim_repr ok room I r hd (whenL_e h)
  | tuple => exact one_r r h fun v x e r h => e ▸ prim_tuple ok hn I r h
  | range => exact prim_range I r h
  | abs => exact one_r r h fun v x e r h => need_e h fun i hi h => e ▸ prim_abs I (intV_e hi ▸ r) h
  | sorted => exact one_r r h fun v x e r h => need_e h fun l hl h => e ▸ prim_sorted ok hn I r hl h
  | set => exact one_r r h fun v x e r h => need_e h fun l hl h => e ▸ prim_set ok hn I r hl (when_e h)
  | min => exact two_r r h fun v u x y e r1 r2 h => need_e h fun i hi h => need_e h fun j hj h => e ▸ prim_min hn I (intV_e hi ▸ r1) (intV_e hj ▸ r2) h
  | max => exact two_r r h fun v u x y e r1 r2 h => need_e h fun i hi h => need_e h fun j hj h => e ▸ prim_max hn I (intV_e hi ▸ r1) (intV_e hj ▸ r2) h
end

/-! CALLS OF NAMES -/
/-- the names of the little language that the program leaves to the language -/
noncomputable def ownNames : List Str := ["len", "isinstance", "int", "str", "repr", "tuple", "list", "range", "sorted", "set", "dict", "zip", "min", "max", "abs", "bool"].map Str.ofString
structure StaOk3 (S : Sta) : Prop extends StaOk2 S where
  free : ∀ x ∈ ownNames, S.mg x = none
  ko : KOk S
section
variable {S : Sta} {G : CallS} {nd : Nat} {hd : Bool} {cx : Cx}
theorem boot_prims : ∀ p ∈ [(Str.ofString "isinstance", Value.builtin "isinstance")] ++ primTab.map (fun p => (p.1, primV p.2)) ++ tyTab.map (fun p => (p.1, Value.type p.2)), p.1 ≠ "__name__" ∧ p.1 ∈ ownNames ∧ bootBuiltins p.1 = some p.2 := by decide +kernel
theorem own_val (ok : StaOk3 S) {x : Str} {v : Value} (h : (x, v) ∈ [(Str.ofString "isinstance", Value.builtin "isinstance")] ++ primTab.map (fun p => (p.1, primV p.2)) ++ tyTab.map (fun p => (p.1, Value.type p.2))) : S.mg x = none ∧ S.mb x = some v := by
  obtain ⟨h1, h2, h3⟩ := boot_prims _ h
  exact ⟨ok.free _ h2, (ok.builtins _ h1).trans h3⟩
theorem prim_val (ok : StaOk3 S) {x : Str} {p : Prim} (h : primOf x = some p) : S.mg x = none ∧ S.mb x = some (primV p) :=
  own_val ok (List.mem_append_left _ (List.mem_append_right _ (List.mem_map_of_mem (f := fun p => (p.1, primV p.2)) (lookT_mem h))))
theorem ty_val (ok : StaOk3 S) {x : Str} {n : String} (h : tyOf x = some n) : S.mg x = none ∧ S.mb x = some (.type n) :=
  own_val ok (List.mem_append_right _ (List.mem_map_of_mem (f := fun p => (p.1, Value.type p.2)) (lookT_mem h)))
theorem primV_ref {p : Prim} : ∀ a, primV p ≠ .ref a := by cases p <;> nofun
theorem snd_prim (ok : StaOk3 S) {x : Str} {q pos : Pos} {p : Prim} {es : List PySem.Expr} {xs : List X} (hp : primOf x = some p) (hg : nmOf cx x = some .g) (hs : es.all (fun e => !isStar e) = true) (hx : SndXs S G nd false cx es xs) (hn : es = [] → xs = []) :
    SndX S G nd false cx (.Call (.Name x q) es [] pos) (.prim p xs) := by
  intro A env ev outer L Y m mc σ g s K E a I rd h
  replace h := eq_evX_25 h
  obtain ⟨h1, h2⟩ := prim_val ok hp
  rw [arm_eval_Call_Name']
  refine wpAny_bind (eval_builtin a ok.toStaOk I.stays hg h1 h2 ?_)
  refine call_road hs hx a I rd (P := fun _ => True) (keeps_plain primV_ref) h hn fun vs ds σ1 g1 s1 h1 e1 i1 r1 z1 => ⟨trivial, ?_⟩
  exact fromE e1 z1 (wpAny_mono (prim_ok ok.toStaOk a.room (a.hn rfl) i1 r1 h1) (fun _ _ x => x.trans e1 z1) fun _ _ x => x)
end

/-! METHODS OF LISTS -/
theorem base_whole {o : PySem.Expr} (h : baseOk o = true) {name : Str} {env : Env} {whole : Sem Value} : attributeBase o name env whole = whole := by
  cases o <;> try exact rfl
  rename_i f a k p
  cases f <;> try exact rfl
  cases a <;> try exact rfl
  cases k <;> first | exact rfl | cases h
theorem eval_meth {o : PySem.Expr} {name : Str} {ap pos : Pos} {args : List PySem.Expr} {env : Env} (hb : baseOk o = true) (hs : args.all (fun e => !isStar e) = true) (hl : args.length < 20) (hp : (ap.endLine == pos.line) = true) :
    eval (.Call (.Attribute o name ap) args [] pos) env = (do
      let ov ← eval o env
      standAt ap.atName
      let fx ← holding [ov] (getMethod ov name (do return (← importBound o env).getD true))
      callWith pos fx.1 fx.2 (backTo pos (starEach args env)) []) := by
  have hf : methodCallForm (args.length + ([] : List Keyword).length) (backTo pos (starEach args env)) (backToKw pos (keywordEach [] env)) = true := by
    unfold methodCallForm
    have h1 := star_plain (pos := pos) (ev := env) hs
    have h2 : (backTo pos (starEach args env)).all (fun p => !p.1) = true := by
      rw [List.all_eq_true]
      intro p hp
      have := List.any_eq_false.mp h1 p hp
      simpa using this
    have h3 : (backToKw pos (keywordEach [] env)) = [] := rfl
    rw [h2, h3]
    simp
    omega
  rw [arm_eval_Call, base_whole hb]
  unfold methodCall calleeOf methodCallPos
  rw [hf, hp]
  rfl
noncomputable def lmId : LM → String
  | .append => "list.append"
section
variable {S : Sta} {fr : List Env} {A : Around} {g : Gh} {σ : Hp} {s : Shared} {d : V} {K : KV} {Ev : Value → Shared → Prop}
inductive MuList (S : Sta) (g : Gh) (h : Heap) (a : Value) (i : Nat) (l : List PyData) : Prop
  | mk (ws : Array Value) (n : Nat) (hi : i < g.n) (e : a = .ref (g.μ i)) (o : h.get? (g.μ i) = some ⟨.type "list", none, .seq ws n, #[]⟩) (p : PVs S.w.params h g.κ ws.toList l) (z : ws.size = l.length)
theorem VR.muList (I : Inv S fr g σ s.heap) {a : Value} {x : V} {p : Nat × List PyData} (ra : VR S s.heap g a x) (e : lstR σ x = some p) : MuList S g s.heap a p.1 p.2 := by
  obtain ⟨q, e⟩ := lstR_e e
  obtain ⟨rfl, hi⟩ := vr_ref (q ▸ ra)
  obtain ⟨vs, n, e1, r1⟩ := (I.mu _ _ e).asList
  exact ⟨_, _, hi, rfl, e1, r1, r1.length⟩
theorem muDone (I : Inv S fr g σ s.heap) {i : Nat} {o : O} {x : V} {v : Value} {h' : Heap} {k : Nat} (hi : i < g.n) (kp : Heap.SameBut (g.μ i) s.heap h') (hM : Up g g s.heap h' → MO S h' g (g.μ i) o) (rv : VR S s.heap g v x) (hK : K x (σ.set i o)) :
    Ok S fr No (RV S) g s K v { s with heap := h', toks := k } := by
  have hs : ∃ ob, h'.get? (g.μ i) = some ob := by
    have kp2 : ∀ b o, b ≠ g.μ i → s.heap.get? b = some o → h'.get? b = some o := fun b o q e => (kp.2 b q).trans e
    have U : Up g g s.heap h' := ⟨Nat.le_refl _, fun _ _ => rfl, fun b o q e => ⟨q, kp2 b o (fun z => by rw [z, I.km i hi] at q; cases q) e⟩⟩
    exact (hM U).at
  obtain ⟨I2, E2⟩ := I.upMu hi (fun b o q e => (kp.2 b q).trans e) hs hM
  exact ⟨x, _, g, hK, E2, I2, rv.mono E2.up, ⟨rfl, rfl, rfl⟩⟩
theorem PVs.snoc {P : Params} {h : Heap} {κ : Addr → Kd} {vs : Array Value} {l : List PyData} {v : Value} {d : PyData} (p : PVs P h κ vs.toList l) (q : PV P h κ v d) : PVs P h κ (vs.push v).toList (l ++ [d]) := by
  rw [Array.toList_push]; exact p.append (.cons q .nil)
theorem lm_append (I : Inv S fr g σ s.heap) {a v : Value} {d : PyData} {i : Nat} {l : List PyData} (m : MuList S g s.heap a i l) (rv : VR S s.heap g v (.pd d)) (h : l.length < sizeLine ∧ K (.pd .none) (σ.set i (.list (l ++ [d])))) :
    wpAny S.M A (call (.builtin "list.append") [a, v] []) (Ok S fr No (RV S) g s K) Ev s := by
  obtain ⟨ws, n, hi, e, e1, p, hl⟩ := m
  rw [e]
  exact append_at e1 (fun h' sb e2 => muDone (k := s.toks) I hi sb (fun u => .list (vs := (ws.push v).toList) e2 ((p.snoc (vr_pd rv)).mono u.fz)) (.pd .none) h.2) (hl ▸ Nat.le_of_lt h.1)
theorem lm_ok {q : LM} {o : V} {a : Value} {vs : List Value} {xs : List V} (I : Inv S fr g σ s.heap) (ra : VR S s.heap g a o) (r : VRs S s.heap g vs xs) (h : evLM q o xs σ K) :
    wpAny S.M A (call (.builtin (lmId q)) ([a] ++ vs) []) (Ok S fr No (RV S) g s K) Ev s := by
  cases q with
  | append => exact one_r r h fun v x e r h => need_e h fun d hd h => need_e h fun p hp h => e ▸ lm_append I (ra.muList I hp) (pdV_e hd ▸ r) (when_e h)
end
section
variable {S : Sta} {G : CallS} {nd : Nat} {hd : Bool} {cx : Cx}
theorem lm_slot {q : LM} {y : Str} (hy : lmOf y = some q) : Slot "list" y (lmId q) ∧ typeOf (.builtin (lmId q)) = pure (.type "method_descriptor") := by
  have : ∀ p ∈ [(Str.ofString "append", LM.append)], Slot "list" p.1 (lmId p.2) ∧ typeOf (.builtin (lmId p.2)) = pure (.type "method_descriptor") :=
    List.forall_mem_cons.mpr ⟨⟨PySem.F.slot_list_append, PySem.F.type_list_append⟩, fun _ h => (List.not_mem_nil h).elim⟩
  exact this _ (lookT_mem hy)
theorem snd_lm (ok : StaOk S) {q : LM} {y : Str} {ap pos : Pos} {oe : PySem.Expr} {es : List PySem.Expr} {o : X} {xs : List X} (hy : lmOf y = some q) (hb : baseOk oe = true) (hp : (ap.endLine == pos.line) = true) (hl : es.length < 20) (hs : es.all (fun e => !isStar e) = true) (ho : SndX S G nd hd cx oe o) (hx : SndXs S G nd hd cx es xs) (hn : es = [] → xs = []) :
    SndX S G nd hd cx (.Call (.Attribute oe y ap) es [] pos) (.lm q o xs) := by
  intro A env ev outer L Y m mc σ g s K E a I rd h
  replace h := eq_evX_26 h
  rw [eval_meth hb hs hl hp]
  refine wpAny_bind (step (ho A env ev outer L Y m mc σ g s _ E a I rd h) fun v d σ1 g1 s1 h1 e1 i1 r1 z1 => ?_)
  obtain ⟨hk, h1⟩ := when_e h1
  obtain ⟨p, hp⟩ := Option.isSome_iff_exists.mp hk
  obtain ⟨ws, n, hi', e, e2, pp, hl'⟩ := r1.muList i1 hp
  obtain ⟨sl, ty⟩ := lm_slot hy
  rw [e]
  refine wpAny_bind (wpAny_standAt (wpAny_bind (wpAny_holding (getMethod_list_of sl ty ⟨_, e2, rfl, _, rfl⟩ ⟨_, e2, rfl⟩ ?_))))
  rw [← e]
  refine fromE e1 z1 ?_
  refine call_road hs hx a i1 (rd.mono e1) (P := fun _ => True) (keeps_plain (by nofun)) h1 hn fun vs ds σ2 g2 s2 h2 e2 i2 r2 z2 => ⟨trivial, ?_⟩
  exact wpAny_mono (lm_ok i2 (r1.mono e2.up) r2 h2) (fun _ _ x => x.trans (e1.trans e2) (z1.trans z2)) fun _ _ x => x
end

/-! ARGUMENTS, LAMBDAS -/
inductive LRs (S : Sta) (h : Heap) (g : Gh) : List Value → List Loc → Prop
  | nil : LRs S h g [] []
  | cons {v : Value} {vs : List Value} {l : Loc} {ls : List Loc} : LR S No h g v l → LRs S h g vs ls → LRs S h g (v :: vs) (l :: ls)
theorem LRs.of_vrs {S : Sta} {h : Heap} {g : Gh} {vs : List Value} {ds : List V} (r : VRs S h g vs ds) : LRs S h g vs (ds.map .v) := by
  induction r with
  | nil => exact .nil
  | cons a _ ih => exact .cons (.v a) ih
noncomputable abbrev RLs (S : Sta) : Heap → Gh → List Value → List Loc → Prop := fun h g v d => LRs S h g v d
noncomputable def SndAs (S : Sta) (G : CallS) (nd : Nat) (hd : Bool) (cx : Cx) (es : List PySem.Expr) (xs : List X) : Prop :=
  ∀ A env ev outer L Y m mc σ g s K E pos, Act S cx A env ev outer L nd hd → Inv S (env :: outer) g σ s.heap → Rd S cx ev Y s.heap g m mc → evAs G S.gc m mc xs σ K E →
    wpAny S.M A (spliced (backTo pos (starEach es ev))) (Ok S (env :: outer) No (RLs S) g s K) (Er S (env :: outer) No false g s E) s

/-- the table grows by a code -/
theorem Inv.table {S : Sta} {fr : List Env} {g : Gh} {σ : Hp} {h h' : Heap} (I : Inv S fr g σ h) {c : Addr} {oc : Obj} {vs : Array Value} {t : Tok} {ps ps' : Array Value} {pos : Pos} (hx : Heap.ExtBut S.tp h h') (hn : h.get? c = none) (hc : h'.get? c = some oc) (hd : oc.data = .fields vs) (hv : vs[1]? = some (.str S.lq t))
    (h0 : h.get? S.tp = some (tabObj ps)) (hP : h'.get? S.tp = some (tabObj ps')) (ht : TriplesOk ps'.toList) (hh : ∀ p cv, codeAmong p ps'.toList = some cv → codeAmong p ps.toList = some cv ∨ cv = .ref c) :
    Inv S fr (g.put c .fz) σ h' ∧ Ext No g (g.put c .fz) h h' := by
  have ne : ∀ b o, h.get? b = some o → b ≠ c := fun b o e q => by rw [q, hn] at e; cases e
  have hk : ∀ b o, h.get? b = some o → (g.put c .fz).κ b = g.κ b := fun b o e => if_neg (ne b o e)
  have kp : ∀ b o, g.κ b ≠ .tb → h.get? b = some o → h'.get? b = some o := fun b o q e => hx b o (fun z => q (z ▸ I.tb.k)) e
  have st : ∀ b o, h.get? b = some o → ∃ o', h'.get? b = some o' := fun b o e => by
    by_cases z : b = S.tp
    · rw [z]; exact ⟨_, hP⟩
    · exact ⟨o, hx b o z e⟩
  have E : Ext No g (g.put c .fz) h h' := ⟨hk, Nat.le_refl _, fun _ _ => rfl, fun b o q e => ⟨(hk b o e).trans q, kp b o (by rw [q]; decide) e⟩, fun b o e _ _ _ _ q => kp b o q e, fun b o e _ q => ⟨o.slots, kp b o (by rw [q]; decide) e⟩, fun b o vs e _ q z => ⟨vs, z ▸ kp b o (by rw [q]; decide) e⟩, st⟩
  refine ⟨⟨fun b o e => kp b o (by rw [I.bfz b o e]; decide) (I.stays b o e), fun b o e => (hk b o (I.stays b o e)).trans (I.bfz b o e), fun b e => ?_, I.num, fun i o e => (I.mu i o e).mono_at E.up fun ob q => kp _ _ (by rw [I.km i (I.lt e)]; decide) q, fun i hi => ?_, I.inj, I.fr.mono E, ⟨(hk _ _ h0).trans I.tb.k, ps', hP, ht, fun p cv q => ?_⟩⟩, E⟩
  · show (if b = c then Kd.fz else g.κ b) = .ot
    rw [if_neg (fun q => by rw [q, hc] at e; cases e)]
    refine I.ot b ?_
    cases z : h.get? b with
    | none => rfl
    | some o => obtain ⟨o', y⟩ := st b o z; rw [y] at e; cases e
  · obtain ⟨ob, e⟩ := I.muAt hi
    exact (hk _ ob e).trans (I.km i hi)
  · rcases hh p cv q with q | rfl
    · obtain ⟨ps0, e0, _, h3⟩ := I.tb.at_
      rw [h0] at e0; cases e0
      obtain ⟨c1, oc1, vs1, t1, q1, q2, q3, q4⟩ := h3 p cv q
      exact ⟨c1, oc1, vs1, t1, q1, (E.fz _ _ q2 q3).1, (E.fz _ _ q2 q3).2, q4⟩
    · exact ⟨c, oc, vs, t, rfl, if_pos rfl, hc, hd, hv⟩

noncomputable def closL (cells : List (Str × Addr)) : Names → List (Str × Addr) → List (Str × Addr)
  | [], acc => acc
  | (x, k) :: r, acc => if k == .free then closL cells r ((x, (cells.lookup x).getD 0) :: acc) else closL cells r acc
theorem closureFor_eq {scope : Scope} {env : Env} (h : ∀ p ∈ scope.names, p.2 = .free → ∃ c, env.cells.lookup p.1 = some c) : closureFor scope env = pure (closL env.cells scope.names []) := by
  have : ∀ (l : Names) (acc : List (Str × Addr)), (∀ p ∈ l, p.2 = .free → ∃ c, env.cells.lookup p.1 = some c) →
      (forIn l acc fun (p : Str × NameKind) (cs : List (Str × Addr)) => do
        if p.2 == .free then do let a ← cellOf env p.1; pure (ForInStep.yield ((p.1, a) :: cs)) else pure (ForInStep.yield cs)) = (pure (closL env.cells l acc) : Sem _) := by
    intro l
    induction l with
    | nil => intro acc _; rfl
    | cons p r ih =>
      intro acc hl
      obtain ⟨x, k⟩ := p
      rw [List.forIn_cons]
      unfold closL
      cases hk : (k == NameKind.free) with
      | true =>
        obtain ⟨c, hc⟩ := hl (x, k) (.head _) (by simpa using hk)
        simp only [if_true, hc, Option.getD_some]
        have : cellOf env x = pure c := by unfold cellOf; dsimp only at hc; rw [hc]
        rw [this]
        simp only [pure_bind]
        exact ih _ fun q hq => hl q (.tail _ hq)
      | false =>
        simp only [Bool.false_eq_true, if_false, pure_bind]
        exact ih _ fun q hq => hl q (.tail _ hq)
  unfold closureFor
  have := this scope.names [] h
  simpa using this
theorem lookup_mem' {α β : Type} [BEq α] [LawfulBEq α] {x : α} {k : β} : ∀ {l : List (α × β)}, l.lookup x = some k → (x, k) ∈ l
  | [], h => by cases h
  | (a, b) :: r, h => by
    by_cases q : x = a
    · subst q; simp [List.lookup] at h; subst h; exact .head _
    · have : (x == a) = false := by simpa using q
      simp only [List.lookup, this] at h
      exact .tail _ (lookup_mem' h)
theorem mem_lookup {α β : Type} [BEq α] [LawfulBEq α] {x : α} {k : β} : ∀ {l : List (α × β)}, (x, k) ∈ l → ∃ k', l.lookup x = some k'
  | (a, b) :: r, h => by
    by_cases q : x = a
    · subst q; exact ⟨b, by simp [List.lookup]⟩
    · have : (x == a) = false := by simpa using q
      simp only [List.lookup, this]
      rcases List.mem_cons.mp h with h | h
      · cases h; exact absurd rfl q
      · exact mem_lookup h
theorem closL_all {cells : List (Str × Addr)} : ∀ {l : Names} {acc : List (Str × Addr)}, (∀ p ∈ acc, p.2 = (cells.lookup p.1).getD 0) → ∀ p ∈ closL cells l acc, p.2 = (cells.lookup p.1).getD 0
  | [], acc, h => h
  | (x, k) :: r, acc, h => by
    unfold closL
    split
    · exact closL_all fun p hp => (List.mem_cons.mp hp).elim (fun q => by rw [q]) (h p)
    · exact closL_all h
theorem closL_has {cells : List (Str × Addr)} {x : Str} : ∀ {l : Names} {acc : List (Str × Addr)}, ((x, NameKind.free) ∈ l ∨ ∃ c, (x, c) ∈ acc) → ∃ c, (x, c) ∈ closL cells l acc
  | [], acc, h => h.elim (fun q => by cases q) id
  | (y, k) :: r, acc, h => by
    unfold closL
    rcases h with h | ⟨c, h⟩
    · rcases List.mem_cons.mp h with h | h
      · cases h
        simp only [beq_self_eq_true, if_true]
        exact closL_has (.inr ⟨_, .head _⟩)
      · split <;> exact closL_has (.inl h)
    · split
      · exact closL_has (.inr ⟨c, .tail _ h⟩)
      · exact closL_has (.inr ⟨c, h⟩)
theorem closL_lookup {cells : List (Str × Addr)} {x : Str} {c : Addr} {l : Names} (hc : cells.lookup x = some c) (h : l.lookup x = some .free) : (closL cells l []).lookup x = some c := by
  obtain ⟨d, hd⟩ := closL_has (cells := cells) (acc := []) (.inl (lookup_mem' h))
  obtain ⟨d', hd'⟩ := mem_lookup hd
  have := closL_all (cells := cells) (l := l) (acc := []) (by simp) _ (lookup_mem' hd')
  simp only [hc, Option.getD_some] at this
  rw [hd', this]
theorem snap_get {vis : List Nat} : ∀ {m : Fm} {k i : Nat} {y : V}, (snap vis k m)[i]? = some (some y) → m[i]? = some (some (.v y))
  | [], _, _, _, h => nomatch h
  | o :: r, k, 0, y, h => by
    have h : (match vis.contains k with | true => o.bind valL | false => none) = some y := Option.some.inj h
    cases hv : vis.contains k with
    | false => rw [hv] at h; cases h
    | true =>
      rw [hv] at h
      exact bd_e h fun l h1 h2 => by rw [h1, valL_e h2]; rfl
  | o :: r, k, i + 1, y, h => snap_get (m := r) (k := k + 1) (i := i) h
theorem among_snoc {p : Pos} {a b : Int} {c cv : Value} (l : List Value) (h : TriplesOk l) (q : codeAmong p (l ++ [rawInt a, rawInt b, c]) = some cv) : codeAmong p l = some cv ∨ cv = c := by
  fun_induction TriplesOk l with
  | case1 =>
    simp only [List.nil_append, rawInt, codeAmong] at q
    split at q
    · cases q; exact .inr rfl
    · cases q
  | case2 a' t b' u x rest ih =>
    simp only [List.cons_append, codeAmong] at q ⊢
    split at q
    · rename_i e; rw [if_pos e]; exact .inl q
    · rename_i e; rw [if_neg e]; exact ih h q
  | case3 l h1 h2 => exact h.elim
theorem noArgs_eq {a : Arguments} (h : noArgs a = true) : a = ⟨[], [], none, [], [], none, []⟩ := by
  obtain ⟨a, b, c, d, e, f, g⟩ := a
  obtain ⟨h1, h⟩ := Bool.and_eq_true_iff.mp h
  obtain ⟨h2, h⟩ := Bool.and_eq_true_iff.mp h
  obtain ⟨h3, h⟩ := Bool.and_eq_true_iff.mp h
  obtain ⟨h4, h⟩ := Bool.and_eq_true_iff.mp h
  obtain ⟨h5, h⟩ := Bool.and_eq_true_iff.mp h
  obtain ⟨h6, h⟩ := Bool.and_eq_true_iff.mp h
  rw [List.isEmpty_iff.mp h1, List.isEmpty_iff.mp h2, Option.isNone_iff_eq_none.mp h3, List.isEmpty_iff.mp h4, List.isEmpty_iff.mp h5, Option.isNone_iff_eq_none.mp h6, List.isEmpty_iff.mp h]
section
variable {S : Sta} {G : CallS} {nd : Nat} {hd : Bool} {cx : Cx}
theorem snd_lam (ok : StaOk S) {fn : Names} {a : Arguments} {e : PySem.Expr} {sc : Scope} {pos : Pos} {b : X} {vis : List Nat} (hno : noArgs a = true) (hl : lamOk fn sc = true) (hc : lamX (S.at (lamNames fn sc.names) none) e = some b)
    {A : Around} {env ev : Env} {outer : List Env} {L : Addr} {Y : Addr → Prop} {m mc : Fm} {σ : Hp} {g : Gh} {s : Shared} {E : KE} (ac : Act S (S.at fn none true) A env ev outer L nd hd) (I : Inv S (env :: outer) g σ s.heap) (rd : Rd S (S.at fn none true) ev Y s.heap g m mc) :
    wpAny S.M A (eval (.Lambda a e sc pos) ev) (fun v s1 => ∃ g1, Ext No g g1 s.heap s1.heap ∧ Inv S (env :: outer) g1 σ s1.heap ∧ LR S No s1.heap g1 v (.lam b (snap vis 0 m)) ∧ Rest s s1) (Er S (env :: outer) No false g s E) s := by
  obtain rfl := noArgs_eq hno
  have l1 := Bool.and_eq_true_iff.mp hl
  have l2 := Bool.and_eq_true_iff.mp l1.1
  have l3 := Bool.and_eq_true_iff.mp l2.1
  have l4 := Bool.and_eq_true_iff.mp l3.1
  have hk := l4.1
  have hge := l4.2
  have hco := l3.2
  have hcell := l2.2
  have hfree := l1.2
  have hfr : ∀ p ∈ sc.names, p.2 = .free → badN p.1 = false ∧ ∃ i, idxOf fn p.1 0 = some (i, .cell) := fun p hp hq => by
    have := List.all_eq_true.mp hfree p hp
    simp only [Bool.or_eq_true, Bool.and_eq_true, bne_iff_ne, ne_eq, hq, not_true, false_or] at this
    refine ⟨by simpa using this.1, ?_⟩
    have := this.2
    split at this
    · exact ⟨_, by assumption⟩
    · cases this
  obtain ⟨hcode, hq⟩ := ac.lam rfl
  have hcells : ∀ x, (x, NameKind.free) ∈ sc.names → ∃ i c o, idxOf fn x 0 = some (i, .cell) ∧ ev.kindOf x = some .cell ∧ ev.cells.lookup x = some c ∧ g.κ c = .cl ∧ s.heap.get? c = some o := fun x hx => by
    obtain ⟨_, i, hi⟩ := hfr _ hx rfl
    obtain ⟨h1, c, o, h2, h3, h4⟩ := rd.c rfl x i hi
    exact ⟨i, c, o, hi, h1, h2, h3, h4⟩
  have hcl : closureFor sc ev = pure (closL ev.cells sc.names []) := closureFor_eq fun p hp hq => by
    obtain ⟨x, k⟩ := p
    dsimp only at hq; subst hq
    obtain ⟨i, c, o, _, _, h2, _⟩ := hcells x hp
    exact ⟨c, h2⟩
  have hg := ns_of (fun o e => I.stays _ _ e) ok.g
  have hgP : mainGlobals ≠ S.tp := fun q => by
    obtain ⟨o, _, _, e, _⟩ := ok.g
    rw [q, ok.tn] at e; cases e
  have C := ok.lc.keeps fun b o e => I.stays b o e
  have hb := ok.ba _ I.stays
  -- the made function
  have fin : ∀ (g1 : Gh) (h1 : Heap) (cv ctv pm : Value) (tk : Tok), Inv S (env :: outer) g1 σ h1 → Ext No g g1 s.heap h1 → (∃ c oc vs t, cv = .ref c ∧ g1.κ c = .fz ∧ h1.get? c = some oc ∧ oc.data = .fields vs ∧ vs[1]? = some (.str S.lq t)) →
      ∃ g2, Ext No g g2 s.heap (h1.push { cls := .type "function", data := .func (kla_fn "<lambda>" S.lq ⟨[], [], none, [], [], none, []⟩ e sc (closL ev.cells sc.names []) pm cv ctv) }) ∧ Inv S (env :: outer) g2 σ (h1.push { cls := .type "function", data := .func (kla_fn "<lambda>" S.lq ⟨[], [], none, [], [], none, []⟩ e sc (closL ev.cells sc.names []) pm cv ctv) }) ∧
        LR S No (h1.push { cls := .type "function", data := .func (kla_fn "<lambda>" S.lq ⟨[], [], none, [], [], none, []⟩ e sc (closL ev.cells sc.names []) pm cv ctv) }) g2 (.ref h1.objs.size) (.lam b (snap vis 0 m)) := by
    intro g1 h1 cv ctv pm tk I1 E1 hcv
    have hn : h1.get? h1.objs.size = none := Heap.get?_none_of_le (Nat.le_refl _)
    obtain ⟨I2, E2⟩ := I1.new (k := .fz) (fun b o q => Heap.get?_push_of_some _ q) hn (Heap.get?_push_size h1 (o := { cls := .type "function", data := .func (kla_fn "<lambda>" S.lq ⟨[], [], none, [], [], none, []⟩ e sc (closL ev.cells sc.names []) pm cv ctv) }) rfl)
    refine ⟨_, E1.trans E2, I2, .lam ⟨_, _, fn, e, if_pos rfl, Heap.get?_push_size _ rfl, rfl, ⟨rfl, rfl, rfl, rfl, rfl, by simpa using hk, by simpa using hge, by simpa using hco, hc, fun x hx => by simpa using List.all_eq_true.mp hcell x hx⟩, ?_, fun x i hi hlk => ?_⟩⟩
    · obtain ⟨c, oc, vs, t, q1, q2, q3, q4⟩ := hcv
      exact ⟨c, oc, vs, t, q1, (E2.fz _ _ q2 q3).1, (E2.fz _ _ q2 q3).2, q4.1, q4.2⟩
    · obtain ⟨j, c, o, hj, k1, k2, k3, k4⟩ := hcells x (lookup_mem' hlk)
      rw [hj] at hi; cases hi
      have EE := E1.trans E2
      have kc := EE.keep c o k4 id (by rw [k3]; decide) (by rw [k3]; decide) (by rw [k3]; decide) (by rw [k3]; decide)
      refine ⟨c, o, closL_lookup k2 hlk, (EE.kind _ _ k4).trans k3, id, kc, fun y hy => ?_⟩
      have hm := snap_get hy
      have hbad := (hfr _ (lookup_mem' hlk) rfl).1
      have hnm : nmOf (S.at fn none true) x = some (.v j) := by
        exact nmOf_i (cx := S.at fn none true) (by simpa using hbad) rfl hj
      obtain ⟨v, na, r⟩ := rd.v x j hnm _ hm
      rcases na with ⟨k, _⟩ | ⟨c', _, l', _, o', ho', hd'⟩
      · rw [k1] at k; cases k
      · rw [k2] at l'; cases l'
        rw [k4] at ho'; cases ho'
        cases r with
        | v r => exact ⟨v, ⟨o, kc, hd'⟩, r.mono EE.up⟩
  refine kla_eval rfl ?_
  rw [hq]
  obtain ⟨ps, h0, ht, hh⟩ := I.tb.at_
  cases hf : codeAmong pos ps.toList with
  | some cv =>
    refine kla_makeFunctionHit (mg := S.mg) hcl ac.gl hg hcode C h0 ht hf hb fun ctv h' tk kp hsz => ?_
    obtain ⟨I1, E1⟩ := I.keeps kp
    obtain ⟨c, oc, vs, t, q1, q2, q3, q4⟩ := hh pos cv hf
    obtain ⟨g2, E2, I2, r⟩ := fin g h' cv ctv _ tk I1 E1 ⟨c, oc, vs, t, q1, (E1.fz _ _ q2 q3).1, (E1.fz _ _ q2 q3).2, q4⟩
    exact ⟨g2, E2, I2, r, ⟨rfl, rfl, rfl⟩⟩
  | none =>
    refine kla_makeFunction (mg := S.mg) hcl ac.gl hg hcode C h0 ht hf hgP hb fun c' ctv h' tk hx hge hlt hrec hP => ?_
    obtain ⟨c, oc, vs, t, q1, q2, q3, q4⟩ := hrec
    cases q1
    have hn : s.heap.get? c' = none := Heap.get?_none_of_le hge
    obtain ⟨I1, E1⟩ := I.table (pos := pos) hx hn q2 q3 q4 h0 hP (by simpa using TriplesOk_snoc _ _ _ _ ht) fun p cv q => by
      rw [Array.toList_append] at q
      exact among_snoc _ ht q
    obtain ⟨g2, E2, I2, r⟩ := fin _ h' (.ref c') ctv _ tk I1 E1 ⟨c', oc, vs, t, rfl, if_pos rfl, q2, q3, q4⟩
    exact ⟨g2, E2, I2, r, ⟨rfl, rfl, rfl⟩⟩
theorem sas_nil : SndAs S G nd hd cx [] [] := by
  intro A env ev outer L Y m mc σ g s K E pos a I rd h
  exact spliced_none (.here (K := K) h ⟨I, .refl _ _ _⟩ .nil (.refl _))
theorem sas_cons {e : PySem.Expr} {es : List PySem.Expr} {x : X} {xs : List X} (hx : SndX S G nd hd cx e x) (hr : SndAs S G nd hd cx es xs) (hs : isStar e = false) (hl : ∀ b v, x ≠ .lam b v) : SndAs S G nd hd cx (e :: es) (x :: xs) := by
  intro A env ev outer L Y m mc σ g s K E pos a I rd h
  replace h := eq_evAs_2 hl h
  refine spliced_more (step (hx A env ev outer L Y m mc σ g s _ E a I rd h) fun v d σ1 g1 s1 h1 e1 i1 r1 z1 => ?_) (by cases e <;> first | rfl | cases hs)
  refine fromE e1 z1 (step (hr A env ev outer L Y m mc σ1 g1 s1 _ E pos a i1 (rd.mono e1) h1) fun vs ds σ2 g2 s2 h2 e2 i2 r2 z2 => ?_)
  exact ⟨.v d :: ds, σ2, g2, h2, e1.trans e2, i2, .cons (.v (r1.mono e2.up)) r2, z1.trans z2⟩
theorem sas_lam (ok : StaOk S) {fn : Names} {a : Arguments} {e : PySem.Expr} {sc : Scope} {pos : Pos} {b : X} {vis : List Nat} {es : List PySem.Expr} {xs : List X} (hno : noArgs a = true) (hl : lamOk fn sc = true) (hc : lamX (S.at (lamNames fn sc.names) none) e = some b)
    (hr : SndAs S G nd hd (S.at fn none true) es xs) : SndAs S G nd hd (S.at fn none true) (.Lambda a e sc pos :: es) (.lam b vis :: xs) := by
  intro A env ev outer L Y m mc σ g s K E pos ac I rd h
  replace h := eq_evAs_1 h
  refine spliced_more (wpAny_mono (snd_lam (vis := vis) ok hno hl hc ac I rd) (fun v s1 hv => ?_) fun _ _ x => x) rfl
  obtain ⟨g1, e1, i1, r1, z1⟩ := hv
  refine fromE e1 z1 (step (hr A env ev outer L Y m mc σ g1 s1 _ E pos ac i1 (rd.mono e1) h) fun vs ds σ2 g2 s2 h2 e2 i2 r2 z2 => ?_)
  exact ⟨_ :: ds, σ2, g2, h2, e1.trans e2, i2, .cons (r1.mono e2) r2, z1.trans z2⟩

/-! CALLS OF THE PROGRAM'S OWN FUNCTIONS: what is asked of them -/
structure CallAt (A : Around) (env : Env) (outer : List Env) (L : Addr) (nd : Nat) : Prop where
  hn : A.handled = none
  frames : A.frames = some (env :: outer)
  guards : A.guards = some []
  depth : A.depth + nd + 10 < recursionLimit
  units : A.units + 16 * nd + 300 < cLine
theorem Act.call {A : Around} {env ev : Env} {outer : List Env} {L : Addr} (a : Act S cx A env ev outer L nd false) : CallAt A env outer L nd := ⟨a.hn rfl, a.frames, a.guards, a.depth, a.units⟩
structure CallOk (S : Sta) (G : CallS) (nd : Nat) : Prop where
  fn : ∀ {f A env outer L g σ s K E as vs}, CallAt A env outer L nd → Inv S (env :: outer) g σ s.heap → LRs S s.heap g vs as → f ≠ 0 → G f as σ K E →
    wpAny S.M A (call (.ref (S.fa f)) vs []) (Ok S (env :: outer) No (RV S) g s K) (Er S (env :: outer) No false g s E) s
  lam : ∀ {f A env outer L g σ s K E b m}, CallAt A env outer L nd → Inv S (env :: outer) g σ s.heap → LamAt S No s.heap g f b m → G 0 [.lam b m] σ K E →
    wpAny S.M A (call (.ref f) [] []) (Ok S (env :: outer) No (RV S) g s K) (Er S (env :: outer) No false g s E) s
end

/-! CALLS OF THE PROGRAM'S OWN -/
structure KOk2 (S : Sta) : Prop where
  fk : ∀ x f, lookT S.cx.funs x = some f → f ≠ 0 ∧ keepIn S.K (.ref (S.fa f)) = true
  mt : ∀ x f, lookT S.cx.meths x = some f → f ≠ 0 ∧ keepIn S.K (.ref (S.fa f)) = true ∧ x ≠ Str.ofString "scope" ∧ findIn S.K (.ref S.cev) x = some (some (.ref (S.fa f))) ∧ typeIn S.K (.ref (S.fa f)) = some (.type "function")
  ek : keepIn S.K (.ref S.cev) = true
  eg : S.mg (Str.ofString "Evaluator") = some (.ref S.cev)
  xCl : ∀ b, isClsIn S.K (S.ec b) = true
  xTy : ∀ b, typeIn S.K (.ref (S.ec b)) = some (.type "type")
  xTu : ∀ b, instIn S.K (.ref (S.ec b)) (.type "tuple") = some false
  xEq : ∀ a b, mroIn S.K (S.ec a) (.ref (S.ec b)) = some (a == b)
  xKp : ∀ b, keepIn S.K (.ref (S.ec b)) = true
  xF : S.mg (Str.ofString "EvalFault") = some (.ref (S.ec false))
  xL : S.mg (Str.ofString "LimitFault") = some (.ref (S.ec true))
structure NewOk (S : Sta) (nd : Nat) : Prop where
  new : ∀ {A env outer L g σ s sc v Ev}, CallAt A env outer L nd → Inv S (env :: outer) g σ s.heap → VR S s.heap g v sc → ((∃ d, sc = .pd (.dict d)) ∨ ∃ i, sc = .ref i) → wpAny S.M A (call (.ref S.cev) [v] []) (Is S (env :: outer) g σ s (.evr sc)) Ev s

section
variable {S : Sta} {G : CallS} {nd : Nat} {hd : Bool} {cx : Cx}
theorem LR.but {X Y : Addr → Prop} {h : Heap} {g : Gh} {v : Value} {l : Loc} (f : ∀ a o, h.get? a = some o → ¬ Y a → ¬ X a) (r : LR S Y h g v l) : LR S X h g v l := by
  cases r with
  | v r => exact .v r
  | fault r =>
    obtain ⟨k, n, oe, vs, dx, mp, h1, r⟩ := r
    exact .fault ⟨k, f _ _ h1 n, oe, vs, dx, mp, h1, r⟩
  | lam r =>
    obtain ⟨o, fd, fn, e, h1, h2, h3, st, co, fr⟩ := r
    refine .lam ⟨o, fd, fn, e, h1, h2, h3, st, co, fun x i e1 e2 => ?_⟩
    obtain ⟨c, o, q1, q2, q3, q4, q5⟩ := fr x i e1 e2
    exact ⟨c, o, q1, q2, f _ _ q4 q3, q4, q5⟩
theorem LR.no {Y : Addr → Prop} {h : Heap} {g : Gh} {v : Value} {l : Loc} (r : LR S Y h g v l) : LR S No h g v l := r.but fun _ _ _ _ => id
theorem args_road {A : Around} {env ev : Env} {outer : List Env} {L : Addr} {Y : Addr → Prop} {m mc : Fm} {σ : Hp} {g : Gh} {s : Shared} {K : List Loc → Hp → Prop} {E : KE} {Q : Value → Shared → Prop} {pos : Pos} {es : List PySem.Expr} {xs : List X} {f : Value} {first : List Value} {P : Heap → Prop}
    (hs : es.all (fun e => !isStar e) = true) (hx : SndAs S G nd hd cx es xs) (a : Act S cx A env ev outer L nd hd) (I : Inv S (env :: outer) g σ s.heap) (rd : Rd S cx ev Y s.heap g m mc)
    (hk : ∀ h, P h → ∃ k, (k = Keeper.frame ∨ k = Keeper.machine ∨ k = Keeper.boundFrame) ∧ Looks S.M h (keeperOf f) k) (h : evAs G S.gc m mc xs σ K E) (hn : es = [] → xs = [])
    (c : ∀ vs ds σ1 g1 s1, K ds σ1 → Ext No g g1 s.heap s1.heap → Inv S (env :: outer) g1 σ1 s1.heap → LRs S s1.heap g1 vs ds → Rest s s1 → P s1.heap ∧ wpAny S.M A (call f (first ++ vs) []) Q (Er S (env :: outer) No false g s E) s1) :
    wpAny S.M A (callWith pos f first (backTo pos (starEach es ev)) []) Q (Er S (env :: outer) No false g s E) s := by
  have hp := star_plain (pos := pos) (ev := ev) hs
  refine callWith_of (P := P) (by rw [hp]; rfl) hk ?_
  cases es with
  | nil =>
    obtain rfl := hn rfl
    exact evalArgs_nil3 (c [] [] σ g s h (.refl _ _ _) I .nil (.refl _))
  | cons e r =>
    rw [List.all_cons, Bool.and_eq_true] at hs
    have hq := hx A env ev outer L Y m mc σ g s K E pos a I rd h
    rw [star_cons (by simpa using hs.1)] at hq ⊢
    exact evalArgs_plain (step hq fun vs ds σ1 g1 s1 h1 e1 i1 r1 z1 => c vs ds σ1 g1 s1 h1 e1 i1 r1 z1)
theorem snd_call (ok : StaOk3 S) (k2 : KOk2 S) (co : CallOk S G nd) {x : Str} {f : Nat} {q pos : Pos} {es : List PySem.Expr} {xs : List X} (hf : lookT S.cx.funs x = some f) (hg : nmOf cx x = some .g) (hs : es.all (fun e => !isStar e) = true) (hx : SndAs S G nd false cx es xs) (hn : es = [] → xs = []) :
    SndX S G nd false cx (.Call (.Name x q) es [] pos) (.call f xs) := by
  intro A env ev outer L Y m mc σ g s K E a I rd h
  replace h := eq_evX_20 h
  rw [arm_eval_Call_Name']
  refine wpAny_bind (eval_global a ok.toStaOk I.stays hg (ok.funs x f hf) ?_)
  obtain ⟨f0, fk⟩ := k2.fk x f hf
  refine args_road hs hx a I rd (P := S.K.In) (keeps_K fk) h hn fun vs ds σ1 g1 s1 h1 e1 i1 r1 z1 => ⟨kIn ok.toStaOk i1, ?_⟩
  exact fromE e1 z1 (wpAny_mono (co.fn a.call i1 r1 f0 h1) (fun _ _ x => x.trans e1 z1) fun _ _ x => x)
theorem snd_lcall (co : CallOk S G nd) {y : Str} {i : Nat} {q pos : Pos} (hi : nmOf cx y = some (.v i)) : SndX S G nd false cx (.Call (.Name y q) [] [] pos) (.lcall i) := by
  intro A env ev outer L Y m mc σ g s K E a I rd h
  replace h := eq_evX_22 h
  obtain ⟨p, hp, h⟩ := need_some h
  refine locA_e hp fun l hm hl => ?_
  obtain rfl := lamL_e hl
  obtain ⟨v, n, r⟩ := rd.v y i hi _ hm
  cases r with
  | lam r =>
    rename_i f
    rw [arm_eval_Call_Name']
    refine wpAny_bind (n.eval_ a.kf (nmOf_good hi) ?_)
    obtain ⟨o, fd, _, _, _, h2, h3, _, _, _⟩ := id r
    refine callWith_of (P := fun h => h = s.heap) rfl (fun h hh => ⟨.frame, .inl rfl, ?_⟩) (evalArgs_nil3 ⟨rfl, ?_⟩)
    · subst hh
      refine (Looks.ld (part := none) h2).andThen ?_
      rw [h3]; exact .now
    · have : LamAt S No s.heap g f p.1 p.2 := by
        cases (LR.lam r).no (S := S) with
        | lam r => exact r
      exact co.lam a.call I this h
theorem vr_evr {h : Heap} {g : Gh} {v : Value} {sc : V} (r : VR S h g v (.evr sc)) : ∃ a dx e t n, v = .ref a ∧ g.κ a = .fz ∧ h.get? a = some (instObj S.cev dx) ∧ h.get? dx = some (dictOf [e] n) ∧ e.key = .str (Str.ofString "scope") t := by
  cases r with
  | evr k1 k2 e1 e2 a b r => exact ⟨_, _, _, _, _, rfl, k1, e1, e2, a⟩
theorem snd_meth (ok : StaOk3 S) (k2 : KOk2 S) (co : CallOk S G nd) {x : Str} {f : Nat} {ap pos : Pos} {oe : PySem.Expr} {es : List PySem.Expr} {o : X} {xs : List X} (hf : lookT S.cx.meths x = some f) (hb : baseOk oe = true) (hp : (ap.endLine == pos.line) = true) (hl : es.length < 20)
    (hs : es.all (fun e => !isStar e) = true) (ho : SndX S G nd false cx oe o) (hx : SndXs S G nd false cx es xs) (hn : es = [] → xs = []) : SndX S G nd false cx (.Call (.Attribute oe x ap) es [] pos) (.meth f o xs) := by
  intro A env ev outer L Y m mc σ g s K E a I rd h
  replace h := eq_evX_23 h
  rw [eval_meth hb hs hl hp]
  refine wpAny_bind (step (ho A env ev outer L Y m mc σ g s _ E a I rd h) fun v d σ1 g1 s1 h1 e1 i1 r1 z1 => ?_)
  obtain ⟨sc, hsc, h1⟩ := need_some h1
  obtain rfl := evrV_e hsc
  obtain ⟨oa, dx, e, t, n, rfl, q1, q2, q3, q4⟩ := vr_evr r1
  obtain ⟨f0, fk, ne, fi, ft⟩ := k2.mt x f hf
  have II : InstAt s1.heap oa (instObj S.cev dx) S.cev (some (dictOf [e] n)) := ⟨q2, rfl, rfl, q3⟩
  have hsh : shadowIn (some (dictOf [e] n)) x = some false := by
    unfold shadowIn lookIn
    have hz : (Value.str (Str.ofString "scope") t).isStr x = false := by
      show (Str.ofString "scope" == x) = false
      exact beq_eq_false_iff_ne.mpr fun q => ne q.symm
    simp [DictEntry.refKey, q4, hz]
  refine wpAny_bind (wpAny_standAt (wpAny_bind (wpAny_holding (method_fn (kIn ok.toStaOk i1) II (plainGet_of (ok.ko.eGet x)).1 (plainGet_of (ok.ko.eGet x)).2 fi ft hsh ?_))))
  refine fromE e1 z1 ?_
  refine call_road hs hx a i1 (rd.mono e1) (P := S.K.In) (keeps_K fk) h1 hn fun vs ds σ2 g2 s2 h2 e2 i2 r2 z2 => ⟨kIn ok.toStaOk i2, ?_⟩
  refine fromE e2 z2 (wpAny_mono (co.fn (as := .v (.evr sc) :: ds.map .v) a.call i2 (.cons (.v (r1.mono e2.up)) (.of_vrs r2)) f0 h2) (fun _ _ x => x.trans (e1.trans e2) (z1.trans z2)) fun _ _ x => x)
theorem newV_e {v d : V} (h : newV v = some d) : d = v ∧ ((∃ l, v = .pd (.dict l)) ∨ ∃ i, v = .ref i) :=
  alt_e h (fun h => map_e h fun l h1 e => bd_e h1 fun d h2 h3 => by rw [pdV_e h2, dictP_e h3]; exact ⟨e.symm, .inl ⟨_, rfl⟩⟩) fun h => map_e h fun i h1 e => by rw [refV_e h1]; exact ⟨e.symm, .inr ⟨_, rfl⟩⟩
theorem snd_new (ok : StaOk3 S) (k2 : KOk2 S) (no : NewOk S nd) {q pos : Pos} {e : PySem.Expr} {x : X} (hg : nmOf cx (Str.ofString "Evaluator") = some .g) (hs : isStar e = false) (hx : SndX S G nd false cx e x) : SndX S G nd false cx (.Call (.Name (Str.ofString "Evaluator") q) [e] [] pos) (.new x) := by
  intro A env ev outer L Y m mc σ g s K E a I rd h
  replace h := eq_evX_24 h
  rw [arm_eval_Call_Name']
  refine wpAny_bind (eval_global a ok.toStaOk I.stays hg k2.eg ?_)
  have h' : evXs G S.gc m mc [x] σ (fun vs σ1 => one vs fun v => need (newV v) fun d => K (.evr d) σ1) E := h
  refine call_road (by simp [hs]) (snd_cons hx snd_nil hs) a I rd (P := S.K.In) (keeps_K k2.ek) h' (by nofun) fun vs ds σ1 g1 s1 h1 e1 i1 r1 z1 => ⟨kIn ok.toStaOk i1, ?_⟩
  refine one_r r1 h1 fun w v e rw' h1 => need_e h1 fun d hd hk => ?_
  obtain ⟨rfl, hv⟩ := newV_e hd
  exact e ▸ wpAny_mono (no.new a.call i1 rw' hv) (fun _ _ x => (Is.ok hk x).trans e1 z1) fun _ _ x => x
theorem snd_fault (so : SubOk S) {x y : Str} {i : Nat} {b : Bool} {q pos : Pos} (hi : nmOf cx x = some (.v i)) (hy : faultOf y = some b) : SndX S G nd hd cx (.Attribute (.Name x q) y pos) (.fault i b) := by
  intro A env ev outer L Y m mc σ g s K E a I rd h
  replace h := eq_evX_19 h
  obtain ⟨e, he, h⟩ := need_some h
  obtain ⟨hb, h⟩ := when_e h
  refine locA_e he fun l hm hl => ?_
  obtain rfl := fltL_e hl
  obtain ⟨v, n, r⟩ := rd.v x i hi _ hm
  cases r with
  | fault r =>
    rename_i ea
    rw [arm_eval_Attribute]
    refine wpAny_bind (m := eval (.Name x q) ev) (n.eval_ a.kf (nmOf_good hi) ?_)
    refine wpAny_bind (wpAny_standAt (wpAny_bind (wpAny_holding (step (so.fault (σ := σ) a.room I r hy (fun q => by subst q; simpa using hb)) fun c f' σ3 g3 s3 h3 e3 i3 r3 z3 => ?_))))
    obtain ⟨rfl, rfl⟩ := h3
    exact wpAny_bind (wpAny_letTemporaryGo (wpAny_pure ⟨_, _, g3, h, e3, i3, r3, z3⟩))
end

/-! FORMATTED TEXTS, DICTS WRITTEN OUT -/
section
variable {S : Sta} {G : CallS} {nd : Nat} {hd : Bool} {cx : Cx}
noncomputable def PartOk (S : Sta) (G : CallS) (nd : Nat) (hd : Bool) (cx : Cx) (e : PySem.Expr) (x : X) : Prop :=
  ∀ A env ev outer L Y m mc σ g s K E, Act S cx A env ev outer L nd hd → Inv S (env :: outer) g σ s.heap → Rd S cx ev Y s.heap g m mc → evX G S.gc m mc x σ (fun v σ1 => need (txt v) fun y => K y σ1) E → (∀ y σ, K y σ → y.length ≤ sizeLine) →
    wpAny S.M A (eval e ev) (Ok S (env :: outer) No (fun _ _ v y => ∃ t, v = .str y t) g s K) (Er S (env :: outer) No false g s E) s
theorem part_const {x : Str} {k : Nat} {pos : Pos} : PartOk S G nd hd cx (.Constant (.str x) k pos) (.c (.str x)) := by
  intro A env ev outer L Y m mc σ g s K E a I rd h hz
  replace h := eq_evX_0 h
  exact Constant_str (Ok.here (K := K) h ⟨I, .refl _ _ _⟩ ⟨_, rfl⟩ ⟨rfl, rfl, rfl⟩)
theorem part_val {e : PySem.Expr} {x : X} {pos : Pos} (hx : SndX S G nd hd cx e x) : PartOk S G nd hd cx (.FormattedValue e (-1) none pos) x := by
  intro A env ev outer L Y m mc σ g s K E a I rd h hz
  refine FormattedValue_plain (step (hx A env ev outer L Y m mc σ g s _ E a I rd h) fun v d σ1 g1 s1 h1 e1 i1 r1 z1 => ?_)
  refine need_e h1 fun y hy h1 => bd_e hy fun d hd hy => ?_
  have hsz := hz y σ1 h1
  have r : PV S.w.params s1.heap g1.κ v d := vr_pd (pdV_e hd ▸ r1)
  cases r with
  | str y' t =>
    cases hy
    exact formatField_str (fun t' tk => ⟨_, σ1, g1, h1, e1, i1, ⟨_, rfl⟩, z1⟩) hsz
  | int i t =>
    refine gd_e (c := i.natAbs.log2 < 1920) hy fun hl hy => ?_
    cases hy
    exact formatField_int_small hl ⟨_, σ1, g1, h1, e1, i1, ⟨_, rfl⟩, z1⟩
  | _ => cases hy
inductive Parts (S : Sta) (G : CallS) (nd : Nat) (hd : Bool) (cx : Cx) : List PySem.Expr → List X → Prop
  | nil : Parts S G nd hd cx [] []
  | cons {e : PySem.Expr} {x : X} {es : List PySem.Expr} {xs : List X} : PartOk S G nd hd cx e x → Parts S G nd hd cx es xs → Parts S G nd hd cx (e :: es) (x :: xs)
theorem parts_join {es : List PySem.Expr} {xs : List X} (hp : Parts S G nd hd cx es xs) : ∀ {A env ev outer L Y m mc σ g s acc} {K : Str → Hp → Prop} {E : KE}, Act S cx A env ev outer L nd hd → Inv S (env :: outer) g σ s.heap → Rd S cx ev Y s.heap g m mc → evFs G S.gc m mc xs acc σ K E →
    wpAny S.M A (joinParts acc (evalEach es ev)) (Ok S (env :: outer) No (fun _ _ v y => ∃ t, v = .str y t) g s K) (Er S (env :: outer) No false g s E) s := by
  induction hp with
  | nil =>
    intro A env ev outer L Y m mc σ g s acc K E a I rd h
    exact joinParts_nil (Ok.here (K := K) (whenL_e h).2 ⟨I, .refl _ _ _⟩ ⟨_, rfl⟩ ⟨rfl, rfl, rfl⟩) (whenL_e h).1
  | cons hx _ ih =>
    intro A env ev outer L Y m mc σ g s acc K E a I rd h
    replace h := eq_evFs_1 h
    rw [arm_evalEach_cons]
    refine joinParts_cons (step (hx A env ev outer L Y m mc σ g s _ E a I rd h fun y σ q => (whenL_e q).1.1) fun v y σ1 g1 s1 h1 e1 i1 r1 z1 => ?_)
    obtain ⟨t, rfl⟩ := r1
    replace h1 := whenL_e h1
    exact ⟨h1.1.2, from_ e1 z1 (ih a i1 (rd.mono e1) h1.2)⟩
theorem str_empty_append (y : Str) : Str.empty ++ y = y := by
  obtain ⟨a⟩ := y
  show Str.mk (#[] ++ a) = Str.mk a
  simp
theorem snd_fstr {es : List PySem.Expr} {xs : List X} {pos : Pos} (hp : Parts S G nd hd cx es xs) : SndX S G nd hd cx (.JoinedStr es pos) (.fstr xs) := by
  intro A env ev outer L Y m mc σ g s K E a I rd h
  replace h := eq_evX_27 h
  rw [arm_eval_JoinedStr]
  have gen : wpAny S.M A (joinParts Str.empty (evalEach es ev)) (Ok S (env :: outer) No (RV S) g s K) (Er S (env :: outer) No false g s E) s :=
    wpAny_mono (parts_join hp a I rd h) (fun v s' ⟨y, σ', g', k, e, i, ⟨t, q⟩, z⟩ => ⟨_, σ', g', k, e, i, q ▸ .pd (.str _ _), z⟩) fun _ _ x => x
  cases hp with
  | nil => exact gen
  | cons hx hr =>
    cases hr with
    | nil =>
      replace h := eq_evFs_1 h
      refine wpAny_mono (hx A env ev outer L Y m mc σ g s (fun y σ1 => whenL (y.length ≤ sizeLine ∧ (Str.empty ++ y).length ≤ sizeLine) (evFs G S.gc m mc [] (Str.empty ++ y) σ1 (fun x σ' => K (.pd (.str x)) σ') E)) E a I rd h fun y σ q => (whenL_e q).1.1) (fun v s' ⟨y, σ', g', k, e, i, ⟨t, q⟩, z⟩ => ⟨.pd (.str y), σ', g', ?_, e, i, (show VR S s'.heap g' v (.pd (.str y)) from q ▸ .pd (.str _ _)), z⟩) fun _ _ x => x
      have := (whenL_e (whenL_e k).2).2
      rw [str_empty_append] at this
      exact this
    | cons => exact gen

/-! dicts -/
inductive RKs (S : Sta) (h : Heap) (g : Gh) : List (Value × Value) → List (Str × V) → Prop
  | nil : RKs S h g [] []
  | cons {k : Str} {t : Tok} {v : Value} {x : V} {vs : List (Value × Value)} {xs : List (Str × V)} : VR S h g v x → RKs S h g vs xs → RKs S h g ((.str k t, v) :: vs) ((k, x) :: xs)
noncomputable def SndKs (S : Sta) (G : CallS) (nd : Nat) (hd : Bool) (cx : Cx) (ks : List (Option PySem.Expr)) (es : List PySem.Expr) (xs : List (Str × X)) : Prop :=
  ∀ A env ev outer L Y m mc σ g s K E pos, Act S cx A env ev outer L nd hd → Inv S (env :: outer) g σ s.heap → Rd S cx ev Y s.heap g m mc → evKs G S.gc m mc xs σ K E →
    wpAny S.M A (evalPairs (pairTrees ks es ev pos)) (Ok S (env :: outer) No (fun h g v d => RKs S h g v d) g s K) (Er S (env :: outer) No false g s E) s
theorem ks_nil : SndKs S G nd hd cx [] [] [] := by
  intro A env ev outer L Y m mc σ g s K E pos a I rd h
  exact pairTrees_nil_walk (Ok.here (K := K) h ⟨I, .refl _ _ _⟩ .nil (.refl _))
theorem ks_cons {k : Str} {n : Nat} {p : Pos} {e : PySem.Expr} {x : X} {ks : List (Option PySem.Expr)} {es : List PySem.Expr} {xs : List (Str × X)} (hx : SndX S G nd hd cx e x) (hr : SndKs S G nd hd cx ks es xs) :
    SndKs S G nd hd cx (some (.Constant (.str k) n p) :: ks) (e :: es) ((k, x) :: xs) := by
  intro A env ev outer L Y m mc σ g s K E pos a I rd h
  replace h := eq_evKs_1 h
  refine pairTrees_cons_walk (Constant_str ?_)
  refine fromE (s := s) (s1 := { s with toks := s.toks + 1 }) (.refl _ _ _) ⟨rfl, rfl, rfl⟩ (step (hx A env ev outer L Y m mc σ g { s with toks := s.toks + 1 } _ E a I rd h) fun v d σ1 g1 s1 h1 e1 i1 r1 z1 => ?_)
  refine fromE e1 z1 (step (hr A env ev outer L Y m mc σ1 g1 s1 _ E pos a i1 (rd.mono e1) h1) fun vs ds σ2 g2 s2 h2 e2 i2 r2 z2 => ?_)
  exact ⟨(k, d) :: ds, σ2, g2, h2, e1.trans e2, i2, .cons (r1.mono e2.up) r2, z1.trans z2⟩
theorem rks_strs {h : Heap} {g : Gh} {vs : List (Value × Value)} {xs : List (Str × V)} (r : RKs S h g vs xs) : allStrKeys vs = true ∧ (strPairs vs).map (·.1) = xs.map (·.1) := by
  induction r with
  | nil => exact ⟨rfl, rfl⟩
  | cons a _ ih => exact ⟨ih.1, by simp [strPairs, ih.2]⟩
theorem nodupK_nodup : ∀ {l : List Str}, nodupK l = true → l.Nodup
  | [], _ => List.nodup_nil
  | k :: r, h => by
    simp only [nodupK, Bool.and_eq_true] at h
    refine List.nodup_cons.mpr ⟨?_, nodupK_nodup h.2⟩
    have : ∀ {l : List Str}, freshK k l = true → k ∉ l := by
      intro l
      induction l with
      | nil => intro _ h; cases h
      | cons a r ih =>
        intro h hm
        simp only [freshK, Bool.and_eq_true] at h
        rcases List.mem_cons.mp hm with rfl | hm
        · simp [sb] at h
        · exact ih h.2 hm
    exact this h.1
theorem pairs_ves {h : Heap} {g : Gh} {vs : List (Value × Value)} {xs : List (Str × V)} (r : RKs S h g vs xs) : ∀ {es : List DictEntry}, (∀ e ∈ es, ∃ k, Value.isStrOf k e.key = true ∧ e.hash = hashStr S.w k) → Pairs (sKind S) es (strPairs vs) → (xs.map (·.1)).Nodup → VEs S h g es xs := by
  induction r with
  | nil => intro es _ p _; cases p; exact .nil
  | @cons k t v x vs xs a r ih =>
    intro es hk p hn
    cases p with
    | @cons e kv es kvs p1 p2 p3 =>
      have p1 : Value.isStrOf k e.key = true := p1
      have p2 : e.val = v := p2
      obtain ⟨t', hkey⟩ := Value.isStrOf_shape p1
      rw [List.map_cons, List.nodup_cons] at hn
      refine .cons (t := t') hkey ?_ (p2 ▸ a) (fun e' he' => ?_) (ih (fun e' he' => hk e' (.tail _ he')) p3 hn.2)
      · obtain ⟨k', h1, h2⟩ := hk e (.head _)
        have := Value.isStrOf_inj _ _ _ h1 p1
        subst this
        exact h2
      · cases hz : e'.key.isStr k with
        | false => rfl
        | true =>
          refine absurd ?_ hn.1
          have hm : ∀ {es : List DictEntry} {kvs : List (Str × Value)}, Pairs (sKind S) es kvs → e' ∈ es → k ∈ kvs.map (·.1) := by
            intro es kvs p
            induction p with
            | nil => intro h; cases h
            | @cons e kv es kvs q1 q2 q3 ih2 =>
              intro h
              rcases List.mem_cons.mp h with rfl | h
              · have hz' : Value.isStrOf k e'.key = true := by
                  revert hz; cases e'.key <;> intro hz <;> first | exact hz | cases hz
                have : kv.1 = k := Value.isStrOf_inj _ _ _ q1 hz'
                rw [List.map_cons, this]; exact .head _
              · exact .tail _ (ih2 h)
          have := hm p3 he'
          rwa [(rks_strs r).2] at this
theorem RKs.mono {h h' : Heap} {g g' : Gh} {vs : List (Value × Value)} {xs : List (Str × V)} (u : Up g g' h h') (r : RKs S h g vs xs) : RKs S h' g' vs xs := by
  induction r with
  | nil => exact .nil
  | cons a _ ih => exact .cons (a.mono u) ih
theorem snd_dct (ok : StaOk S) {ks : List (Option PySem.Expr)} {es : List PySem.Expr} {xs : List (Str × X)} {b : Bool} {pos : Pos} (hall : ks.all (·.isSome) = true) (hl : ks.length = es.length) (h0 : ks ≠ []) (hlen : ks.length ≤ 15) (hx : SndKs S G nd hd cx ks es xs) :
    SndX S G nd hd cx (.Dict ks es pos) (.dct b xs) := by
  intro A env ev outer L Y m mc σ g s K E a I rd h
  replace h := eq_evX_7 h
  have kp : ∀ b o, s.heap.get? b = some o → (s.heap.push { cls := .type "dict", data := .dict #[] }).get? b = some o := fun b o q => Heap.get?_push_of_some _ q
  have hn : s.heap.get? s.heap.objs.size = none := Heap.get?_none_of_le (Nat.le_refl _)
  have hat : (s.heap.push { cls := .type "dict", data := .dict #[] }).get? s.heap.objs.size = some { cls := .type "dict", data := .dict #[] } := Heap.get?_push_size _ rfl
  have kd0 : g.κ s.heap.objs.size = .ot := I.ot _ hn
  obtain ⟨I0, E0⟩ := I.keeps kp
  refine wpAny_Dict_walk (knd := sKind S) hall hl h0 hlen ?_
  refine fromE (s1 := { s with heap := s.heap.push { cls := .type "dict", data := .dict #[] } }) E0 ⟨rfl, rfl, rfl⟩ (step (hx A env ev outer L Y m mc σ g { s with heap := s.heap.push { cls := .type "dict", data := .dict #[] } } _ E pos a I0 (rd.mono E0) h) fun vs kvs σ1 g1 s1 h1 e1 i1 r1 z1 => ?_)
  obtain ⟨hnd, h1⟩ := when_e h1
  have hat1 := e1.keep _ _ hat id (by rw [kd0]; decide) (by rw [kd0]; decide) (by rw [kd0]; decide) (by rw [kd0]; decide)
  have kd1 : g1.κ s.heap.objs.size = .ot := (e1.kind _ _ hat).trans kd0
  obtain ⟨hstr, hkeys⟩ := rks_strs r1
  have hnod := nodupK_nodup hnd
  refine display_done_str hstr (by rw [hkeys]; exact hnod) ⟨_, _, _, hat1, ⟨rfl, rfl, rfl⟩, rfl, by intro e he; simp at he, .nil, List.nodup_nil⟩ fun h' hd' sb => ?_
  obtain ⟨⟨oc, od, odt, osl⟩, es', ep, q1, ⟨q2, q3, q4⟩, q5, q6, q7, q8⟩ := hd'
  simp only at q2 q3 q4 q5
  subst q2 q3 q4 q5
  have E2 : Ext No g g1 s.heap s1.heap := E0.trans e1
  have kp1 : ∀ b o, b ≠ s.heap.objs.size → s1.heap.get? b = some o → h'.get? b = some o := fun b o q e => (sb.2 b q).trans e
  have mk : ∀ {g2 : Gh}, Up g1 g2 s1.heap h' → VEs S h' g2 es'.toList kvs := fun u => pairs_ves (r1.mono u) (fun e he => q6 e (by simpa using he)) q7 hnod
  cases b with
  | true =>
    obtain ⟨I3, E3⟩ := Inv.sealMu (o := .dict kvs) E2 i1 hn kd1 ⟨_, hat1⟩ kp1 fun u => .dict (by simpa using q1) (mk u)
    refine ⟨_, _, _, h1, E3, I3, ?_, z1.trans ⟨rfl, rfl, rfl⟩⟩
    have : (g1.mu s.heap.objs.size).μ σ1.length = s.heap.objs.size := by rw [i1.num]; exact if_pos rfl
    conv => lhs; rw [← this]
    exact .ref (by show σ1.length < g1.n + 1; rw [i1.num]; exact Nat.lt_succ_self _)
  | false =>
    obtain ⟨ds, hds, h1⟩ := need_some h1
    obtain ⟨I3, E3, U3⟩ := Inv.seal (k := .fz) E2 i1 hn kd1 kp1 q1
    exact ⟨_, _, _, h1, E3, I3, .pd (.dict (if_pos rfl) q1 (not_sys ok I) (VEs.pes (mk U3) hds)), z1.trans ⟨rfl, rfl, rfl⟩⟩
end

/-! ITERATORS, STORES INTO TARGETS -/
section
variable {S : Sta} {fr : List Env} {g g0 : Gh} {σ : Hp} {h0 h h' : Heap} {z : Addr} {X : Addr → Prop}
/-- a thing of one's own, made since h0, changes -/
theorem own_step (E : Ext X g0 g h0 h) (I : Inv S fr g σ h) (n : h0.get? z = none) (k : g.κ z = .ot) (x : Heap.ExtBut z h h') : Ext X g0 g h0 h' ∧ Inv S fr g σ h' := by
  have kp : ∀ b o, g.κ b ≠ .ot → h.get? b = some o → h'.get? b = some o := fun b o q e => x b o (fun w => q (w ▸ k)) e
  have k0 : ∀ b o, h0.get? b = some o → b ≠ z := fun b o e w => by rw [w, n] at e; cases e
  refine ⟨⟨E.kind, E.num, E.addr, fun b o q e => ⟨(E.fz b o q e).1, x b o (k0 b o e) (E.fz b o q e).2⟩, fun b o e a1 a2 a3 a4 a5 => x b o (k0 b o e) (E.keep b o e a1 a2 a3 a4 a5), fun b o e a1 a2 => ?_, fun b o vs e a1 a2 a3 => ?_, fun b o e => ?_⟩,
    ⟨fun b o e => kp b o (by rw [I.bfz b o e]; decide) (I.stays b o e), I.bfz, fun b e => ?_, I.num, fun i o e => ?_, I.km, I.inj, ?_, I.tb.mono (fun b o q e => ⟨q, kp b o (by rw [q]; decide) e⟩) I.tb.k fun o q => kp _ o (by rw [I.tb.k]; decide) q⟩⟩
  · obtain ⟨sl, y⟩ := E.frs b o e a1 a2; exact ⟨sl, x b _ (k0 b o e) y⟩
  · obtain ⟨ws, y⟩ := E.exs b o vs e a1 a2 a3; exact ⟨ws, x b _ (k0 b o e) y⟩
  · obtain ⟨o', y⟩ := E.still b o e; exact ⟨o', x b _ (k0 b o e) y⟩
  · by_cases w : b = z
    · rw [w]; exact k
    · refine I.ot b ?_
      cases y : h.get? b with
      | none => rfl
      | some o => rw [x b o w y] at e; cases e
  · have U : Up g g h h' := ⟨Nat.le_refl _, fun _ _ => rfl, fun b o q e => ⟨q, kp b o (by rw [q]; decide) e⟩⟩
    exact (I.mu i o e).mono_at U fun ob q => kp _ _ (by rw [I.km i (I.lt e)]; decide) q
  · exact ⟨funFrames_mono (fun L m o ho => ⟨o.slots, kp L o (by rw [I.fr.2 L m]; decide) ho⟩) I.fr.1, I.fr.2⟩
theorem own_up (I : Inv S fr g σ h) (k : g.κ z = .ot) (x : Heap.ExtBut z h h') : Up g g h h' :=
  ⟨Nat.le_refl _, fun _ _ => rfl, fun b o q e => ⟨q, x b o (fun w => by rw [w, k] at q; cases q) e⟩⟩
end

noncomputable def isL : V → Bool
  | .pd d => (listP d).isSome
  | .ref _ => true
  | _ => false
inductive ItAt (h : Heap) (it : Addr) (v : Value) (x : V) (k : Nat) : Prop
  | l (a : Addr) (q : isL x = true) (e : v = .ref a) (i : h.IsListIter it a k)
  | t (a : Addr) (l : List PyData) (q : x = .pd (.tuple l)) (e : v = .ref a) (i : IsTupIter h it a k)
  | r (lo hi : Int) (q : x = .rng lo hi) (i : IsRangeIter h it (lo + (k : Nat)) (((hi - lo).toNat : Int) - (k : Nat)) 1)
theorem ItAt.at {h h' : Heap} {it : Addr} {v : Value} {x : V} {k : Nat} (e : ∀ o, h.get? it = some o → h'.get? it = some o) (i : ItAt h it v x k) : ItAt h' it v x k := by
  cases i with
  | l a q u i => obtain ⟨o, h1, h2⟩ := i; exact .l a q u ⟨o, e _ h1, h2⟩
  | t a l q u i => obtain ⟨o, h1, h2⟩ := i; exact .t a l q u ⟨o, e _ h1, h2⟩
  | r lo hi q i => exact .r lo hi q (e _ i)
inductive ItHas (h : Heap) (it : Addr) : Prop
  | mk (o : Obj) (n : String) (vs : Array Value) (e : h.get? it = some o) (c : o.cls = .type n) (d : o.data = .fields vs) (z : ["enumerate", "zip", "dict_itemiterator", "dict_reverseitemiterator", "odict_iterator", "itertools.zip_longest", "itertools.pairwise"].contains n = false)
theorem ItAt.has {h : Heap} {it : Addr} {v : Value} {x : V} {k : Nat} (i : ItAt h it v x k) : ItHas h it := by
  cases i with
  | l a q u i => obtain ⟨o, h1, h2, h3⟩ := i; exact ⟨o, _, _, h1, h2, h3, by decide⟩
  | t a l q u i => obtain ⟨o, h1, h2, h3⟩ := i; exact ⟨o, _, _, h1, h2, h3, by decide⟩
  | r lo hi q i => exact ⟨_, _, _, i, rfl, rfl, by decide⟩
theorem seqT_ref {σ : Hp} {i : Nat} {l : List PyData} (e : seqT σ (.ref i) = some l) : rd σ (.ref i) = some (.list l) :=
  bd_e e fun d h1 e => alt_e e (fun h2 => by rw [h1, listP_e h2]) fun h2 => rd_ref h1 (fun l _ q => by rw [q] at h2; cases h2) fun l ds _ _ q => by rw [q] at h2; cases h2
section
variable {S : Sta} {fr : List Env} {A : Around} {g : Gh} {σ : Hp} {s : Shared} {Ev : Value → Shared → Prop}
theorem itemsOf_e {P : Prop} {x : V} {l : List PyData} (e : itemsOf σ x = some l) (kl : isL x = true → rd σ x = some (.list l) → P) (kt : x = .pd (.tuple l) → P) (kr : ∀ lo hi, x = .rng lo hi → l = rangeL lo hi → -(2 ^ 62) ≤ lo ∧ lo < 2 ^ 62 ∧ -(2 ^ 62) ≤ hi ∧ hi < 2 ^ 62 → P) : P := by
  refine alt_e e (fun e => ?_) fun e => bd_e e fun p h1 e => gd_e e fun b e => kr p.1 p.2 (rngV_e h1) e.symm b
  cases x with
  | pd d =>
    refine alt_e (c := l) e (fun h => ?_) fun h => kt (by rw [tupP_e h])
    exact kl (by show (listP d).isSome = true; rw [h]; rfl) (by rw [listP_e h]; rfl)
  | ref i => exact kl rfl (seqT_ref e)
  | _ => cases e
theorem items_l {x : V} {l : List PyData} (q : isL x = true) (e : itemsOf σ x = some l) : rd σ x = some (.list l) :=
  itemsOf_e e (fun _ h => h) (fun h => by rw [h] at q; cases q) fun lo hi h => by rw [h] at q; cases q
theorem iter_start {x : V} {l : List PyData} {v : Value} {Q : Value → Shared → Prop} (I : Inv S fr g σ s.heap) (r : VR S s.heap g v x) (e : itemsOf σ x = some l)
    (hQ : ∀ o, ItAt (s.heap.push o) s.heap.objs.size v x 0 → Q (.ref s.heap.objs.size) { s with heap := s.heap.push o }) : wpAny S.M A (pyIter v) Q Ev s := by
  refine itemsOf_e e (fun q e => ?_) (fun q => ?_) fun lo hi q _ b => ?_
  · obtain ⟨a, vs, rfl, hl, p⟩ := r.isList I e
    exact wpAny_pyIter_list hl (hQ _ (.l a q rfl ⟨_, Heap.get?_push_size _ rfl, rfl, rfl⟩))
  · obtain ⟨a, vs, rfl, hl, p⟩ := (q ▸ r).isTup (σ := σ) rfl
    exact iter_tuple hl (hQ _ (.t a l q rfl ⟨_, Heap.get?_push_size _ rfl, rfl, rfl⟩))
  · have r := q ▸ r
    cases r with
    | rng k e =>
      refine wpAny_pyIter_range e (small_one b.1 b.2.1 b.2.2.1 b.2.2.2) (hQ _ (.r lo hi q ?_))
      show IsRangeIter _ _ _ _ _
      rw [rangeSize_nat]
      simpa using Heap.get?_push_size s.heap (o := { cls := .type "range_iterator", data := .fields #[rawInt lo, rawInt ((hi - lo).toNat : Int), rawInt 1] }) rfl
theorem iter_self {x : V} {v : Value} {it : Addr} {k : Nat} {Q : Value → Shared → Prop} (i : ItAt s.heap it v x k) (h : Q (.ref it) s) : wpAny S.M A (pyIter (.ref it)) Q Ev s := by
  cases i with
  | l a q u i => exact wpAny_pyIter_listiter i h
  | t a l q u i => exact wpAny_pyIter_tupleiter i h
  | r lo hi q i => exact wpAny_pyIter_rangeiter i h
/-- the list or tuple that an iterator walks over -/
theorem it_rng {lo hi : Int} {l : List PyData} (e : itemsOf σ (.rng lo hi) = some l) : l = rangeL lo hi := gd_e (x := rangeL lo hi) e fun _ q => q.symm
theorem iter_next {x : V} {l : List PyData} {v : Value} {it : Addr} {k : Nat} {Q : Option Value → Shared → Prop} (hn : A.handled = none) (I : Inv S fr g σ s.heap) (r : VR S s.heap g v x) (e : itemsOf σ x = some l) (i : ItAt s.heap it v x k) (hk : k ≤ l.length)
    (h1 : ∀ w d h' tk, l[k]? = some d → PV S.w.params s.heap g.κ w d → Heap.SameBut it s.heap h' → ItAt h' it v x (k + 1) → Q (some w) { s with heap := h', toks := tk })
    (h2 : ∀ h', k = l.length → Heap.ExtBut it s.heap h' → Q none { s with heap := h' }) : wpAny S.M A (pyNext (.ref it)) Q Ev s := by
  cases i with
  | l a q u i =>
    obtain ⟨a', vs, hv', hl, p⟩ := r.isList I (items_l q e)
    rw [u] at hv'; cases hv'
    have hlen : vs.size = l.length := p.length
    rcases Nat.lt_or_ge k l.length with hlt | hge
    · obtain ⟨w, hw, pw⟩ := p.getA (List.getElem?_eq_getElem hlt)
      exact wpAny_pyNext_list_item i hl hw fun h' i'' sb => h1 w _ h' s.toks (List.getElem?_eq_getElem hlt) pw sb (.l a q u i'')
    · exact wpAny_pyNext_list_end hn i hl (Array.getElem?_eq_none (by rw [hlen]; exact hge)) fun h' eb => h2 h' (Nat.le_antisymm hk hge) eb
  | t a l' q u i =>
    obtain rfl : l' = l := Option.some.inj (show itemsOf σ (.pd (.tuple l')) = some l from q ▸ e)
    obtain ⟨a', vs, hv', hl, p⟩ := (q ▸ r).isTup (σ := σ) rfl
    rw [u] at hv'; cases hv'
    have hlen : vs.size = l'.length := p.length
    rcases Nat.lt_or_ge k l'.length with hlt | hge
    · obtain ⟨w, hw, pw⟩ := p.getA (List.getElem?_eq_getElem hlt)
      exact next_tuple_item i hl hw fun h' i'' sb => h1 w _ h' s.toks (List.getElem?_eq_getElem hlt) pw sb (.t a _ q u i'')
    · exact next_tuple_end hn i hl (Array.getElem?_eq_none (by rw [hlen]; exact hge)) fun h' eb => h2 h' (Nat.le_antisymm hk hge) eb
  | r lo hi q i =>
    obtain rfl := it_rng (q ▸ e)
    have hl : (rangeL lo hi).length = (hi - lo).toNat := by simp [rangeL]
    rw [hl] at hk h2
    rcases Nat.lt_or_ge k (hi - lo).toNat with hlt | hge
    · refine wpAny_pyNext_range_item i (by omega) fun h' i'' sb => h1 _ (.int (lo + k)) h' _ (by simp [rangeL, hlt]) (.int _ _) sb (.r lo hi q ?_)
      show IsRangeIter _ _ _ _ _
      have e1 : lo + ((k + 1 : Nat) : Int) = lo + (k : Int) + 1 := by omega
      have e2 : ((hi - lo).toNat : Int) - ((k + 1 : Nat) : Int) = ((hi - lo).toNat : Int) - (k : Int) - 1 := by omega
      rw [e1, e2]; exact i''
    · exact wpAny_pyNext_range_end hn i (by omega) fun h' eb => h2 h' (Nat.le_antisymm hk hge) eb
theorem own_go {te : PySem.Expr} {x : V} {v w : Value} {it : Addr} {k : Nat} {Q : Unit → Shared → Prop} (i : ItAt s.heap it v x k) (h : Q () s) : wpAny S.M A (letOwnedTupleGo te (.ref it) w) Q Ev s := by
  obtain ⟨o, n, vs, h1, h2, h3, this⟩ := i.has
  have : wpAny S.M A (do
      let (.ref r, .ref a) := (Value.ref it, w) | return
      let o ← load r
      match o.cls, o.data with
      | .type n, .fields vs =>
        if ["enumerate", "zip", "dict_itemiterator", "dict_reverseitemiterator", "odict_iterator", "itertools.zip_longest", "itertools.pairwise"].contains n && vs[0]? == some (rawInt a) then
          rule "for.unpacks-the-owned-tuple"
          updateField r 0 .none
      | _, _ => pure ()) Q Ev s := by
    cases w with
    | ref a =>
      refine wpAny_bind (wpAny_load h1 ?_)
      rw [h2, h3]
      dsimp only
      rw [this]
      exact wpAny_pure h
    | _ => exact wpAny_pure h
  cases te with
  | Tuple => exact this
  | List => exact this
  | _ => exact wpAny_pure h
end

/-! ASSIGNMENTS TO TARGETS OF NAMES -/
noncomputable abbrev Fz1 (g : Gh) (h h' : Heap) : Prop := Fz g.κ g.κ h h'
theorem Fz1.trans {g : Gh} {h h' h'' : Heap} (x : Fz1 g h h') (y : Fz1 g h' h'') : Fz1 g h h'' := fun a o k e => y a o (x a o k e).1 (x a o k e).2
structure Sto (S : Sta) (A : Around) (g : Gh) (names : Names) (env : Env) (Pm : Fm → Shared → Prop) : Prop where
  hn : A.handled = none
  st : ∀ x i v d m s Q Ev, idxOf names x 0 = some (i, .local) → i < m.length → Pm m s → PV S.w.params s.heap g.κ v d → (∀ s', Pm (setAt m i (some (.v (.pd d)))) s' → Fz1 g s.heap s'.heap → Q () s') → wpAny S.M A (storeName env x v) Q Ev s
  new : ∀ m s h', Pm m s → Heap.ExtBut s.heap.objs.size s.heap h' → Pm m { s with heap := h' }
section
variable {S : Sta} {A : Around} {g : Gh} {names : Names} {env : Env} {Pm : Fm → Shared → Prop}
theorem kp_but {h h' : Heap} (x : Heap.ExtBut h.objs.size h h') : ∀ b o, h.get? b = some o → h'.get? b = some o := fun b o e => x b o (Nat.ne_of_lt (Heap.lt_size e)) e
/-- a target that can be stored to -/
noncomputable def TgOk (S : Sta) (names : Names) (te : PySem.Expr) (t : Tg) : Prop := ∀ {A g env Pm}, Sto S A g names env Pm → ∀ v d m m' s Q Ev, tgFm m t d = some m' → Pm m s → PV S.w.params s.heap g.κ v d → (∀ s', Pm m' s' → Fz1 g s.heap s'.heap → Q () s') → wpAny S.M A (assign te env v) Q Ev s
inductive TgsOk (S : Sta) (names : Names) : List PySem.Expr → List Tg → Prop
  | nil : TgsOk S names [] []
  | cons {te : PySem.Expr} {t : Tg} {tes : List PySem.Expr} {ts : List Tg} : TgOk S names te t → isStar te = false → TgsOk S names tes ts → TgsOk S names (te :: tes) (t :: ts)
theorem assignEach_cons {e : PySem.Expr} {r : List PySem.Expr} (h : isStar e = false) : assignEach (e :: r) env = (false, assign e env) :: assignEach r env := by
  cases e <;> first | rfl | cases h
theorem tgs_len {es : List PySem.Expr} {ts : List Tg} (h : TgsOk S names es ts) : (assignEach es env).length = ts.length ∧ (assignEach es env).findIdx? (·.1) = none := by
  induction h with
  | nil => exact ⟨rfl, rfl⟩
  | cons _ hs _ ih =>
    rw [assignEach_cons hs]
    refine ⟨congrArg (· + 1) ih.1, ?_⟩
    rw [List.findIdx?_cons, ih.2]; rfl
theorem tgsFm_len {ts : List Tg} : ∀ {ds : List PyData} {m m' : Fm}, tgsFm m ts ds = some m' → ts.length = ds.length := by
  induction ts with
  | nil =>
    intro ds m m' h
    cases ds with
    | nil => rfl
    | cons => cases h
  | cons t ts ih =>
    intro ds m m' h
    cases ds with
    | nil => cases h
    | cons d ds => exact bd_e (k := fun m' => tgsFm m' ts ds) h fun m1 _ h => congrArg (· + 1) (ih h)
theorem tg_name {x : Str} {i : Nat} {p : Pos} (hi : idxOf names x 0 = some (i, .local)) : TgOk S names (.Name x p) (.n i) := fun sto v d m m' s Q Ev hm p r hQ =>
  gd_e (c := i < m.length) hm fun hl e => by
    subst e
    exact wpAny_assign_Name (sto.st x i v d m s Q Ev hi hl p r hQ)
theorem tgs_all {tes : List PySem.Expr} {ts : List Tg} (h : TgsOk S names tes ts) (sto : Sto S A g names env Pm) : ∀ vs ds m m' s Q Ev, tgsFm m ts ds = some m' → Pm m s → PVs S.w.params s.heap g.κ vs ds → (∀ s', Pm m' s' → Fz1 g s.heap s'.heap → Q () s') → wpAny S.M A (assignInOrder ((assignEach tes env).map (·.2)) vs) Q Ev s := by
  induction h with
  | nil =>
    intro vs ds m m' s Q Ev hm p r hQ
    cases r with
    | nil => exact assignInOrder_nil (hQ s (Option.some.inj hm ▸ p) fun a o k e => ⟨k, e⟩)
    | cons => cases hm
  | cons ht hs _ ih =>
    intro vs ds m m' s Q Ev hm p r hQ
    cases r with
    | nil => cases hm
    | cons a r =>
      refine bd_e (k := fun m1 => tgsFm m1 _ _) hm fun m1 hm1 hm => ?_
      rw [assignEach_cons hs]
      refine assignInOrder_cons (ht sto _ _ m m1 s _ Ev hm1 p a fun s' p' fz => ?_)
      exact ih _ _ m1 m' s' Q Ev hm p' (r.mono fz) fun s'' a b => hQ s'' a (fz.trans b)
theorem tg_tup {es : List PySem.Expr} {k : Nat} {p : Pos} {ts : List Tg} (h : TgsOk S names es ts) : TgOk S names (.Tuple es k p) (.t ts) := fun {A g env Pm} sto v d m m' s Q Ev hm p r hQ => by
  cases r with
  | @tuple a o vs n' ds k e c d' q =>
    obtain ⟨q1, q2⟩ := tgs_len (env := env) h
    refine assign_Tuple_tuple sto.hn ⟨o, e, c, n', d'⟩ (by rw [q1, tgsFm_len hm, ← q.length]; rfl) q2 fun h' eb => ?_
    have fz : Fz1 g s.heap h' := fun a o k e => ⟨k, kp_but eb a o e⟩
    exact tgs_all h sto vs.toList _ m m' { s with heap := h' } Q Ev hm (sto.new m s h' p eb) (q.mono fz) fun s' a b => hQ s' a (fz.trans b)
  | _ => cases hm
end
/-- a target, if it is one -/
noncomputable def tgX (S : Sta) (names : Names) : Nat → ∀ te : PySem.Expr, Option {t : Tg // TgOk S names te t}
  | 0, _ => none
  | n + 1, te => match te with
    | .Name x p => opt (idxOf names x 0) fun k hk => match k, hk with
      | (i, .local), hk => some ⟨.n i, tg_name hk⟩
      | _, _ => none
    | .Tuple es k p => bnd (go n es) fun ts h => some ⟨.t ts, tg_tup h⟩
    | _ => none
where go (n : Nat) : ∀ es : List PySem.Expr, Option {ts : List Tg // TgsOk S names es ts}
  | [] => some ⟨[], .nil⟩
  | e :: r => chk (!isStar e) fun hs => bnd (tgX S names n e) fun t h => bnd (go n r) fun ts hr => some ⟨t :: ts, .cons h (by cases q : isStar e <;> first | rfl | (rw [q] at hs; cases hs)) hr⟩

/-! COMPREHENSIONS -/
structure CL (S : Sta) (fr : List Env) (g1 : Gh) (s1 : Shared) (C D it : Addr) (v : Value) (x : V) (k : Nat) (acc : List PyData) (g : Gh) (σ : Hp) (s : Shared) : Prop where
  E : Ext No g1 g s1.heap s.heap
  I : Inv S fr g σ s.heap
  z : Rest s1 s
  kC : g.κ C = .ot
  kD : g.κ D = .ot
  kI : g.κ it = .ot
  C : ∃ mp, s.heap.Ns C mp
  D : ∃ vs n, s.heap.get? D = some ⟨.type "list", none, .seq vs n, #[]⟩ ∧ PVs S.w.params s.heap g.κ vs.toList acc
  it : ItAt s.heap it v x k
structure Apart3 (h : Heap) (C D it : Addr) : Prop where
  nC : h.get? C = none
  nD : h.get? D = none
  nI : h.get? it = none
  cd : C ≠ D
  ci : C ≠ it
  di : D ≠ it
theorem keepOt {g g' : Gh} {h h' : Heap} (E : Ext No g g' h h') {a : Addr} (k : g.κ a = .ot) {o : Obj} (e : h.get? a = some o) : h'.get? a = some o := E.keep a o e id (by rw [k]; decide) (by rw [k]; decide) (by rw [k]; decide) (by rw [k]; decide)
section
variable {S : Sta} {fr : List Env} {g1 g g' : Gh} {s1 s s' : Shared} {C D it : Addr} {v : Value} {x : V} {k : Nat} {acc : List PyData} {σ σ' : Hp}
theorem CL.mono (c : CL S fr g1 s1 C D it v x k acc g σ s) (E : Ext No g g' s.heap s'.heap) (I : Inv S fr g' σ' s'.heap) (z : Rest s s') : CL S fr g1 s1 C D it v x k acc g' σ' s' := by
  obtain ⟨mp, ns⟩ := c.C
  obtain ⟨vs, n, d1, d2⟩ := c.D
  obtain ⟨o, _, _, hi, _, _, _⟩ := c.it.has
  obtain ⟨oC, _, _, hC, _⟩ := id ns
  exact ⟨c.E.trans E, I, c.z.trans z, (E.kind _ _ hC).trans c.kC, (E.kind _ _ d1).trans c.kD, (E.kind _ _ hi).trans c.kI, ⟨mp, ns_of (fun o e => keepOt E c.kC e) ns⟩, ⟨vs, n, keepOt E c.kD d1, d2.mono E.fz⟩, c.it.at fun o e => keepOt E c.kI e⟩
/-- the iterator moves -/
theorem CL.moved (c : CL S fr g1 s1 C D it v x k acc g σ s) (ap : Apart3 s1.heap C D it) {h' : Heap} {tk k' : Nat} (sb : Heap.SameBut it s.heap h') (i : ItAt h' it v x k') : CL S fr g1 s1 C D it v x k' acc g σ { s with heap := h', toks := tk } := by
  obtain ⟨E, I⟩ := own_step c.E c.I ap.nI c.kI sb.extBut
  have U := own_up c.I c.kI sb.extBut
  obtain ⟨mp, ns⟩ := c.C
  obtain ⟨vs, n, d1, d2⟩ := c.D
  exact ⟨E, I, ⟨c.z.1, c.z.2.1, c.z.2.2⟩, c.kC, c.kD, c.kI, ⟨mp, ns_of (fun o e => sb.extBut _ o ap.ci e) ns⟩, ⟨vs, n, sb.extBut _ _ ap.di d1, d2.mono U.fz⟩, i⟩
/-- a variable of the comprehension's own changes -/
theorem CL.named (c : CL S fr g1 s1 C D it v x k acc g σ s) (ap : Apart3 s1.heap C D it) {h' : Heap} {tk : Nat} {mp : Str → Option Value} (sb : Heap.SameBut C s.heap h') (i : h'.Ns C mp) : CL S fr g1 s1 C D it v x k acc g σ { s with heap := h', toks := tk } := by
  obtain ⟨E, I⟩ := own_step c.E c.I ap.nC c.kC sb.extBut
  have U := own_up c.I c.kC sb.extBut
  obtain ⟨vs, n, d1, d2⟩ := c.D
  exact ⟨E, I, ⟨c.z.1, c.z.2.1, c.z.2.2⟩, c.kC, c.kD, c.kI, ⟨mp, i⟩, ⟨vs, n, sb.extBut _ _ (Ne.symm ap.cd) d1, d2.mono U.fz⟩, c.it.at fun o e => sb.extBut _ o (Ne.symm ap.ci) e⟩
/-- one more item -/
theorem CL.more (c : CL S fr g1 s1 C D it v x k acc g σ s) (ap : Apart3 s1.heap C D it) {h' : Heap} {w : Value} {d : PyData} {vs : Array Value} {n n' : Nat} (d1 : s.heap.get? D = some ⟨.type "list", none, .seq vs n, #[]⟩) (d2 : PVs S.w.params s.heap g.κ vs.toList acc)
    (sb : Heap.SameBut D s.heap h') (hD : h'.get? D = some ⟨.type "list", none, .seq (vs.push w) n', #[]⟩) (p : PV S.w.params s.heap g.κ w d) : CL S fr g1 s1 C D it v x k (acc ++ [d]) g σ { s with heap := h' } := by
  obtain ⟨E, I⟩ := own_step c.E c.I ap.nD c.kD sb.extBut
  have U := own_up c.I c.kD sb.extBut
  obtain ⟨mp, ns⟩ := c.C
  exact ⟨E, I, ⟨c.z.1, c.z.2.1, c.z.2.2⟩, c.kC, c.kD, c.kI, ⟨mp, ns_of (fun o e => sb.extBut _ o ap.cd e) ns⟩, ⟨_, _, hD, (d2.snoc p).mono U.fz⟩, c.it.at fun o e => sb.extBut _ o (Ne.symm ap.di) e⟩
theorem CL.fresh (c : CL S fr g1 s1 C D it v x k acc g σ s) (ap : Apart3 s1.heap C D it) {h' : Heap} (eb : Heap.ExtBut s.heap.objs.size s.heap h') : CL S fr g1 s1 C D it v x k acc g σ { s with heap := h' } := by
  obtain ⟨I, E⟩ := c.I.keeps (kp_but eb)
  exact c.mono (s' := { s with heap := h' }) E I ⟨rfl, rfl, rfl⟩
end
/-- the comprehension's own variables -/
noncomputable def McAt (S : Sta) (h : Heap) (g : Gh) (C : Addr) (names : Names) (mc : Fm) : Prop :=
  ∃ mp, h.Ns C mp ∧ ∀ x i l, idxOf names x 0 = some (i, .local) → mc[i]? = some (some l) → ∃ v d, mp x = some v ∧ l = .v (.pd d) ∧ PV S.w.params h g.κ v d
theorem McAt.mono {S : Sta} {h h' : Heap} {g g' : Gh} {C : Addr} {names : Names} {mc : Fm} (f : Fz g.κ g'.κ h h') (e : ∀ o, h.get? C = some o → h'.get? C = some o) (x : McAt S h g C names mc) : McAt S h' g' C names mc := by
  obtain ⟨mp, ns, r⟩ := x
  exact ⟨mp, ns_of e ns, fun x i l h1 h2 => let ⟨v, d, a, b, c⟩ := r x i l h1 h2; ⟨v, d, a, b, c.mono f⟩⟩
theorem McAt.empty {S : Sta} {h : Heap} {g : Gh} {C : Addr} {names : Names} {mp : Str → Option Value} (ns : h.Ns C mp) : McAt S h g C names mc0 :=
  ⟨mp, ns, fun x i l _ h2 => by rw [List.getElem?_replicate] at h2; split at h2 <;> cases h2⟩

section
variable {S : Sta} {A : Around} {env outer' : Env} {fr : List Env} {g1 g : Gh} {s1 : Shared} {C D it : Addr} {v : Value} {x : V} {k : Nat} {acc : List PyData} {σ : Hp}
theorem comp_sto {cenv : Env} {sc : Scope} (hn : A.handled = none) (ap : Apart3 s1.heap C D it) (hL : cenv.locals = C) (hk : ∀ x i, idxOf sc.names x 0 = some (i, .local) → cenv.kindOf x = some .local) (hf : cenv.scope.kind = .function) :
    Sto S A g sc.names cenv (fun mc s => CL S fr g1 s1 C D it v x k acc g σ s ∧ McAt S s.heap g C sc.names mc) := by
  refine ⟨hn, fun y i w d m s Q Ev hi hlt p r hQ => ?_, fun m s h' p eb => ⟨p.1.fresh ap eb, p.2.mono (fun a o k e => ⟨k, kp_but eb a o e⟩) fun o e => kp_but eb _ o e⟩⟩
  obtain ⟨c, mp, ns, q⟩ := p
  subst hL
  refine wpAny_storeName_local (hk y i hi) ns (fun h' ns' sb => ?_) (by rw [hf]; rfl)
  have c' := c.named (tk := s.toks + 1) ap sb ns'
  have U := own_up c.I c.kC sb.extBut
  refine hQ _ ⟨c', _, ns', fun z j l h1 h2 => ?_⟩ U.fz
  by_cases e : z = y
  · obtain rfl := e.symm
    rw [hi] at h1; cases h1
    rw [setAt_self hlt] at h2; cases h2
    exact ⟨w, d, if_pos rfl, rfl, r.mono U.fz⟩
  · have ne : i ≠ j := fun q => e (idxOf_inj h1 (q ▸ hi))
    rw [setAt_ne ne] at h2
    obtain ⟨u, d', a, b, c⟩ := q z j l h1 h2
    exact ⟨u, d', (if_neg e).trans a, b, c.mono U.fz⟩
end

/-! THE COMPREHENSION'S OWN ENVIRONMENT -/
theorem lookup_relabel {env : Env} {x : Str} : ∀ {names : List (Str × NameKind)},
    (names.map fun (n, k) => if (k == NameKind.free && env.scope.kind == .function && env.kindOf n == some .cell) then (n, NameKind.cell) else (n, k)).lookup x = (names.lookup x).map fun k => if (k == NameKind.free && env.scope.kind == .function && env.kindOf x == some .cell) then NameKind.cell else k
  | [] => rfl
  | (n, k) :: r => by
    have ih := @lookup_relabel env x r
    rw [List.map_cons]
    have e : (match ((n, k) : Str × NameKind) with | (n, k) => if (k == NameKind.free && env.scope.kind == .function && env.kindOf n == some .cell) = true then (n, NameKind.cell) else (n, k)) = (n, if (k == NameKind.free && env.scope.kind == .function && env.kindOf n == some .cell) = true then NameKind.cell else k) := by
      dsimp only
      split <;> rfl
    rw [e]
    by_cases q : x = n
    · subst q
      simp only [List.lookup, beq_self_eq_true, Option.map_some]
    · have hx : (x == n) = false := by simpa using q
      simp only [List.lookup, hx]
      exact ih
noncomputable abbrev compCx (cx : Cx) (sc : Scope) : Cx := { cx with cs := some sc.names, lam := false }
structure ScOk (fn : Names) (sc : Scope) : Prop where
  kf : sc.kind = .function
  nc : ∀ p ∈ sc.names, p.2 ≠ .cell
  nl : ∀ p ∈ sc.names, p.2 = .local → sc.names.lookup p.1 = some .local
  nf : ∀ p ∈ sc.names, p.2 = .free → badN p.1 = false ∧ ∃ i, idxOf fn p.1 0 = some (i, .cell)
theorem scOk {fn : Names} {sc : Scope} (h : compOk fn sc = true) : ScOk fn sc := by
  unfold compOk at h
  simp only [Bool.and_eq_true] at h
  obtain ⟨⟨⟨h1, h2⟩, h3⟩, h4⟩ := h
  refine ⟨by simpa using h1, fun p hp => by simpa using List.all_eq_true.mp h2 p hp, fun p hp hq => ?_, fun p hp hq => ?_⟩
  · have := List.all_eq_true.mp h3 p hp
    simp only [Bool.or_eq_true, bne_iff_ne, ne_eq, hq, not_true, false_or] at this
    simpa using this
  · have := List.all_eq_true.mp h4 p hp
    simp only [Bool.or_eq_true, Bool.and_eq_true, bne_iff_ne, ne_eq, hq, not_true, false_or] at this
    refine ⟨by simpa using this.1, ?_⟩
    have := this.2
    split at this
    · exact ⟨_, by assumption⟩
    · cases this
section
variable {S : Sta} {G : CallS} {nd : Nat} {hd : Bool} {cx : Cx} {A : Around} {env ev : Env} {outer : List Env} {L C : Addr} {Y : Addr → Prop} {m mc : Fm} {g : Gh} {h : Heap} {sc : Scope}
theorem kind_local {x : Str} {i : Nat} (e : idxOf sc.names x 0 = some (i, .local)) : Env.kindOf (compEnvC sc (closL ev.cells sc.names []) C ev) x = some .local := by
  show List.lookup x (relabel sc ev).names = _
  unfold relabel
  dsimp only
  rw [lookup_relabel, idxOf_lookup e]; rfl
theorem comp_act (a : Act S cx A env ev outer L nd hd) (hcs : cx.cs = none) (so : ScOk cx.fn sc) : Act S (compCx cx sc) A env (compEnvC sc (closL ev.cells sc.names []) C ev) outer L nd hd := by
  refine ⟨a.hn, a.frames, a.fL, a.vL, a.guards, a.depth, a.units, so.kf, a.gl, a.bl, fun x hx => ?_, nofun⟩
  show List.lookup x (relabel sc ev).names = _
  unfold relabel
  dsimp only
  rw [lookup_relabel]
  obtain ⟨i, k, e, q⟩ := nmOf_1 rfl hx
  cases k with
  | globalImplicit => rw [idxOf_lookup e]; rfl
  | free => exact bd_e q fun p _ q => by cases p with | mk j k => cases k <;> cases q
  | _ => cases q
theorem comp_rd (r : Rd S cx ev Y h g m mc) (hcs : cx.cs = none) (kf : ev.scope.kind = .function) (so : ScOk cx.fn sc) (kC : g.κ C = .ot) {mc' : Fm} (hm : McAt S h g C sc.names mc') : Rd S (compCx cx sc) (compEnvC sc (closL ev.cells sc.names []) C ev) Y h g m mc' := by
  refine ⟨fun x i hx l hl => ?_, fun x i hx l hl => ?_, nofun⟩
  · have hb := nmOf_bad hx
    obtain ⟨j, k, e, hx⟩ := nmOf_1 rfl hx
    cases k with
    | free =>
      have hmem : (x, NameKind.free) ∈ sc.names := lookup_mem' (idxOf_lookup e)
      obtain ⟨_, j', hj⟩ := so.nf _ hmem rfl
      dsimp only at hj
      have hx : (idxOf cx.fn x 0).bind _ = _ := hx
      rw [hj] at hx
      obtain rfl : j' = i := by cases hx; rfl
      have hn : nmOf cx x = some (.v j') := nmOf_i hb hcs hj
      obtain ⟨v, na, lr⟩ := r.v x j' hn l hl
      obtain ⟨kc, c, o, c1, c2, c3⟩ := r.c hcs x j' hj
      refine ⟨v, ?_, lr⟩
      rcases na with ⟨k, _⟩ | ⟨c', k, l', k', ic⟩
      · rw [kc] at k; cases k
      · refine .inr ⟨c', .inl ?_, closL_lookup l' (idxOf_lookup e), k', ic⟩
        show List.lookup x (relabel sc ev).names = _
        unfold relabel
        dsimp only
        rw [lookup_relabel, idxOf_lookup e, kf, kc]; rfl
    | _ => cases hx
  · obtain ⟨j, k, e, hx⟩ := nmOf_1 rfl hx
    cases k with
    | «local» =>
      cases hx
      obtain ⟨mp, ns, q⟩ := hm
      obtain ⟨v, d, a, rfl, p⟩ := q x i l e hl
      exact ⟨v, .inl ⟨kind_local e, .inr kC, mp, ns, a⟩, .v (.pd p)⟩
    | free => exact bd_e hx fun p _ q => by cases p with | mk j k => cases k <;> cases q
    | _ => cases hx
/-- an exception leaves the comprehension -/
theorem er_noted {E : KE} {g1 : Gh} {s1 s s' : Shared} {D it : Addr} {v : Value} {x : V} {k : Nat} {acc : List PyData} {σ : Hp} {cenv : Env} {e : Value} {Q : Value → Shared → Prop} {dv : Value} (a : Act S cx A env ev outer L nd hd) (ap : Apart3 s1.heap C D it) (c : CL S (env :: outer) g1 s1 C D it v x k acc g σ s) (hv : cenv.frame = some L)
    (er : Er S (env :: outer) No false g s E e s') : notedBy S.M A cenv (fun e s' => compPost S.M A (Er S (env :: outer) No false g1 s1 E) none Q dv C (.error e) s') e s' := by
  obtain ⟨exc, σ', g', ea, tr, rfl, _, hE, x1, I1, ex, z1⟩ := er
  unfold notedBy
  have c1 := c.mono x1 I1 z1
  refine wpAny_note a.frames a.fL hv I1 ex fun g2 h2 I2 x2 ex2 => ?_
  have c2 := c1.mono (s' := { s' with heap := h2 }) x2 I2 ⟨rfl, rfl, rfl⟩
  obtain ⟨mp, ns⟩ := c2.C
  refine ⟨mp, ns, fun h3 sb cenv' _ => ?_⟩
  obtain ⟨x3, I3⟩ := own_step c2.E c2.I ap.nC c2.kC sb.extBut
  have kp : ∀ b o, g2.κ b ≠ .ot → h2.get? b = some o → h3.get? b = some o := fun b o q e => sb.extBut b o (fun w => q (w ▸ c2.kC)) e
  have ex3 : ExcAt S h3 g2 ea exc true := by
    obtain ⟨kd, oe, vs, dx, mp, h1, h2', h3', h4, h5, h6, h7, ⟨v1, h8, h9⟩, h10, h11⟩ := ex2
    have fz : Fz g2.κ g2.κ h2 h3 := fun b o q e => ⟨q, kp b o (by rw [q]; decide) e⟩
    refine ⟨kd, oe, vs, dx, mp, kp _ _ (by rw [kd]; decide) h1, h2', h3', h4, h5, h6, ns_of (fun o e => kp _ o (by rw [h6]; decide) e) h7, ⟨v1, h8, h9.mono fz⟩, fun q => let ⟨w, a, b⟩ := h10 q; ⟨w, a, b.mono fz⟩, ?_⟩
    rcases h11 with ⟨q, _⟩ | ⟨q, T, oT, ts, t1, t2, t3, t4, t5, t6⟩
    · cases q
    · exact .inr ⟨rfl, T, oT, ts, t1, t2, kp _ _ (by rw [t6]; decide) t3, t4, t5, t6⟩
  refine wpAny_passOn (S := S) (g := g2) (σ := σ') (s := { s' with heap := h3 }) I3 ex3 fun h4 I4 x4 ex4 => ?_
  exact ⟨exc, σ', g2, ea, true, rfl, nofun, hE, x3.trans x4, I4, ex4, c2.z.trans ⟨rfl, rfl, rfl⟩⟩
end

/-! COMPREHENSIONS: the loop -/
section
variable {S : Sta} {G : CallS} {nd : Nat} {cx : Cx} {A : Around} {env ev : Env} {outer : List Env} {L C D it : Addr} {Y : Addr → Prop} {m mc : Fm} {g0 g1 g : Gh} {s1 s : Shared} {sc : Scope} {v : Value} {x : V} {k : Nat} {acc : List PyData} {σ : Hp} {E : KE} {Q : Value → Shared → Prop}
noncomputable abbrev Nv (S : Sta) (A : Around) (R : Result → Shared → Prop) (cenv : Env) : Value → Shared → Prop := notedBy S.M A cenv (fun e s' => R (.error e) s')
/-- what an exception of the loop does -/
noncomputable abbrev ErrTo (S : Sta) (A : Around) (env : Env) (outer : List Env) (g1 : Gh) (s1 : Shared) (C D it : Addr) (v : Value) (x : V) (E : KE) (R : Result → Shared → Prop) (cenv : Env) : Prop :=
  ∀ k acc g σ s e s', CL S (env :: outer) g1 s1 C D it v x k acc g σ s → Er S (env :: outer) No false g s E e s' → Nv S A R cenv e s'
/-- the comprehension's list, when all is in it -/
structure CEnd (S : Sta) (fr : List Env) (g1 : Gh) (s1 : Shared) (C D : Addr) (acc : List PyData) (g : Gh) (σ : Hp) (s : Shared) : Prop where
  E : Ext No g1 g s1.heap s.heap
  I : Inv S fr g σ s.heap
  z : Rest s1 s
  kC : g.κ C = .ot
  kD : g.κ D = .ot
  C : ∃ mp, s.heap.Ns C mp
  D : ∃ vs n, s.heap.get? D = some ⟨.type "list", none, .seq vs n, #[]⟩ ∧ PVs S.w.params s.heap g.κ vs.toList acc
inductive Sealed (S : Sta) (fr : List Env) (g1 : Gh) (s1 : Shared) (C D : Addr) (K : KV) (h : Heap) : Prop
  | mk (d : V) (σ : Hp) (g : Gh) (k : K d σ) (E : Ext No g1 g s1.heap h) (I : Inv S fr g σ h) (r : VR S h g (.ref D) d) (kC : g.κ C = .ot)
/-- the list gets its kind -/
theorem CEnd.seal {fr : List Env} {b : Bool} {K : KV} (ok : StaOk S) (ap : Apart3 s1.heap C D it) (c : CEnd S fr g1 s1 C D acc g σ s) (h : made b acc σ K) : Sealed S fr g1 s1 C D K s.heap := by
  obtain ⟨E, I, z, kC, kD, _, vs, n, d1, d2⟩ := c
  replace h := when_e h
  cases b with
  | true =>
    obtain ⟨I3, E3⟩ := Inv.sealMu (o := .list acc) (h2 := s.heap) E I ap.nD kD ⟨_, d1⟩ (fun b o _ e => e) fun u => .list (vs := vs.toList) d1 (d2.mono u.fz)
    refine ⟨_, _, _, h.2, E3, I3, ?_, (if_neg ap.cd).trans kC⟩
    have : (g.mu D).μ σ.length = D := by rw [I.num]; exact if_pos rfl
    conv => lhs; rw [← this]
    exact .ref (by show σ.length < g.n + 1; rw [I.num]; exact Nat.lt_succ_self _)
  | false =>
    obtain ⟨I3, E3, U3⟩ := Inv.seal (k := .fz) (h2 := s.heap) E I ap.nD kD (fun b o _ e => e) d1
    have ns : D ≠ sysModules := fun q => by
      obtain ⟨o, e⟩ := ok.sm
      have := I.bfz _ _ e
      rw [← q, kD] at this; cases this
    exact ⟨_, _, _, h.2, E3, I3, .pd (.list (if_pos rfl) d1 rfl rfl ns (d2.mono U3.fz)), (if_neg ap.cd).trans kC⟩
theorem comp_done {b : Bool} {K : KV} (ok : StaOk S) (ap : Apart3 s1.heap C D it) (c : CEnd S (env :: outer) g1 s1 C D acc g σ s) (hK : made b acc σ K) :
    compPost S.M A (Er S (env :: outer) No false g1 s1 E) none (Ok S (env :: outer) No (RV S) g1 s1 K) (.ref D) C (.ok .next) s := by
  obtain ⟨mp, ns⟩ := c.C
  refine ⟨mp, ns, fun h' sb => ?_⟩
  obtain ⟨d, σ3, g3, k, E3, I3, r, kC⟩ := c.seal ok ap hK
  obtain ⟨E2, I2⟩ := own_step E3 I3 ap.nC kC sb.extBut
  exact ⟨d, σ3, g3, k, E2, I2, r.mono (own_up I3 kC sb.extBut), ⟨c.z.1, c.z.2.1, c.z.2.2⟩⟩
theorem itemsOf_still {σ σ' : Hp} {x : V} {k : Prop} (h : still σ σ' x k) : itemsOf σ' x = itemsOf σ x ∧ k := by
  cases x with
  | ref i => exact ⟨congrArg (fun o => alt ((Option.bind o rdO).bind fun d => alt (listP d) (tupP d)) none) h.1, h.2⟩
  | _ => exact ⟨rfl, h⟩
theorem fold_plain {iter : PySem.Expr} (h : kindE iter ≠ 3) (ev : Env) (w : Value) : foldedSetIterable iter ev w = pure w := by
  cases iter <;> first | rfl | exact absurd rfl h
/-- one turn of the machine's comprehension -/
noncomputable abbrev turnOf (S : Sta) (G : CallS) (m : Fm) (E : KE) (xe : X) (t : Tg) (xc : Option X) : PyData → Hp → (List PyData → Hp → Prop) → Prop :=
  fun d σ2 k => need (tgFm mc0 t d) fun mc' => evC G S.gc m mc' xc σ2 (fun r σ3 => brn r (evX G S.gc m mc' xe σ3 (fun v σ4 => need (pdV v) fun d' => k [d'] σ4) E) (k [] σ3)) E
/-- what follows the if of a comprehension, at most one -/
inductive IfsOk (S : Sta) (G : CallS) (nd : Nat) (cx : Cx) : List PySem.Expr → Option X → Prop
  | no : IfsOk S G nd cx [] none
  | yes {c : PySem.Expr} {q : X} (h : SndT S G nd false cx c q) : IfsOk S G nd cx [c] (some q)
inductive CLI (S : Sta) (fr : List Env) (g1 : Gh) (s1 : Shared) (C D it : Addr) (v : Value) (x : V) (l : List PyData) (F : List PyData → List PyData → Hp → Prop) (n : Nat) (s : Shared) : Prop
  | mk (k : Nat) (g : Gh) (σ : Hp) (acc : List PyData) (hn : n = l.length + 1 - k) (hk : k ≤ l.length) (c : CL S fr g1 s1 C D it v x k acc g σ s) (hl : itemsOf σ x = some l) (h : F (l.drop k) acc σ)
theorem drop_at {α : Type} {l : List α} {k : Nat} {d : α} (e : l[k]? = some d) : l.drop k = d :: l.drop (k + 1) := by
  obtain ⟨hlt, hd⟩ := List.getElem?_eq_some_iff.mp e
  rw [List.drop_eq_getElem_cons hlt, hd]
/-- the target is set: what is left of the turn -/
inductive Aft (S : Sta) (G : CallS) (m : Fm) (E : KE) (xe : X) (xc : Option X) (fr : List Env) (g1 : Gh) (s1 : Shared) (C D it : Addr) (names : Names) (v : Value) (x : V) (l : List PyData) (F : List PyData → List PyData → Hp → Prop) (σ1 : Hp) (n : Nat) (s : Shared) : Prop
  | mk (k : Nat) (g : Gh) (σ : Hp) (acc : List PyData) (mc' : Fm) (hn : n = l.length + 1 - k) (hk : k < l.length) (c : CL S fr g1 s1 C D it v x (k + 1) acc g σ s) (hm : McAt S s.heap g C names mc') (hz : acc.length ≤ sizeLine)
    (h : evC G S.gc m mc' xc σ (fun r σ3 => brn r (evX G S.gc m mc' xe σ3 (fun v σ4 => need (pdV v) fun d' => still σ1 σ4 x (F (l.drop (k + 1)) (acc ++ [d']) σ4)) E) (still σ1 σ3 x (F (l.drop (k + 1)) (acc ++ []) σ3))) E)
theorem comp_emit {elt : PySem.Expr} {xe : X} {R : Result → Shared → Prop} {mc' : Fm} {kk : PyData → Hp → Prop} {F : Shared → Prop} (a : Act S cx A env ev outer L nd false) (hcs : cx.cs = none) (so : ScOk cx.fn sc) (ap : Apart3 s1.heap C D it) (he : SndX S G nd false (compCx cx sc) elt xe)
    (hE : ErrTo S A env outer g1 s1 C D it v x E R (compEnvC sc (closL ev.cells sc.names []) C ev)) (rd : Rd S cx ev Y s1.heap g1 m mc)
    (c : CL S (env :: outer) g1 s1 C D it v x k acc g σ s) (hm : McAt S s.heap g C sc.names mc') (hz : acc.length ≤ sizeLine) (h : evX G S.gc m mc' xe σ (fun v σ4 => need (pdV v) fun d' => kk d' σ4) E)
    (hF : ∀ g' σ' d' s', CL S (env :: outer) g1 s1 C D it v x k (acc ++ [d']) g' σ' s' → kk d' σ' → F s') :
    wpAny S.M A (eval elt (compEnvC sc (closL ev.cells sc.names []) C ev)) (fun xv s4 => wpAny S.M A (call (.builtin "list.append") [.ref D, xv]) (fun _ s5 => F s5) (Nv S A R (compEnvC sc (closL ev.cells sc.names []) C ev)) s4) (Nv S A R (compEnvC sc (closL ev.cells sc.names []) C ev)) s := by
  refine wpAny_mono (he A env _ outer L Y m mc' σ g s _ E (comp_act a hcs so) c.I (comp_rd (rd.mono c.E) hcs a.kf so c.kC hm) h) (fun xv s4 hok => ?_) fun e s' er => hE _ _ _ _ _ _ _ c er
  obtain ⟨d, σ4, g4, h4, E4, I4, r4, z4⟩ := hok
  refine need_e h4 fun d' hd h4 => ?_
  have c4 := c.mono E4 I4 z4
  obtain ⟨vs, n', d1, d2⟩ := c4.D
  have hl4 : vs.size = acc.length := d2.length
  exact append_at d1 (fun h' sb hD => hF g4 σ4 d' _ (c4.more ap d1 d2 sb hD (vr_pd (pdV_e hd ▸ r4))) h4) (hl4 ▸ hz)
theorem comp_loop {elt te iter : PySem.Expr} {ifs : List PySem.Expr} {pos : Pos} {xe : X} {t : Tg} {xc : Option X} {KK : List PyData → Hp → Prop} {R : Result → Shared → Prop} {l : List PyData} {σ1 : Hp} (a : Act S cx A env ev outer L nd false) (hcs : cx.cs = none) (so : ScOk cx.fn sc) (ap : Apart3 s1.heap C D it) (ht : TgOk S sc.names te t)
    (he : SndX S G nd false (compCx cx sc) elt xe) (hc : IfsOk S G nd (compCx cx sc) ifs xc)
    (hE : ErrTo S A env outer g1 s1 C D it v x E R (compEnvC sc (closL ev.cells sc.names []) C ev))
    (hR : ∀ g σ acc s, CEnd S (env :: outer) g1 s1 C D acc g σ s → KK acc σ → R (.ok .next) s)
    (rv : VR S s1.heap g1 v x) (rd : Rd S cx ev Y s1.heap g1 m mc) (hl : itemsOf σ1 x = some l)
    (c : CL S (env :: outer) g1 s1 C D it v x 0 [] g σ1 s) (h : compN (turnOf S G m E xe t xc) (fun σ' k => still σ1 σ' x k) KK l [] σ1) :
    codeAny S.M A (.compLoop (.ListComp elt [⟨te, iter, ifs, 0⟩] sc pos) 0 (.ref it) (.ref D) (compEnvC sc (closL ev.cells sc.names []) C ev))
      R s := by
  generalize hF : compN (turnOf S G m E xe t xc) (fun σ' k => still σ1 σ' x k) KK = F at h
  have start : ∀ n s, CLI S (env :: outer) g1 s1 C D it v x l F n s → ∀ P : Shared → Prop, (∀ s2, Aft S G m E xe xc (env :: outer) g1 s1 C D it sc.names v x l F σ1 n s2 → P s2) →
      wpAny S.M A (pyNext (.ref it)) (fun r s₁ => match r with
        | none => R (.ok .next) s₁
        | some v => wpAny S.M A (letOwnedTupleGo te (.ref it) v) (fun _ s₀ => wpAny S.M A (assign te (compEnvC sc (closL ev.cells sc.names []) C ev) v) (fun _ s₂ => P s₂) (Nv S A R (compEnvC sc (closL ev.cells sc.names []) C ev)) s₀) (Nv S A R (compEnvC sc (closL ev.cells sc.names []) C ev)) s₁)
        (Nv S A R (compEnvC sc (closL ev.cells sc.names []) C ev)) s := fun n s hI P hP => by
    obtain ⟨k, g, σ, acc, hn, hk, c, hl', h⟩ := hI
    refine iter_next (a.hn rfl) c.I (rv.mono c.E.up) hl' c.it hk (fun w d h' tk e p sb i => ?_) (fun h' e eb => ?_)
    · rw [drop_at e, ← hF] at h
      obtain ⟨hz, h⟩ := when_e h
      refine need_e h fun mc' hm h => ?_
      have p := p.mono (own_up c.I c.kI sb.extBut).fz
      have c := c.moved (tk := tk) ap sb i
      refine own_go c.it ?_
      obtain ⟨mp, ns⟩ := c.C
      exact ht (comp_sto (a.hn rfl) ap rfl (fun x i e => kind_local e) so.kf) w d mc0 mc' _ _ _ hm ⟨c, McAt.empty ns⟩ p fun s2 ⟨c2, hm2⟩ fz => hP _ ⟨k, g, σ, acc, mc', hn, (List.getElem?_eq_some_iff.mp e).1, c2, hm2, hz, hF ▸ h⟩
    · subst e
      rw [List.drop_length, ← hF] at h
      obtain ⟨E2, I2⟩ := own_step c.E c.I ap.nI c.kI eb
      have U2 := own_up c.I c.kI eb
      obtain ⟨mp, ns⟩ := c.C
      obtain ⟨vs, n, d1, d2⟩ := c.D
      exact hR _ _ _ _ ⟨E2, I2, ⟨c.z.1, c.z.2.1, c.z.2.2⟩, c.kC, c.kD, ⟨mp, ns_of (fun o e => eb _ o ap.ci e) ns⟩, ⟨vs, n, eb _ _ ap.di d1, d2.mono U2.fz⟩⟩ h
  have back : ∀ {k g σ acc s}, k < l.length → CL S (env :: outer) g1 s1 C D it v x (k + 1) acc g σ s → still σ1 σ x (F (l.drop (k + 1)) acc σ) → ∃ m, m < l.length + 1 - k ∧ CLI S (env :: outer) g1 s1 C D it v x l F m s := fun {k g σ acc s} hk c h =>
    ⟨_, Nat.sub_lt_sub_left (Nat.lt_succ_of_lt hk) (Nat.lt_succ_self _), k + 1, g, σ, acc, rfl, hk, c, (itemsOf_still h).1.trans hl, (itemsOf_still h).2⟩
  have i0 : CLI S (env :: outer) g1 s1 C D it v x l F (l.length + 1) s := ⟨0, g, σ1, [], rfl, Nat.zero_le _, c, hl, h⟩
  cases hc with
  | no =>
    refine kcp_loop _ (fun n s hI => start n s hI _ fun s2 af => ?_) _ i0
    obtain ⟨k, g, σ, acc, mc', hn, hk, c, hm, hz, h⟩ := af
    subst hn
    exact comp_emit a hcs so ap he hE rd c hm hz h fun g' σ' d' s' c' h' => back hk c' h'
  | yes hq =>
    refine kct_loop _ (fun n s hI => start n s hI _ fun s2 af => ?_) _ i0
    obtain ⟨k, g, σ, acc, mc', hn, hk, c, hm, hz, h⟩ := af
    subst hn
    refine wpAny_mono (hq A env _ outer L Y m mc' σ g s2 _ E (comp_act a hcs so) c.I (comp_rd (rd.mono c.E) hcs a.kf so c.kC hm) h) (fun r s3 hok => ?_) fun e s' er => hE _ _ _ _ _ _ _ c er
    obtain ⟨r', σ3, g3, h3, E3, I3, e3, z3⟩ := hok
    have c3 := c.mono E3 I3 z3
    cases e3
    cases r with
    | true =>
      rw [if_pos rfl]
      exact comp_emit a hcs so ap he hE rd c3 (hm.mono E3.fz fun o e => keepOt E3 c.kC e) hz h3 fun g' σ' d' s' c' h' => back hk c' h'
    | false =>
      rw [if_neg (by decide)]
      refine back (g := g3) hk (acc := acc ++ []) ?_ h3
      rw [List.append_nil]; exact c3
/-- an exception of the loop, as the comprehension hands it on -/
theorem comp_err {use : Option (Value → Sem Unit)} {dv e : Value} {s' : Shared} {g : Gh} {s : Shared} (e1 : Ext No g g1 s.heap s1.heap) (z1 : Rest s s1) (q : compPost S.M A (Er S (env :: outer) No false g1 s1 E) none Q dv C (.error e) s') :
    compPost S.M A (Er S (env :: outer) No false g s E) use Q dv C (.error e) s' := by
  obtain ⟨mp, ns, q⟩ := q
  have z : ∃ m, s'.heap.Ns C m ∧ ∀ h', Heap.SameBut C s'.heap h' → ∀ cenv : Env, cenv.locals = C → wpAny S.M A (passOn "comprehension.variables-let-go" e cenv : Sem Value) (fun _ _ => False) (Er S (env :: outer) No false g s E) { s' with heap := h' } :=
    ⟨mp, ns, fun h' sb cv hv => wpAny_mono (q h' sb cv hv) (fun _ _ x => x) fun _ _ x => x.trans e1 z1⟩
  cases use <;> exact z
theorem comp_run {elt te iter : PySem.Expr} {ifs : List PySem.Expr} {pos p0 : Pos} {xe xi : X} {t : Tg} {xc : Option X} {KK : List PyData → Hp → Prop} {use : Option (Value → Sem Unit)} (hcs : cx.cs = none) (hok : compOk cx.fn sc = true) (hf : ∀ ev w, foldedSetIterable iter ev w = pure w) (ht : TgOk S sc.names te t)
    (hi : SndX S G nd false cx iter xi) (he : SndX S G nd false (compCx cx sc) elt xe) (hc : IfsOk S G nd (compCx cx sc) ifs xc)
    (a : Act S cx A env ev outer L nd false) (I : Inv S (env :: outer) g σ s.heap) (rd : Rd S cx ev Y s.heap g m mc)
    (h : evX G S.gc m mc xi σ (fun x σ1 => need (itemsOf σ1 x) fun l => compN (turnOf S G m E xe t xc) (fun σ' k => still σ1 σ' x k) KK l [] σ1) E)
    (hR : ∀ g1 s1 C D it, Ext No g g1 s.heap s1.heap → Rest s s1 → Apart3 s1.heap C D it → ∀ g2 σ2 acc s2, CEnd S (env :: outer) g1 s1 C D acc g2 σ2 s2 → KK acc σ2 →
      compPost S.M A (Er S (env :: outer) No false g s E) use Q (.ref D) C (.ok .next) s2) :
    wpAny S.M A (comprehension (.ListComp elt [⟨te, iter, ifs, 0⟩] sc pos) sc ev p0 (newList []) false (eval iter ev) use) Q (Er S (env :: outer) No false g s E) s := by
  have so := scOk hok
  have hcl : closureFor sc ev = pure (closL ev.cells sc.names []) := closureFor_eq fun p hp hq => by
    obtain ⟨_, i, hi⟩ := so.nf p hp hq
    obtain ⟨_, c, o, h2, _⟩ := rd.c hcs p.1 i hi
    exact ⟨c, h2⟩
  refine wpAny_comprehension_free (use := use) rfl (hf ev) hcl so.kf so.nl (step (hi A env ev outer L Y m mc σ g s _ E a I rd h) fun v x σ1 g1 s1 h1 e1 i1 r1 z1 => ?_)
  refine need_e h1 fun l hl h1 => iter_start i1 r1 hl fun oi hit => ?_
  refine wpAny_newObj_type (wpAny_newFunctionEnv so.nc (by intro y hy; simp at hy) (fun h4 hns hsb => ?_) so.kf)
  dsimp only at hns hsb ⊢
  have z2 : (s1.heap.push oi).objs.size = s1.heap.objs.size + 1 := Heap.size_push ..
  have z3 : ((s1.heap.push oi).push { cls := .type "list", dict := none, data := .seq ([] : List Value).toArray }).objs.size = s1.heap.objs.size + 2 := by rw [Heap.size_push, z2]
  have hat : ((s1.heap.push oi).push { cls := .type "list", dict := none, data := .seq ([] : List Value).toArray }).get? (s1.heap.push oi).objs.size = some { cls := .type "list", dict := none, data := .seq ([] : List Value).toArray } := Heap.get?_push_size _ rfl
  rw [z2] at hat
  have up : ∀ b o, s1.heap.get? b = some o → ((s1.heap.push oi).push { cls := .type "list", dict := none, data := .seq ([] : List Value).toArray }).get? b = some o := fun b o e => Heap.get?_push_of_some _ (Heap.get?_push_of_some _ e)
  have hit := hit.at (h' := (s1.heap.push oi).push { cls := .type "list", dict := none, data := .seq ([] : List Value).toArray }) fun o e => Heap.get?_push_of_some _ e
  rw [z2]
  generalize (s1.heap.push oi).push { cls := .type "list", dict := none, data := .seq ([] : List Value).toArray } = H at z3 hat up hit hns hsb ⊢
  rw [z3] at hns hsb
  rw [z3]
  have n1 : ∀ b, s1.heap.objs.size ≤ b → s1.heap.get? b = none := fun b hb => Heap.get?_none_of_le hb
  have ap : Apart3 s1.heap (s1.heap.objs.size + 2) (s1.heap.objs.size + 1) s1.heap.objs.size :=
    ⟨n1 _ (Nat.le_add_right _ 2), n1 _ (Nat.le_add_right _ 1), n1 _ (Nat.le_refl _), Nat.ne_of_gt (Nat.lt_succ_self _), Nat.ne_of_gt (Nat.lt_add_of_pos_right (by decide)), Nat.ne_of_gt (Nat.lt_succ_self _)⟩
  have kp : ∀ b o, s1.heap.get? b = some o → h4.get? b = some o := fun b o e => hsb.extBut b o (Nat.ne_of_lt (Nat.lt_of_lt_of_le (Heap.lt_size e) (Nat.le_add_right _ 2))) (Heap.get?_push_of_some _ (up _ _ e))
  obtain ⟨I4, E4⟩ := i1.keeps kp
  have c : CL S (env :: outer) g1 s1 _ _ _ v x 0 [] g1 σ1 { heap := h4, gens := s1.gens, drawn := s1.drawn, toks := s1.toks + ([] : List (Str × Value)).length, os := s1.os } :=
    ⟨E4, I4, ⟨rfl, rfl, rfl⟩, i1.ot _ ap.nC, i1.ot _ ap.nD, i1.ot _ ap.nI, ⟨_, hns⟩, ⟨_, _, hsb.extBut _ _ (Ne.symm ap.cd) (Heap.get?_push_of_some _ hat), .nil⟩, hit.at fun o e => hsb.extBut _ o (Ne.symm ap.ci) (Heap.get?_push_of_some _ e)⟩
  have loop := comp_loop (iter := iter) (pos := pos) (KK := KK) (R := compPost S.M A (Er S (env :: outer) No false g s E) use Q (.ref (s1.heap.objs.size + 1)) (s1.heap.objs.size + 2)) a hcs so ap ht he hc
    (fun k acc g' σ s' e s'' c er => by
      have := er_noted (cenv := compEnvC sc (closL ev.cells sc.names []) (s1.heap.objs.size + 2) ev) (Q := Q) (dv := .ref (s1.heap.objs.size + 1)) a ap c (by exact a.vL) er
      unfold Nv
      unfold notedBy at this ⊢
      exact wpAny_mono this (fun _ s' q => comp_err e1 z1 q) fun _ s' q => comp_err e1 z1 q)
    (fun g' σ acc s' c q => hR g1 s1 _ _ _ e1 z1 ap g' σ acc s' c q) r1 (rd.mono e1) hl c h1
  exact codeAny_compStart_list loop (iter_self c.it loop)
theorem snd_comp (ok : StaOk S) {elt te iter : PySem.Expr} {ifs : List PySem.Expr} {pos : Pos} {b : Bool} {xe xi : X} {t : Tg} {xc : Option X} (hcs : cx.cs = none) (hok : compOk cx.fn sc = true) (hf : ∀ ev w, foldedSetIterable iter ev w = pure w) (ht : TgOk S sc.names te t)
    (hi : SndX S G nd false cx iter xi) (he : SndX S G nd false (compCx cx sc) elt xe) (hc : IfsOk S G nd (compCx cx sc) ifs xc) :
    SndX S G nd false cx (.ListComp elt [⟨te, iter, ifs, 0⟩] sc pos) (.comp b xe t xi xc) := by
  intro A env ev outer L Y m mc σ g s K E a I rd h
  replace h := eq_evX_28 h
  rw [eval_ListComp]
  refine comp_run hcs hok hf ht hi he hc a I rd h fun g1 s1 C D it e1 z1 ap g2 σ2 acc s2 c q => ?_
  obtain ⟨mp, ns, q⟩ := comp_done (A := A) (E := E) ok ap c q
  exact ⟨mp, ns, fun h' sb => (q h' sb).trans e1 z1⟩
end

/-! STATEMENTS -/
noncomputable def RFl (S : Sta) (h : Heap) (g : Gh) : Flow → Fl → Prop
  | .next, .next => True
  | .ret v, .ret x => VR S h g v x
  | _, _ => False
inductive OkS (S : Sta) (env : Env) (outer : List Env) (Y : Addr → Prop) (names : Names) (g : Gh) (s : Shared) (K : Fl → Fm → Hp → Prop) (fl : Flow) (s' : Shared) : Prop
  | mk (f : Fl) (m' : Fm) (σ' : Hp) (g' : Gh) (k : K f m' σ') (e : Ext Y g g' s.heap s'.heap) (i : Inv S (env :: outer) g' σ' s'.heap) (v : VarsOk S Y s'.heap g' env names m') (r : RFl S s'.heap g' fl f) (z : Rest s s')
noncomputable abbrev NoFree (names : Names) : Prop := ∀ x i, idxOf names x 0 ≠ some (i, .free)
noncomputable def SndS (S : Sta) (G : CallS) (nd : Nat) (hd : Bool) (names : Names) (lam : Bool) (st : Stmt) (x : Mine.S) : Prop :=
  ∀ A env outer L Y m σ g s K E, Act S (S.at names none lam) A env env outer L nd hd → NoFree names → Inv S (env :: outer) g σ s.heap → VarsOk S Y s.heap g env names m → evS G S.gc x m σ K E →
    wpAny S.M A (exec st env) (OkS S env outer Y names g s K) (Er S (env :: outer) Y false g s E) s
noncomputable def SndSs (S : Sta) (G : CallS) (nd : Nat) (hd : Bool) (names : Names) (lam : Bool) (st : List Stmt) (x : List Mine.S) : Prop :=
  ∀ A env outer L Y m σ g s K E, Act S (S.at names none lam) A env env outer L nd hd → NoFree names → Inv S (env :: outer) g σ s.heap → VarsOk S Y s.heap g env names m → evSs G S.gc x m σ K E →
    wpAny S.M A (execs st env) (OkS S env outer Y names g s K) (Er S (env :: outer) Y false g s E) s
section
variable {S : Sta} {fr : List Env} {X Y : Addr → Prop} {t : Bool} {g g1 : Gh} {s s1 s2 : Shared} {E : Exc → Hp → Prop} {a : Value}
theorem Er.wide (i : ∀ a, X a → Y a) : Er S fr X t g s E a s1 → Er S fr Y t g s E a s1 := by
  rintro ⟨exc, σ', g', ea, tr, e, f, k, y, i', q, z⟩
  exact ⟨exc, σ', g', ea, tr, e, f, k, y.weaken i, i', q, z⟩
theorem Er.no : Er S fr No t g s E a s1 → Er S fr Y t g s E a s1 := Er.wide fun _ q => q.elim
end
section
variable {S : Sta} {G : CallS} {nd : Nat} {hd : Bool} {names : Names} {lam : Bool} {env : Env} {outer : List Env} {Y : Addr → Prop} {g g1 : Gh} {s s1 : Shared} {K : Fl → Fm → Hp → Prop} {E : KE}
theorem OkS.trans {fl : Flow} {s2 : Shared} (x : Ext Y g g1 s.heap s1.heap) (r : Rest s s1) : OkS S env outer Y names g1 s1 K fl s2 → OkS S env outer Y names g s K fl s2 := by
  rintro ⟨f, m, σ, g', k, e, i, v, q, z⟩
  exact ⟨f, m, σ, g', k, x.trans e, i, v, q, r.trans z⟩
theorem stS {A : Around} {α : Type} {t : Sem α} {Q : α → Shared → Prop} (x : Ext Y g g1 s.heap s1.heap) (r : Rest s s1) (h : wpAny S.M A t Q (Er S (env :: outer) Y false g1 s1 E) s1) : wpAny S.M A t Q (Er S (env :: outer) Y false g s E) s1 := wpAny_mono h (fun _ _ x => x) fun _ _ q => q.trans x r
/-- an expression of a statement -/
theorem stX {A : Around} {L : Addr} {m : Fm} {σ : Hp} {e : PySem.Expr} {x : X} {K : KV} {P : Value → Shared → Prop} (hx : SndX S G nd hd (S.at names none lam) e x) (a : Act S (S.at names none lam) A env env outer L nd hd) (nf : NoFree names) (I : Inv S (env :: outer) g σ s.heap) (V : VarsOk S Y s.heap g env names m) (h : evX G S.gc m [] x σ K E)
    (k : ∀ v d σ1 g1 s1, K d σ1 → Ext No g g1 s.heap s1.heap → Inv S (env :: outer) g1 σ1 s1.heap → VR S s1.heap g1 v d → VarsOk S Y s1.heap g1 env names m → Rest s s1 → P v s1) :
    wpAny S.M A (eval e env) P (Er S (env :: outer) Y false g s E) s :=
  wpAny_mono (hx A env env outer L Y m [] σ g s K E a I (V.rd nf) h) (fun v s1 ⟨d, σ1, g1, k1, e1, i1, r1, z1⟩ => k v d σ1 g1 s1 k1 e1 i1 r1 (V.mono e1) z1) fun _ _ q => q.no
theorem ss_nil : SndSs S G nd hd names lam [] [] := fun A env outer L Y m σ g s K E a nf I V h => wpAny_execs_nil ⟨.next, m, σ, g, h, .refl _ _ _, I, V, trivial, .refl _⟩
theorem ss_cons {st : Stmt} {sts : List Stmt} {x : Mine.S} {xs : List Mine.S} (hx : SndS S G nd hd names lam st x) (hr : SndSs S G nd hd names lam sts xs) : SndSs S G nd hd names lam (st :: sts) (x :: xs) := by
  intro A env outer L Y m σ g s K E a nf I V h
  replace h := eq_evSs_1 h
  refine wpAny_execs_cons (wpAny_mono (hx A env outer L Y m σ g s _ E a nf I V h) (fun fl s1 ⟨f, m1, σ1, g1, h1, e1, i1, v1, r1, z1⟩ => ?_) fun _ _ x => x)
  cases fl <;> cases f <;> first
    | exact r1.elim
    | exact stS e1 z1 (wpAny_mono (hr A env outer L Y m1 σ1 g1 s1 K E a nf i1 v1 h1) (fun _ _ x => x.trans e1 z1) fun _ _ x => x)
    | exact ⟨_, m1, σ1, g1, h1, e1, i1, v1, r1, z1⟩
theorem s_ret {e : PySem.Expr} {x : X} {pos : Pos} (hx : SndX S G nd hd (S.at names none lam) e x) : SndS S G nd hd names lam (.Return (some e) pos) (.ret x) := by
  intro A env outer L Y m σ g s K E a nf I V h
  replace h := eq_evS_5 h
  rw [arm_exec_Return]
  refine wpAny_bind (wpAny_standAt ?_)
  show wpAny S.M A (do return Flow.ret (← eval e env)) _ _ _
  exact wpAny_bind (stX hx a nf I V h fun v d σ1 g1 s1 h1 e1 i1 r1 v1 z1 => wpAny_pure ⟨.ret d, m, σ1, g1, h1, e1.no, i1, v1, r1, z1⟩)
theorem s_bad {st : Stmt} : SndS S G nd hd names lam st .bad := fun A env outer L Y m σ g s K E a nf I V h => h.elim
theorem s_ite {t : PySem.Expr} {p q : List Stmt} {pos : Pos} {x : X} {xp xq : List Mine.S} (hx : SndT S G nd hd (S.at names none lam) t x) (hp : SndSs S G nd hd names lam p xp) (hq : SndSs S G nd hd names lam q xq) : SndS S G nd hd names lam (.If t p q pos) (.ite x xp xq) := by
  intro A env outer L Y m σ g s K E a nf I V h
  replace h := eq_evS_6 h
  rw [arm_exec_If]
  refine wpAny_bind (wpAny_standAt (wpAny_bind (wpAny_mono (hx A env env outer L Y m [] σ g s (fun r σ' => match r with | true => evSs G S.gc xp m σ' K E | false => evSs G S.gc xq m σ' K E) E a I (V.rd nf) h) (fun r s1 ⟨r', σ1, g1, h1, e1, i1, rr, z1⟩ => ?_) fun _ _ q => q.no)))
  subst rr
  have v1 := V.mono e1
  cases r with
  | true => exact stS e1.no z1 (wpAny_mono (hp A env outer L Y m σ1 g1 s1 K E a nf i1 v1 h1) (fun _ _ x => x.trans e1.no z1) fun _ _ x => x)
  | false => exact stS e1.no z1 (wpAny_mono (hq A env outer L Y m σ1 g1 s1 K E a nf i1 v1 h1) (fun _ _ x => x.trans e1.no z1) fun _ _ x => x)
end

/-! ASSIGNMENTS -/
section
variable {S : Sta} {g : Gh} {h h' : Heap} {Y : Addr → Prop} {C : Addr}
theorem LR.kept (k : g.κ C = .ot) (x : Heap.ExtBut C h h') {v : Value} {l : Loc} : LR S Y h g v l → LR S Y h' g v l := by
  have kp : ∀ b o, g.κ b ≠ .ot → h.get? b = some o → h'.get? b = some o := fun b o q e => x b o (fun w => q (w ▸ k)) e
  have fz : Fz1 g h h' := fun b o q e => ⟨q, kp b o (by rw [q]; decide) e⟩
  have U : Up g g h h' := ⟨Nat.le_refl _, fun _ _ => rfl, fz⟩
  intro r
  cases r with
  | v r => exact .v (r.mono U)
  | fault r =>
    obtain ⟨k, nx, oe, vs, dx, mp, h1, h2, h3, h4, h6, h7, ⟨v1, h8, h9⟩, h10⟩ := r
    exact .fault ⟨k, nx, oe, vs, dx, mp, kp _ _ (by rw [k]; decide) h1, h2, h3, h4, h6, ns_of (fun o e => kp _ o (by rw [h6]; decide) e) h7, ⟨v1, h8, h9.mono fz⟩, fun y => let ⟨w, a, b⟩ := h10 y; ⟨w, a, b.mono fz⟩⟩
  | lam r =>
    obtain ⟨o, fd, fn, e, h1, h2, h3, st, co, fr⟩ := r
    refine .lam ⟨o, fd, fn, e, (fz _ _ h1 h2).1, (fz _ _ h1 h2).2, h3, st, co.mono fz, fun x i e1 e2 => ?_⟩
    obtain ⟨c, o, q1, q2, q3, q4, q5⟩ := fr x i e1 e2
    refine ⟨c, o, q1, q2, q3, kp _ _ (by rw [q2]; decide) q4, fun y hy => ?_⟩
    obtain ⟨v, ⟨o', z1, z2⟩, z3⟩ := q5 y hy
    exact ⟨v, ⟨o', kp _ _ (by rw [q2]; decide) z1, z2⟩, z3.mono U⟩
theorem VarsOk.but {env : Env} {names : Names} {m : Fm} (k : g.κ C = .ot) (xb : Heap.ExtBut C h h') (ny : ¬ Y C) (V : VarsOk S Y h g env names m) : VarsOk S Y h' g env names m := by
  have kp : ∀ b o, g.κ b ≠ .ot → h.get? b = some o → h'.get? b = some o   := fun b o q e => xb b o (fun w => q (w ▸ k)) e
  obtain ⟨mp, ns, r⟩ := V.loc
  refine ⟨V.len, V.nm, V.kL, V.yL, fun a ya => let ⟨o, e, k⟩ := V.yH a ya; ⟨o, xb a o (fun q => ny (q ▸ ya)) e, k⟩, ⟨mp, ns_of (fun o e => kp _ o (by rw [V.kL]; decide) e) ns, fun x i l e1 e2 => let ⟨u, a, b⟩ := r x i l e1 e2; ⟨u, a, b.kept k xb⟩⟩, fun x i e => ?_, V.inj⟩
  obtain ⟨c, c1, c2, c3, c4, ov, ⟨oc, c5, c6⟩, c7⟩ := V.cel x i e
  exact ⟨c, c1, c2, c3, c4, ov, ⟨oc, kp _ _ (by rw [c4]; decide) c5, c6⟩, fun l hl => let ⟨u, a, b⟩ := c7 l hl; ⟨u, a, b.kept k xb⟩⟩
end
section
variable {S : Sta} {G : CallS} {nd : Nat} {hd : Bool} {names : Names} {lam : Bool} {cx : Cx}
theorem slot_some {x : Str} {q : Pos} {i : Nat} (h : slotOf cx (.Name x q) = some i) : ∃ k, idxOf cx.fn x 0 = some (i, k) ∧ (k = .local ∨ k = .cell) := by
  exact slotI_e h
theorem swaps_not {e : PySem.Expr} {t : Option PySem.Expr} {line : Nat} {env : Env} (he : kindE e ≠ 1) : swapsWith e t line env = pure false := by
  cases e <;> first | rfl | exact absurd rfl he
/-- an assignment to a name, where the stores stand as they are written -/
theorem s_asg0 {x : Str} {q pos : Pos} {e : PySem.Expr} {xe : X} {i : Nat} (hs : slotOf (S.at names none lam) (.Name x q) = some i) (hx : SndX S G nd hd (S.at names none lam) e xe)
    {A : Around} {env : Env} {outer : List Env} {L : Addr} {Y : Addr → Prop} {m : Fm} {σ : Hp} {g : Gh} {s : Shared} {K : Fl → Fm → Hp → Prop} {E : KE} (a : Act S (S.at names none lam) A env env outer L nd hd) (nf : NoFree names) (I : Inv S (env :: outer) g σ s.heap) (V : VarsOk S Y s.heap g env names m) (h : evS G S.gc (.asg i xe) m σ K E)
    (hw : swapsWith e (some (.Name x q)) pos.line env = pure false) : wpAny S.M A (exec (.Assign [.Name x q] e pos) env) (OkS S env outer Y names g s K) (Er S (env :: outer) Y false g s E) s := by
  replace h := eq_evS_0 h
  obtain ⟨k, hi, hk⟩ := slot_some hs
  rw [arm_exec_Assign]
  refine wpAny_bind (wpAny_standAt ?_)
  show wpAny S.M A (swapsWith e (some (.Name x q)) pos.line env >>= _) _ _ _
  rw [hw]
  refine wpAny_bind (wpAny_pure ?_)
  rw [if_neg (by decide)]
  refine wpAny_bind (stX hx a nf I V h fun v d σ1 g1 s1 h1 e1 i1 r1 v1 z1 => ?_)
  refine wpAny_bind (m := swappedStores [.Name x q] e env) (wpAny_pure ?_)
  show wpAny S.M A (do assignAll v [assign (.Name x q) env]; pure Flow.next) _ _ _
  refine wpAny_bind (m := assign (.Name x q) env v) (wpAny_assign_Name (store a.kf v1 i1 hi hk (.v r1) fun h' tk I' E' V' _ => wpAny_pure ⟨.next, _, σ1, g1, (when_e h1).2, e1.no.trans E', I', V', trivial, ⟨z1.1, z1.2.1, z1.2.2⟩⟩))
theorem s_asg {x : Str} {q pos : Pos} {e : PySem.Expr} {xe : X} {i : Nat} (he : kindE e ≠ 1) (hs : slotOf (S.at names none lam) (.Name x q) = some i) (hx : SndX S G nd hd (S.at names none lam) e xe) : SndS S G nd hd names lam (.Assign [.Name x q] e pos) (.asg i xe) :=
  fun A env outer L Y m σ g s K E a nf I V h => s_asg0 hs hx a nf I V h (swaps_not he)
theorem swaps_comp {el : PySem.Expr} {gs : List Comprehension} {sc : Scope} {p q : Pos} {x : Str} {line : Nat} {env : Env} : ∃ b, swapsWith (.ListComp el gs sc p) (some (.Name x q)) line env = pure b := ⟨_, rfl⟩
theorem s_asg_comp (ok : StaOk S) {x : Str} {q pos p : Pos} {elt te iter : PySem.Expr} {ifs : List PySem.Expr} {sc : Scope} {i : Nat} {b : Bool} {xe xi : X} {t : Tg} {xc : Option X} (hs : slotOf (S.at names none lam) (.Name x q) = some i) (hok : compOk names sc = true) (hf : ∀ ev w, foldedSetIterable iter ev w = pure w) (ht : TgOk S sc.names te t)
    (hi : SndX S G nd false (S.at names none lam) iter xi) (he : SndX S G nd false (compCx (S.at names none lam) sc) elt xe) (hc : IfsOk S G nd (compCx (S.at names none lam) sc) ifs xc) :
    SndS S G nd false names lam (.Assign [.Name x q] (.ListComp elt [⟨te, iter, ifs, 0⟩] sc p) pos) (.asg i (.comp b xe t xi xc)) := by
  intro A env outer L Y m σ g s K E a nf I V h
  obtain ⟨bb, hw⟩ := swaps_comp (el := elt) (gs := [⟨te, iter, ifs, 0⟩]) (sc := sc) (p := p) (q := q) (x := x) (line := pos.line) (env := env)
  cases bb with
  | false => exact s_asg0 hs (snd_comp ok rfl hok hf ht hi he hc) a nf I V h hw
  | true =>
    replace h := eq_evX_28 (eq_evS_0 h)
    obtain ⟨k, hix, hk⟩ := slot_some hs
    rw [exec_Assign_Name_used _ _ _ _ hw]
    refine wpAny_bind (wpAny_standAt (wpAny_bind ?_))
    show wpAny S.M A (do let _ ← comprehension (.ListComp elt [⟨te, iter, ifs, 0⟩] sc p) sc env _ (newList []) false (eval iter env) (some (assign (.Name x q) env))) _ _ s
    refine wpAny_bind (wpAny_mono (comp_run (Q := fun _ s' => OkS S env outer Y names g s K .next s') rfl hok hf ht hi he hc a I (V.rd nf) h fun g1 s1 C D it e1 z1 ap g2 σ2 acc s2 c q8 => ?_) (fun _ s' q => wpAny_pure (wpAny_pure q)) fun _ _ q => q.no)
    obtain ⟨d, σ3, g3, hK, E3, I3, rD, kC⟩ := c.seal ok ap q8
    have V3 := V.mono (e1.trans E3)
    show wpAny S.M A (assign (.Name x q) env (.ref D)) _ _ _
    refine wpAny_assign_Name (store a.kf V3 I3 hix hk (.v rD) fun h' tk I' E' V' same => ?_)
    obtain ⟨mp, ns⟩ := c.C
    refine ⟨mp, ns_of (fun o e => (same C kC).trans e) ns, fun h'' sb => ?_⟩
    have EY : Ext Y g1 g3 s1.heap h' := E3.no.trans E'
    obtain ⟨E5, I5⟩ := own_step EY I' ap.nC kC sb.extBut
    have ny : ¬ Y C := fun ya => by obtain ⟨o, e, _⟩ := (V.mono e1).yH C ya; rw [ap.nC] at e; cases e
    exact ⟨.next, _, σ3, g3, (when_e hK).2, e1.no.trans E5, I5, V'.but kC sb.extBut ny, trivial, z1.trans ⟨c.z.1, c.z.2.1, c.z.2.2⟩⟩
end

/-! ROWS OF STORES -/
theorem asgN_c {i : Nat} {r : List Nat} {v : V} {q : List V} {m : Fm} : asgN (i :: r) (v :: q) m = if i < m.length then asgN r q (setAt m i (some (.v v))) else none := rfl
theorem fm_one' {α β : Type} {F : α → Option β} {a : α} {ts : List α} {b : Bool} {y : β} {ns : List β} (e : (a :: ts).filterMap F = ns) (hl : ns.length = (a :: ts).length) (hF : F a = if b = true then some y else none) : ∃ ms, ns = y :: ms ∧ ts.filterMap F = ms ∧ ms.length = ts.length := by
  cases b with
  | true => rw [List.filterMap_cons_some (hF.trans (if_pos rfl))] at e; obtain rfl := e.symm; exact ⟨_, rfl, rfl, Nat.succ.inj hl⟩
  | false => rw [List.filterMap_cons_none (hF.trans (if_neg Bool.false_ne_true))] at e; exact absurd (Nat.le_trans (Nat.le_of_eq hl.symm) (e ▸ List.length_filterMap_le _ ts)) (Nat.lt_irrefl _)
theorem asgN_len {l : List Nat} : ∀ {ds : List V} {m m' : Fm}, asgN l ds m = some m' → l.length = ds.length ∧ m'.length = m.length := by
  induction l with
  | nil =>
    intro ds m m' h
    cases ds with
    | nil => cases h; exact ⟨rfl, rfl⟩
    | cons => cases h
  | cons i r ih =>
    intro ds m m' h
    cases ds with
    | nil => cases h
    | cons d ds =>
      rw [asgN_c] at h
      split at h
      · obtain ⟨h1, h2⟩ := ih h
        exact ⟨congrArg (· + 1) h1, by rw [h2, setAt_len]⟩
      · cases h
theorem asgN_put {i : Nat} {x : Option Loc} {r : List Nat} : ∀ {ds : List V} {m : Fm}, i ∉ r → asgN r ds (setAt m i x) = (asgN r ds m).map fun m' => setAt m' i x := by
  induction r with
  | nil => intro ds m _; cases ds <;> rfl
  | cons j r ih =>
    intro ds m h
    cases ds with
    | nil => rfl
    | cons d ds =>
      rw [asgN_c, asgN_c, setAt_len]
      rw [List.mem_cons, not_or] at h
      split
      · rw [setAt_comm h.1, ih h.2]
      · rfl
theorem asgN_append {a b : List Nat} : ∀ {c d : List V} {m : Fm}, a.length = c.length → asgN (a ++ b) (c ++ d) m = (asgN a c m).bind (asgN b d) := by
  induction a with
  | nil =>
    intro c d m h
    cases c with
    | nil => rfl
    | cons => cases h
  | cons i r ih =>
    intro c d m h
    cases c with
    | nil => cases h
    | cons x c =>
      rw [List.cons_append, List.cons_append, asgN_c, asgN_c]
      split
      · exact ih (Nat.succ.inj h)
      · rfl
theorem asgN_rev {l : List Nat} : ∀ {ds : List V} {m : Fm}, l.Nodup → l.length = ds.length → asgN l.reverse ds.reverse m = asgN l ds m := by
  induction l with
  | nil =>
    intro ds m _ h
    cases ds with
    | nil => rfl
    | cons => cases h
  | cons i r ih =>
    intro ds m hn h
    cases ds with
    | nil => cases h
    | cons d ds =>
      rw [List.nodup_cons] at hn
      have h := Nat.succ.inj h
      rw [List.reverse_cons, List.reverse_cons, asgN_append (by rw [List.length_reverse, List.length_reverse]; exact h), ih hn.2 h, asgN_c]
      cases hm : asgN r ds m with
      | none =>
        simp only [Option.bind_none]
        split
        · rw [asgN_put hn.1, hm]; rfl
        · rfl
      | some m' =>
        have := (asgN_len hm).2
        rw [Option.bind_some, asgN_c, this]
        split
        · rw [asgN_put hn.1, hm]; rfl
        · rfl
section
variable {S : Sta} {names : Names} {env : Env} {outer : List Env} {Y : Addr → Prop} {A : Around} {Ev : Value → Shared → Prop}
/-- a store is a store of this name -/
noncomputable def IsSto (S : Sta) (env : Env) (x : Str) (act : Value → Sem Unit) : Prop := ∀ (A : Around) (Q : Unit → Shared → Prop) (Ev : Value → Shared → Prop) (v : Value) (s : Shared), wpAny S.M A (storeName env x v) Q Ev s → wpAny S.M A (act v) Q Ev s
inductive StoL (S : Sta) (env : Env) (names : Names) : List Nat → List (Value → Sem Unit) → Prop
  | nil : StoL S env names [] []
  | cons {x : Str} {i : Nat} {k : NameKind} {act : Value → Sem Unit} {l : List Nat} {acts : List (Value → Sem Unit)} : idxOf names x 0 = some (i, k) → (k = .local ∨ k = .cell) → IsSto S env x act → StoL S env names l acts → StoL S env names (i :: l) (act :: acts)
theorem StoL.append {l l' : List Nat} {a a' : List (Value → Sem Unit)} (x : StoL S env names l a) (y : StoL S env names l' a') : StoL S env names (l ++ l') (a ++ a') := by
  induction x with
  | nil => exact y
  | cons h1 h2 h3 _ ih => exact .cons h1 h2 h3 ih
theorem StoL.reverse {l : List Nat} {a : List (Value → Sem Unit)} (x : StoL S env names l a) : StoL S env names l.reverse a.reverse := by
  induction x with
  | nil => exact .nil
  | cons h1 h2 h3 _ ih => rw [List.reverse_cons, List.reverse_cons]; exact ih.append (.cons h1 h2 h3 .nil)
theorem VRs.reverse {h : Heap} {g : Gh} {vs : List Value} {ds : List V} (r : VRs S h g vs ds) : VRs S h g vs.reverse ds.reverse := by
  induction r with
  | nil => exact .nil
  | cons a _ ih => rw [List.reverse_cons, List.reverse_cons]; exact ih.append (.cons a .nil)
theorem sto_all (kf : env.scope.kind = .function) {l : List Nat} {acts : List (Value → Sem Unit)} (sl : StoL S env names l acts) : ∀ {vs : List Value} {ds : List V} {m m' : Fm} {g : Gh} {σ : Hp} {s : Shared} {Q : Unit → Shared → Prop}, asgN l ds m = some m' → VRs S s.heap g vs ds → VarsOk S Y s.heap g env names m → Inv S (env :: outer) g σ s.heap →
    (∀ s', Inv S (env :: outer) g σ s'.heap → Ext Y g g s.heap s'.heap → VarsOk S Y s'.heap g env names m' → Rest s s' → Q () s') → wpAny S.M A (assignInOrder acts vs) Q Ev s := by
  induction sl with
  | nil =>
    intro vs ds m m' g σ s Q h r V I hQ
    cases r with
    | nil =>
      obtain rfl := Option.some.inj h
      exact assignInOrder_nil (hQ s I (.refl _ _ _) V (.refl _))
    | cons => cases h
  | cons h1 h2 h3 _ ih =>
    intro vs ds m m' g σ s Q h r V I hQ
    cases r with
    | nil => cases h
    | cons a r =>
      rw [asgN_c] at h
      split at h
      · refine assignInOrder_cons (h3 _ _ _ _ _ (store kf V I h1 h2 (.v a) fun h' tk I' E' V' _ => ?_))
        exact ih h (r.mono E'.up) V' I' fun s' I2 E2 V2 z2 => hQ s' I2 (E'.trans E2) V2 ⟨z2.1, z2.2.1, z2.2.2⟩
      · cases h
theorem sto_names {cx : Cx} (hf : cx.fn = names) : ∀ {ts : List PySem.Expr} {l : List Nat}, slotsOf cx ts = some l → StoL S env names l ((assignEach ts env).map (·.2)) ∧ (assignEach ts env).length = ts.length ∧ (assignEach ts env).findIdx? (·.1) = none ∧ l.length = ts.length ∧ ts.all (fun t => match t with | .Name .. => true | _ => false) = true
  | [], l, h => by obtain rfl := Option.some.inj h; exact ⟨.nil, rfl, rfl, rfl, rfl⟩
  | t :: ts, l, h => bd_e h fun i h1 h => bd_e h fun l' h2 h => by
    obtain rfl := Option.some.inj h
    obtain ⟨q1, q2, q3, q4, q5⟩ := sto_names hf h2
    obtain ⟨x, p, rfl, h3⟩ := slot_name h1
    obtain ⟨k, hi, hk⟩ := slotI_e h3
    rw [hf] at hi
    refine ⟨.cons hi hk (fun A Q Ev v s hh => wpAny_assign_Name hh) q1, congrArg (· + 1) q2, ?_, congrArg (· + 1) q4, q5⟩
    show List.findIdx? _ ((false, assign (.Name x p) env) :: assignEach ts env) = none
    rw [List.findIdx?_cons, q3]; rfl
/-- the names that are stored from the last to the first -/
theorem sto_swapped {cx : Cx} (hf : cx.fn = names) : ∀ {ts : List PySem.Expr} {l : List Nat}, slotsOf cx ts = some l → ∀ {line : Nat} {ns : List Str}, (ts.filterMap fun t => match t with | .Name id pos => if env.kindOf id == some .local && pos.line == line then some id else none | _ => none) = ns → ns.length = ts.length → StoL S env names l (ns.map fun n => bindName env n)
  | [], l, h => by obtain rfl := Option.some.inj h; intro e _; subst e; exact .nil
  | t :: ts, l, h => by
      refine bd_e h fun i h1 h => bd_e h fun l' h2 h => ?_
      obtain rfl := Option.some.inj h
      obtain ⟨x, p, rfl, h3⟩ := slot_name h1
      obtain ⟨k, hi, hk⟩ := slotI_e h3
      rw [hf] at hi
      intro e hl
      obtain ⟨ms, rfl, e, hl⟩ := fm_one' e hl rfl
      exact .cons hi hk (fun A Q Ev v s hh => wpAny_bindName hh) (sto_swapped hf h2 e hl)
end

/-! ASSIGNMENTS OF ROWS, OF ITEMS; EXPRESSIONS BY THEMSELVES -/
section
variable {S : Sta} {G : CallS} {nd : Nat} {names : Names} {lam : Bool}
theorem swapped_forms {ts es : List PySem.Expr} {k k' : Nat} {tp ep : Pos} {env : Env} (hc : es.all (constantsAlone 8) = false) :
    swappedStores [.Tuple ts k tp] (.Tuple es k' ep) env = pure none ∨ ∃ line ns, swappedStores [.Tuple ts k tp] (.Tuple es k' ep) env = pure (some ns) ∧ (ts.filterMap fun t => match t with | .Name id pos => if env.kindOf id == some .local && pos.line == line then some id else none | _ => none) = ns ∧ ns.length = ts.length := by
  unfold swappedStores
  dsimp only
  split
  · exact .inl rfl
  · split
    · exact .inl rfl
    · split
      · exact .inl rfl
      · rename_i hl
        simp only [Bool.or_eq_true, bne_iff_ne, ne_eq, not_or, Decidable.not_not] at hl
        split
        · exact .inl rfl
        · rw [if_neg (by rw [hc]; decide)]
          exact .inr ⟨_, _, rfl, rfl, hl.1⟩
theorem s_asgs {ts es : List PySem.Expr} {k k' : Nat} {tp ep pos : Pos} {l : List Nat} {xs : List X} (hs : slotsOf (S.at names none lam) ts = some l) (hl : l.length = es.length) (hn : l.Nodup) (h8 : es.length ≤ 8) (hc : es.all (constantsAlone 8) = false) (hx : SndXs S G nd false (S.at names none lam) es xs) :
    SndS S G nd false names lam (.Assign [.Tuple ts k tp] (.Tuple es k' ep) pos) (.asgs l xs) := by
  intro A env outer L Y m σ g s K E a nf I V h
  replace h := eq_evS_1 h
  have hv : ∀ {P : Value → Shared → Prop}, (∀ t vs ds σ1 g1 s1, (need (asgN l ds m) fun m' => K .next m' σ1) → Ext No g g1 s.heap s1.heap → Inv S (env :: outer) g1 σ1 s1.heap → VRs S s1.heap g1 vs ds → VarsOk S Y s1.heap g1 env names m → Rest s s1 → IsTup s1.heap t vs.toArray → P (.ref t) s1) →
      wpAny S.M A (eval (.Tuple es k' ep) env) P (Er S (env :: outer) Y false g s E) s := by
    intro P hP
    rw [arm_eval_Tuple]
    refine wpAny_bind (wpAny_standAt (wpAny_bind (wpAny_mono (hx A env env outer L Y m [] σ g s _ E ep a I (V.rd nf) h) (fun vs s1 ⟨ds, σ1, g1, h1, e1, i1, r1, z1⟩ => ?_) fun _ _ q => q.no)))
    have hlen : vs.length ≤ sizeLine := by
      obtain ⟨m', hm, _⟩ := need_some h1
      have := (asgN_len hm).1
      rw [r1.length, ← this, hl, sizeLine_eq]; omega
    refine wpAny_newTuple ?_ hlen
    obtain ⟨I2, E2⟩ := i1.keeps (h' := s1.heap.push { cls := .type "tuple", data := .seq vs.toArray }) (fun b o q => Heap.get?_push_of_some _ q)
    exact hP _ vs ds σ1 g1 { s1 with heap := s1.heap.push { cls := .type "tuple", data := .seq vs.toArray } } h1 (e1.trans E2) I2 (r1.mono E2.up) ((V.mono e1).mono E2) ⟨z1.1, z1.2.1, z1.2.2⟩ ⟨_, Heap.get?_push_size _ rfl, rfl, _, rfl⟩
  obtain ⟨sl, q2, q3, q4, q5⟩ := sto_names (S := S) (names := names) (env := env) rfl hs
  have done : ∀ {σ1 g1 m'} {s1 : Shared} {acts : List (Value → Sem Unit)} {l' : List Nat} {vs' : List Value} {ds' : List Mine.V}, StoL S env names l' acts → asgN l' ds' m = some m' → VRs S s1.heap g1 vs' ds' → K .next m' σ1 → Ext No g g1 s.heap s1.heap → Inv S (env :: outer) g1 σ1 s1.heap → VarsOk S Y s1.heap g1 env names m → Rest s s1 →
      wpAny S.M A (assignInOrder acts vs') (fun _ s' => OkS S env outer Y names g s K .next s') (Er S (env :: outer) Y false g s E) s1 := by
    intro σ1 g1 m' s1 acts l' vs' ds' sl hm r k e1 i1 v1 z1
    exact sto_all a.kf sl hm r v1 i1 fun s' I' E' V' z' => ⟨.next, m', σ1, g1, k, e1.no.trans E', I', V', trivial, z1.trans z'⟩
  have hlen : ∀ {vs : List Value} {ds : List Mine.V} {h : Heap} {g1 : Gh} {m'}, VRs S h g1 vs ds → asgN l ds m = some m' → vs.length = ts.length := fun r hm => by rw [r.length, ← (asgN_len hm).1, q4]
  rcases swapped_forms (env := env) (ts := ts) (k := k) (k' := k') (tp := tp) (ep := ep) hc with hw | ⟨line, ns, hw, hf, hnl⟩
  · refine Assign_Tuple (hv fun t vs ds σ1 g1 s1 h1 e1 i1 r1 v1 z1 ht => ?_) rfl hw
    obtain ⟨m', hm, hk⟩ := need_some h1
    refine assign_Tuple_tuple (a.hn rfl) ht (by rw [q2]; simp [hlen r1 hm]) q3 fun h' eb => ?_
    obtain ⟨I2, E2⟩ := i1.keeps (kp_but eb)
    have r2 := r1.mono E2.up
    exact done (s1 := { s1 with heap := h' }) sl hm (by simpa using r2) hk (e1.trans E2) I2 (v1.mono E2) ⟨z1.1, z1.2.1, z1.2.2⟩
  · have sl2 := sto_swapped (S := S) (names := names) (env := env) rfl hs hf hnl
    refine Assign_Tuple_swapped (hv fun t vs ds σ1 g1 s1 h1 e1 i1 r1 v1 z1 ht => ?_) rfl hw
    obtain ⟨m', hm, hk⟩ := need_some h1
    have e2 : ns.length = vs.toArray.size := by rw [hnl]; simp [hlen r1 hm]
    rw [e2]
    refine unpackItems_tuple (a.hn rfl) ht fun h' eb => ?_
    obtain ⟨I2, E2⟩ := i1.keeps (kp_but eb)
    have r2 := r1.mono E2.up
    have hd := (asgN_len hm).1
    have := done (s1 := { s1 with heap := h' }) (vs' := vs.reverse) sl2.reverse (by rw [asgN_rev hn hd]; exact hm) r2.reverse hk (e1.trans E2) I2 (v1.mono E2) ⟨z1.1, z1.2.1, z1.2.2⟩
    rw [← List.map_reverse] at this
    simpa using this
theorem s_unp {ts : List PySem.Expr} {e : PySem.Expr} {k : Nat} {tp pos : Pos} {l : List Nat} {x : X} (he : kindE e ≠ 2) (hc : kindE e ≠ 1) (hs : slotsOf (S.at names none lam) ts = some l) (hx : SndX S G nd false (S.at names none lam) e x) :
    SndS S G nd false names lam (.Assign [.Tuple ts k tp] e pos) (.unp l x) := by
  intro A env outer L Y m σ g s K E a nf I V h
  replace h := eq_evS_2 h
  obtain ⟨sl, q2, q3, q4, q5⟩ := sto_names (S := S) (names := names) (env := env) rfl hs
  have hsw : swapsWithSole [.Tuple ts k tp] e pos.line env = pure false := by
    exact (swaps_not hc : swapsWith e (some (.Tuple ts k tp)) pos.line env = pure false)
  have hw : swappedStores [.Tuple ts k tp] e env = pure none := by
    cases e <;> first | rfl | exact absurd rfl he
  refine Assign_Tuple (stX hx a nf I V h fun v d σ1 g1 s1 h1 e1 i1 r1 v1 z1 => ?_) hsw hw
  obtain ⟨pd, hp, h1⟩ := need_some h1
  obtain ⟨ds, hds, h1⟩ := need_some h1
  obtain ⟨m', hm, hk⟩ := need_some h1
  have hl := (asgN_len hm).1
  have pds : ∀ {h : Heap} {vs : List Value} {l : List PyData}, PVs S.w.params h g1.κ vs l → VRs S h g1 vs (l.map .pd) := by
    intro h vs l p
    induction l generalizing vs with
    | nil => cases p; exact .nil
    | cons d r ih => cases p with | cons a p => exact .cons (.pd a) (ih p)
  have fin : ∀ {vs : Array Value} {h' : Heap}, PVs S.w.params s1.heap g1.κ vs.toList ds → Heap.ExtBut s1.heap.objs.size s1.heap h' → wpAny S.M A (assignInOrder ((assignEach ts env).map (·.2)) vs.toList) (fun _ s' => OkS S env outer Y names g s K .next s') (Er S (env :: outer) Y false g s E) { s1 with heap := h' } := by
    intro vs h' p eb
    obtain ⟨I2, E2⟩ := i1.keeps (kp_but eb)
    exact sto_all a.kf sl hm (pds (p.mono E2.up.fz)) (v1.mono E2) I2 fun s' I' E' V' z' => ⟨.next, m', σ1, g1, hk, (e1.trans E2).no.trans E', I', V', trivial, z1.trans ⟨z'.1, z'.2.1, z'.2.2⟩⟩
  rw [arm_assign_Tuple]
  refine wpAny_bind (wpAny_standAt ?_)
  unfold unpack
  refine alt_e hds (fun hd => ?_) fun hd => ?_
  · obtain ⟨t, vs, rfl, ht, p⟩ := r1.isList i1 (listP_e hd ▸ hp)
    have hlen : (assignEach ts env).length = vs.size := by rw [q2, ← q4, hl, List.length_map]; exact p.length.symm
    rw [hlen, q3]
    exact wpAny_bind (wpAny_holding (kun_itemsOf (a.hn rfl) ht fun h' eb => fin p eb))
  · obtain ⟨t, vs, rfl, ht, p⟩ := r1.isTup (tupP_e hd ▸ hp)
    have hlen : (assignEach ts env).length = vs.size := by rw [q2, ← q4, hl, List.length_map]; exact p.length.symm
    rw [hlen, q3]
    exact wpAny_bind (wpAny_holding (unpackItems_tuple (a.hn rfl) ht fun h' eb => fin p eb))
theorem s_ex {e : PySem.Expr} {pos : Pos} {x : X} {hd : Bool} (he : kindE e ≠ 1) (hx : SndX S G nd hd (S.at names none lam) e x) : SndS S G nd hd names lam (.Expr e pos) (.ex x) := by
  intro A env outer L Y m σ g s K E a nf I V h
  replace h := eq_evS_4 h
  rw [PySem.exec_Expr env _ _ (by unfold interactive; rw [a.kf]; rfl) (swaps_not he)]
  refine wpAny_bind (wpAny_standAt (wpAny_bind (stX hx a nf I V h fun v d σ1 g1 s1 h1 e1 i1 r1 v1 z1 => ?_)))
  exact wpAny_dropValue ⟨.next, m, σ1, g1, h1, e1.no, i1, v1, trivial, z1⟩
end

/-! ITEMS -/
inductive RKv (S : Sta) (h : Heap) (g : Gh) : List (Str × Value) → List (Str × V) → Prop
  | nil : RKv S h g [] []
  | cons {k : Str} {v : Value} {x : V} {vs : List (Str × Value)} {xs : List (Str × V)} : VR S h g v x → RKv S h g vs xs → RKv S h g ((k, v) :: vs) ((k, x) :: xs)
section
variable {S : Sta} {h h' : Heap} {g g' : Gh}
theorem RKv.mono {vs : List (Str × Value)} {xs : List (Str × V)} (u : Up g g' h h') (r : RKv S h g vs xs) : RKv S h' g' vs xs := by
  induction r with
  | nil => exact .nil
  | cons a _ ih => exact .cons (a.mono u) ih
theorem RKv.keys {vs : List (Str × Value)} {xs : List (Str × V)} (r : RKv S h g vs xs) : vs.map (·.1) = xs.map (·.1) := by
  induction r with
  | nil => rfl
  | cons a _ ih => simp [ih]
theorem kv_ves {vs : List (Str × Value)} {xs : List (Str × V)} (r : RKv S h g vs xs) : ∀ {es : List DictEntry}, (∀ e ∈ es, ∃ k, Value.isStrOf k e.key = true ∧ e.hash = hashStr S.w k) → Pairs (sKind S) es vs → (xs.map (·.1)).Nodup → VEs S h g es xs := by
  induction r with
  | nil => intro es _ p _; cases p; exact .nil
  | @cons k v x vs xs a r ih =>
    intro es hk p hn
    cases p with
    | @cons e kv es kvs p1 p2 p3 =>
      have p1 : Value.isStrOf k e.key = true := p1
      have p2 : e.val = v := p2
      obtain ⟨t', hkey⟩ := Value.isStrOf_shape p1
      rw [List.map_cons, List.nodup_cons] at hn
      refine .cons (t := t') hkey ?_ (p2 ▸ a) (fun e' he' => ?_) (ih (fun e' he' => hk e' (.tail _ he')) p3 hn.2)
      · obtain ⟨k', h1, h2⟩ := hk e (.head _)
        have := Value.isStrOf_inj _ _ _ h1 p1
        subst this
        exact h2
      · cases hz : e'.key.isStr k with
        | false => rfl
        | true =>
          refine absurd ?_ hn.1
          have hm : ∀ {es : List DictEntry} {kvs : List (Str × Value)}, Pairs (sKind S) es kvs → e' ∈ es → k ∈ kvs.map (·.1) := by
            intro es kvs p
            induction p with
            | nil => intro h; cases h
            | @cons e kv es kvs q1 q2 q3 ih2 =>
              intro h
              rcases List.mem_cons.mp h with rfl | h
              · have hz' : Value.isStrOf k e'.key = true := by
                  revert hz; cases e'.key <;> intro hz <;> first | exact hz | cases hz
                have : kv.1 = k := Value.isStrOf_inj _ _ _ q1 hz'
                rw [List.map_cons, this]; exact .head _
              · exact .tail _ (ih2 h)
          have := hm p3 he'
          rwa [r.keys] at this
theorem ves_kv {es : List DictEntry} {xs : List (Str × V)} (r : VEs S h g es xs) : ∃ vs, RKv S h g vs xs ∧ Pairs (sKind S) es vs ∧ (xs.map (·.1)).Nodup := by
  induction r with
  | nil => exact ⟨[], .nil, .nil, List.nodup_nil⟩
  | @cons e es k t x kvs a b c d r ih =>
    obtain ⟨vs, h1, h2, h3⟩ := ih
    have hk : Value.isStrOf k e.key = true := by rw [a]; exact beq_self_eq_true k
    refine ⟨(k, e.val) :: vs, .cons c h1, .cons hk rfl h2, ?_⟩
    rw [List.map_cons, List.nodup_cons]
    refine ⟨fun hm => ?_, h3⟩
    have : ∀ {es : List DictEntry} {xs : List (Str × V)}, VEs S h g es xs → k ∈ xs.map (·.1) → ∃ e' ∈ es, e'.key.isStr k = true := by
      intro es xs r
      induction r with
      | nil => intro h; cases h
      | @cons e es k' t x kvs a b c d r ih2 =>
        intro hm
        rw [List.map_cons, List.mem_cons] at hm
        rcases hm with rfl | hm
        · exact ⟨e, .head _, by rw [a]; exact beq_self_eq_true k⟩
        · obtain ⟨e', q1, q2⟩ := ih2 hm
          exact ⟨e', .tail _ q1, q2⟩
    obtain ⟨e', q1, q2⟩ := this r hm
    rw [d e' q1] at q2; cases q2
theorem setS_c {k a : Str} {u v : V} {r : List (Str × V)} : setS k v ((a, u) :: r) = match sb a k with | true => (a, v) :: r | false => (a, u) :: setS k v r := rfl
theorem rkv_stored {vs : List (Str × Value)} {xs : List (Str × V)} {k : Str} {v : Value} {x : V} (r : RKv S h g vs xs) (rv : VR S h g v x) (hn : (xs.map (·.1)).Nodup) : RKv S h g (stored vs k v) (setS k x xs) ∧ ((setS k x xs).map (·.1)).Nodup := by
  have same : ∀ {vs : List (Str × Value)} {xs : List (Str × V)}, RKv S h g vs xs → k ∉ xs.map (·.1) → vs.map (fun kv => if kv.1 = k then (kv.1, v) else kv) = vs := by
    intro vs xs r
    induction r with
    | nil => intro _; rfl
    | cons a _ ih =>
      intro hk
      rw [List.map_cons, List.mem_cons, not_or] at hk
      rw [List.map_cons, ih hk.2, if_neg (fun q => hk.1 q.symm)]
  have keys : ∀ {xs : List (Str × V)} {y : Str}, y ∈ (setS k x xs).map (·.1) → y = k ∨ y ∈ xs.map (·.1) := by
    intro xs
    induction xs with
    | nil => intro y hy; exact .inl (List.mem_singleton.mp hy)
    | cons p r ih =>
      obtain ⟨a, u⟩ := p
      intro y hy
      rw [setS_c] at hy
      cases q : sb a k with
      | true => rw [q] at hy; exact .inr hy
      | false =>
        rw [q, List.map_cons, List.mem_cons] at hy
        rw [List.map_cons, List.mem_cons]
        rcases hy with hy | hy
        · exact .inr (.inl hy)
        · exact (ih hy).imp id .inr
  induction r with
  | nil => exact ⟨.cons rv .nil, List.nodup_cons.mpr ⟨fun h => (nomatch h), List.nodup_nil⟩⟩
  | @cons k' v' x' vs xs a r ih =>
    rw [List.map_cons, List.nodup_cons] at hn
    obtain ⟨i1, i2⟩ := ih hn.2
    rw [setS_c]
    by_cases q : k' = k
    · subst q
      have hs : sb k' k' = true := by simp [sb]
      rw [hs]
      refine ⟨?_, by rw [List.map_cons, List.nodup_cons]; exact hn⟩
      unfold stored
      rw [if_pos (by simp), List.map_cons, if_pos rfl, same r hn.1]
      exact .cons rv r
    · have hs : sb k' k = false := by
        cases z : sb k' k with
        | false => rfl
        | true =>
          refine absurd ?_ q
          exact beq_iff_eq.mp ((str_beq k' k).symm.trans z)
      rw [hs]
      refine ⟨?_, ?_⟩
      · have : stored ((k', v') :: vs) k v = (k', v') :: stored vs k v := by
          unfold stored
          simp only [List.any_cons, List.map_cons, q, decide_false, Bool.false_or, if_false]
          split <;> simp
        rw [this]
        exact .cons a i1
      · rw [List.map_cons, List.nodup_cons]
        refine ⟨fun hm => ?_, i2⟩
        rcases keys hm with e | e
        · exact q e
        · exact hn.1 e
end
section
variable {S : Sta} {G : CallS} {nd : Nat} {names : Names} {lam : Bool} {hd : Bool}
theorem set_item (ok : StaOk S) {fr : List Env} {A : Around} {g : Gh} {σ σ' : Hp} {s : Shared} {o kv v : Value} {xo xk xv : V} {Ev : Value → Shared → Prop} {Q : Unit → Shared → Prop} (I : Inv S fr g σ s.heap) (ro : VR S s.heap g o xo) (rk : VR S s.heap g kv xk) (rv : VR S s.heap g v xv) (h : evSet σ xo xk xv = some σ')
    (hQ : ∀ s', Inv S fr g σ' s'.heap → Ext No g g s.heap s'.heap → Rest s s' → Q () s') : wpAny S.M A (setItem o kv v) Q Ev s := by
  refine bd_e h fun y hy h => bd_e h fun p hp h => gd_e h fun hz h => ?_
  subst h
  obtain ⟨q, e⟩ := dctR_e hp
  obtain ⟨a, es, n, rfl, ea, hi, e1, e2, e3⟩ := (q ▸ ro).refDict ok I e
  obtain ⟨t, rfl⟩ := vr_str (strV_e hy ▸ rk)
  obtain ⟨vs, k1, k2, k3⟩ := ves_kv e2
  have hd : s.heap.DictOf (sKind S) a vs := ⟨_, _, _, e1, ⟨rfl, rfl, rfl⟩, rfl, fun e he => ves_keys e2 e (Array.mem_toList_iff.mpr he), k2, by rw [k1.keys]; exact k3⟩
  have hlen : vs.length = p.2.length := by have := congrArg List.length k1.keys; simpa using this
  refine wpAny_setItem_pairs (knd := sKind S) (k := y) (beq_self_eq_true y) hd (fun h' hd' sb => ?_) (by rw [hlen]; exact hz)
  obtain ⟨⟨oc, od, odt, osl⟩, es', ep, q1, ⟨q2, q3, q4⟩, q5, q6, q7, q8⟩ := hd'
  simp only at q2 q3 q4 q5
  subst q2 q3 q4 q5 ea
  obtain ⟨I2, E2⟩ := I.upMu (h' := h') (o := .dict (setS y xv p.2)) hi (fun b o q e => (sb.2 b q).trans e) ⟨_, q1⟩ fun u => by
    obtain ⟨s1, s2⟩ := rkv_stored (k := y) (k1.mono u) (rv.mono u) k3
    exact .dict (es := es'.toList) q1 (kv_ves s1 (fun e he => q6 e (Array.mem_toList_iff.mp he)) q7 s2)
  exact hQ _ I2 E2 ⟨rfl, rfl, rfl⟩
theorem s_seti (ok : StaOk S) {o k e : PySem.Expr} {p pos : Pos} {xo xk xe : X} (hc : kindE e ≠ 1) (ho : SndX S G nd hd (S.at names none lam) o xo) (hk : SndX S G nd hd (S.at names none lam) k xk) (he : SndX S G nd hd (S.at names none lam) e xe) :
    SndS S G nd hd names lam (.Assign [.Subscript o k p] e pos) (.seti xo xk xe) := by
  intro A env outer L Y m σ g s K E a nf I V h
  replace h := eq_evS_3 h
  have hw : swapsWith e (some (.Subscript o k p)) pos.line env = pure false := swaps_not hc
  refine wpAny_Assign_Subscript (stX he a nf I V h fun v d σ1 g1 s1 h1 e1 i1 r1 v1 z1 => ?_) hw
  refine stS e1.no z1 (stX ho a nf i1 v1 h1 fun vo xo' σ2 g2 s2 h2 e2 i2 r2 v2 z2 => ?_)
  refine stS (e1.trans e2).no (z1.trans z2) (stX hk a nf i2 v2 h2 fun vk xk' σ3 g3 s3 h3 e3 i3 r3 v3 z3 => ?_)
  obtain ⟨σ4, h4, h3⟩ := need_some h3
  refine set_item ok i3 (r2.mono e3.up) r3 ((r1.mono e2.up).mono e3.up) h4 fun s4 i4 e4 z4 => ?_
  exact ⟨.next, m, σ4, g3, h3, (((e1.trans e2).trans e3).trans e4).no, i4, v3.mono e4, trivial, ((z1.trans z2).trans z3).trans z4⟩
end

/-! LOOPS -/
section
variable {S : Sta} {G : CallS} {nd : Nat} {names : Names} {lam : Bool} {hd : Bool} {A : Around} {env : Env} {outer : List Env} {L : Addr} {Y : Addr → Prop} {m : Fm} {σ : Hp} {g g1 : Gh} {s s1 s' : Shared} {E : KE}
/-- an exception passes a loop of the frame's own -/
theorem er_own {cx : Cx} {e : Value} (a : Act S cx A env env outer L nd hd) (er : Er S (env :: outer) Y false g s E e s') : notedBy S.M A env (fun e s' => cameBackBy S.M A env (Er S (env :: outer) Y false g s E) e s') e s' := by
  obtain ⟨exc, σ', g', ea, tr, rfl, _, hE, x1, I1, ex, z1⟩ := er
  unfold notedBy
  refine wpAny_note a.frames a.fL a.fL I1 ex fun g2 h2 I2 x2 ex2 => ?_
  unfold cameBackBy
  have x₀ := ex2
  obtain ⟨kd, oe, vs, dx, mp, h1, h2', h3, h4, h5, h6, h7, ⟨v1, h8, h9⟩, h10, h11⟩ := ex2
  rcases h11 with ⟨q, _⟩ | ⟨hx, T, oT, ts, q1, q2, q3, q4, q5, q6⟩
  · cases q
  · refine wpAny_bind (wpAny_field h1 h4 q1 ?_)
    rw [if_neg (show ¬ ((Value.ref T == Value.none) = true) from by simp)]
    refine wpAny_flight (S := S) (g := g2) (σ := σ') (s := { s' with heap := h2 }) I2 x₀ fun h3 I3 x3 ex3 => ?_
    exact ⟨exc, σ', g2, ea, true, rfl, nofun, hE, (x1.trans x2.no).trans x3.no, I3, ex3, z1.trans ⟨rfl, rfl, rfl⟩⟩
/-- the frame's names as a place for targets -/
structure FSt (S : Sta) (env : Env) (outer : List Env) (Y : Addr → Prop) (names : Names) (g1 : Gh) (s1 : Shared) (it : Addr) (v : Value) (x : V) (k : Nat) (g : Gh) (σ : Hp) (m : Fm) (s : Shared) : Prop where
  e : Ext Y g1 g s1.heap s.heap
  i : Inv S (env :: outer) g σ s.heap
  V : VarsOk S Y s.heap g env names m
  z : Rest s1 s
  ko : g.κ it = .ot
  it : ItAt s.heap it v x k
theorem for_sto {it : Addr} {v : Value} {x : V} {k : Nat} {cx : Cx} (a : Act S cx A env env outer L nd false) (nm : env.scope.names = names) : Sto S A g names env (FSt S env outer Y names g1 s1 it v x k g σ) := by
  refine ⟨a.hn rfl, fun y i w d m s Q Ev hi hlt p r hQ => ?_, fun m s h' p eb => ?_⟩
  · refine store a.kf p.V p.i hi (.inl rfl) (.v (.pd r)) fun h' tk I' E' V' same => ?_
    exact hQ _ ⟨p.e.trans E', I', V', ⟨p.z.1, p.z.2.1, p.z.2.2⟩, p.ko, p.it.at fun o e => (same _ p.ko).trans e⟩ E'.fz
  · obtain ⟨I2, E2⟩ := p.i.keeps (kp_but eb)
    exact ⟨p.e.trans E2.no, I2, p.V.mono E2, ⟨p.z.1, p.z.2.1, p.z.2.2⟩, p.ko, p.it.at fun o e => kp_but eb _ o e⟩
inductive FLI (S : Sta) (env : Env) (outer : List Env) (Y : Addr → Prop) (names : Names) (g1 : Gh) (s1 : Shared) (it : Addr) (v : Value) (x : V) (l : List PyData) (F : List PyData → Fm → Hp → Prop) (n : Nat) (s : Shared) : Prop
  | mk (k : Nat) (g : Gh) (σ : Hp) (m : Fm) (hn : n = l.length + 1 - k) (hk : k ≤ l.length) (p : FSt S env outer Y names g1 s1 it v x k g σ m s) (hl : itemsOf σ x = some l) (h : F (l.drop k) m σ)
theorem less {k n : Nat} (h : k < n) : n + 1 - (k + 1) < n + 1 - k := Nat.sub_lt_sub_left (Nat.lt_succ_of_lt h) (Nat.lt_succ_self _)
theorem s_for {te iter : PySem.Expr} {b : List Stmt} {pos : Pos} {t : Tg} {xi : X} {xb : List Mine.S} (hf : ∀ ev w, foldedSetIterable iter ev w = pure w) (htg : TgOk S names te t) (hi : SndX S G nd false (S.at names none lam) iter xi) (hb : SndSs S G nd false names lam b xb) :
    SndS S G nd false names lam (.For te iter b [] pos) (.for t xi xb) := by
  intro A env outer L Y m σ g s K E a nf I V h
  replace h := eq_evS_7 h
  rw [arm_exec_For]
  refine wpAny_bind (wpAny_standAt (wpAny_bind (stX hi a nf I V h fun v x σ1 g1 s1 h1 e1 i1 r1 v1 z1 => ?_)))
  rw [hf]
  refine wpAny_bind (wpAny_pure (wpAny_bind (wpAny_standAt (wpAny_bind (wpAny_holding ?_)))))
  refine need_e h1 fun l hl h1 => iter_start i1 r1 hl fun oi hit => ?_
  obtain ⟨I2, E2⟩ := i1.keeps (h' := s1.heap.push oi) fun b o q => Heap.get?_push_of_some _ q
  have nI : s1.heap.get? s1.heap.objs.size = none := Heap.get?_none_of_le (Nat.le_refl _)
  generalize s1.heap.objs.size = it at hit nI ⊢
  have ny : ¬ Y it := fun ya => by obtain ⟨o, e, _⟩ := v1.yH _ ya; rw [nI] at e; cases e
  refine wpAny_runOwn (codeAny_forLoop_any (FLI S env outer Y names g1 s1 it v x l (forN (fun d m' σ' k => need (tgFm m' t d) fun m'' => evSs G S.gc xb m'' σ' k E) (fun σ' k => still σ1 σ' x k) K)) (fun n s2 hI => ?_) _
    ⟨0, g1, σ1, m, rfl, Nat.zero_le _, ⟨E2.no, I2, v1.mono E2, ⟨rfl, rfl, rfl⟩, i1.ot _ nI, hit⟩, hl, h1⟩)
  obtain ⟨k, g2, σ2, m2, hn, hk, ⟨e2, i2, v2, z2, kI, hit2⟩, hl2, hF⟩ := hI
  refine iter_next (a.hn rfl) i2 (r1.mono e2.up) hl2 hit2 hk (fun w d h' tk e p sb i => ?_) (fun h' e eb => ?_)
  · rw [drop_at e] at hF
    refine need_e hF fun m3 hm3 hF => ?_
    obtain ⟨e3, i3⟩ := own_step e2 i2 nI kI sb.extBut
    refine own_go i (htg (for_sto a v2.nm) w d m2 m3 _ _ _ hm3 ⟨e3, i3, v2.but kI sb.extBut ny, ⟨z2.1, z2.2.1, z2.2.2⟩, kI, i⟩ (p.mono (own_up i2 kI sb.extBut).fz) fun s4 p4 fz => ?_)
    obtain ⟨e4, i4, v4, z4, k4, hit4⟩ := p4
    refine wpAny_mono (hb A env outer L Y m3 σ2 g2 s4 _ E a nf i4 v4 hF) (fun fl s5 hr => ?_) fun _ _ q => er_own a (q.trans (e1.no.trans e4) (z1.trans z4))
    obtain ⟨f, m5, σ5, g5, h5, e5, i5, v5, r5, z5⟩ := hr
    have EE := e4.trans e5
    have ZZ := z4.trans z5
    obtain ⟨oi', _, _, hoi, _, _, _⟩ := hit4.has
    have kI5 : g5.κ it = .ot := (e5.kind _ _ hoi).trans k4
    have hit5 : ItAt s5.heap it v x (k + 1) := hit4.at fun o e => e5.keep _ o e ny (by rw [k4]; decide) (by rw [k4]; decide) (by rw [k4]; decide) (by rw [k4]; decide)
    have hlt : k < l.length := (List.getElem?_eq_some_iff.mp e).1
    cases fl <;> cases f <;> first
      | exact r5.elim
      | exact ⟨_, hn ▸ less hlt, k + 1, g5, σ5, m5, rfl, hlt, ⟨EE, i5, v5, ZZ, kI5, hit5⟩, (itemsOf_still h5).1.trans hl, (itemsOf_still h5).2⟩
      | exact ⟨_, m5, σ5, g5, h5, e1.no.trans EE, i5, v5, r5, z1.trans ZZ⟩
  · subst e
    rw [List.drop_length] at hF
    obtain ⟨e3, i3⟩ := own_step e2 i2 nI kI eb
    exact wpAny_execs_nil ⟨.next, m2, σ2, g2, hF, e1.no.trans e3, i3, v2.but kI eb ny, trivial, z1.trans ⟨z2.1, z2.2.1, z2.2.2⟩⟩
end

/-! RAISE, TRY -/
inductive ExcNew (S : Sta) (fr : List Env) (g : Gh) (σ : Hp) (s : Shared) (exc : Exc) (v : Value) (s' : Shared) : Prop
  | mk (ea : Addr) (g' : Gh) (e : v = .ref ea) (x : Ext No g g' s.heap s'.heap) (i : Inv S fr g' σ s'.heap) (a : ExcAt S s'.heap g' ea exc false) (z : Rest s s')
structure ExcMk (S : Sta) (nd : Nat) : Prop where
  new : ∀ {A env outer L g σ s vs ds lim exc Ev}, CallAt A env outer L nd → Inv S (env :: outer) g σ s.heap → VRs S s.heap g vs ds → excOf lim ds = some exc →
    wpAny S.M A (call (.ref (S.ec lim)) vs []) (ExcNew S (env :: outer) g σ s exc) Ev s
section
variable {M : Model} {A : Around} {Ev : Value → Shared → Prop} {s : Shared} {K : Frag} {C : Addr}
theorem looks_isType_cls (X : K.In s.heap) (h : isClsIn K C = true) : Looks M s.heap (isType (.ref C)) true := by
  unfold isClsIn clsIn at h
  split at h
  · rename_i ho
    exact (Looks.ld (part := some headPart) (X _ _ ho)).andThen .now
  · cases h
theorem looks_isType_fields {a : Addr} {o : Obj} {vs : Array Value} (e : s.heap.get? a = some o) (hd : o.data = .fields vs) : Looks M s.heap (isType (.ref a)) false := by
  refine (Looks.ld (part := some headPart) e).andThen ?_
  rw [hd]; exact .now
theorem looks_excCls (X : K.In s.heap) (h : isClsIn K C = true) (hm : mroIn K C (.type "BaseException") = some true) : Looks M s.heap (isExcClass (.ref C)) true := by
  unfold isExcClass
  exact (looks_isType_cls X h).andThen (looks_mroIn X hm)
end
section
variable {S : Sta} {G : CallS} {nd : Nat} {names : Names} {lam hd : Bool}
theorem exc_matches (ok : StaOk3 S) (k2 : KOk2 S) {fr : List Env} {A : Around} {g : Gh} {σ : Hp} {s : Shared} {ea : Addr} {e : Exc} {tr b : Bool} {Ev : Value → Shared → Prop} {Q : Bool → Shared → Prop} (I : Inv S fr g σ s.heap) (x : ExcAt S s.heap g ea e tr) (h : Q (b == e.lim) s) : wpAny S.M A (excMatches (.ref ea) (.ref (S.ec b))) Q Ev s := by
  have X := kIn ok.toStaOk I
  obtain ⟨oe, vs, dx, mp, h1, h2, h3, h4, _⟩ := x.obj
  unfold excMatches
  refine wpAny_bind (m := isInstance (.ref (S.ec b)) (.type "tuple")) ((looks_instIn X (k2.xTu b)).here ?_)
  rw [if_neg (by decide)]
  refine wpAny_bind (wpAny_pure ?_)
  simp only [List.forIn_cons, List.forIn_nil]
  have hty : Looks S.M s.heap (typeOf (.ref ea)) (.ref (S.ec e.lim)) := (Looks.ld (part := some headPart) h1).andThen (by rw [h2]; exact .now)
  refine wpAny_bind (wpAny_bind (wpAny_bind (m := isExcClass (.ref (S.ec b))) ((looks_excCls X (k2.xCl b) (ok.ko.xSub b)).here ?_)))
  rw [if_neg (by decide)]
  refine wpAny_pure (wpAny_pure (wpAny_bind (m := typeOf (.ref ea)) (hty.here (wpAny_bind (wpAny_bind (wpAny_bind (m := isSubtype (.ref (S.ec e.lim)) (.ref (S.ec b))) ((looks_mroIn X (k2.xEq e.lim b)).here ?_)))))))
  have hb : (e.lim == b) = (b == e.lim) := by cases e.lim <;> cases b <;> rfl
  rw [hb]
  cases hq : (b == e.lim) with
  | true => rw [hq] at h; exact wpAny_pure (wpAny_pure (wpAny_pure h))
  | false => rw [hq] at h; exact wpAny_pure (wpAny_pure (wpAny_pure h))
theorem s_raise (ok : StaOk3 S) (k2 : KOk2 S) (xm : ExcMk S nd) {x : Str} {q p pos : Pos} {es : List PySem.Expr} {xs : List X} {lim : Bool} (hx : x = Str.ofString (if lim then "LimitFault" else "EvalFault")) (hg : nmOf (S.at names none lam) x = some .g) (hs : es.all (fun e => !isStar e) = true) (he : SndXs S G nd false (S.at names none lam) es xs) (hn : es = [] → xs = []) :
    SndS S G nd false names lam (.Raise (some (.Call (.Name x q) es [] p)) none pos) (.raise lim xs) := by
  intro A env outer L Y m σ g s K E a nf I V h
  replace h := eq_evS_11 h
  rw [arm_exec_Raise]
  refine wpAny_bind (wpAny_standAt ?_)
  show wpAny S.M A (raiseStmt env (some (do let v ← eval (.Call (.Name x q) es [] p) env; standAt pos; pure v)) none) _ _ _
  unfold raiseStmt
  dsimp only
  have hmg : S.mg x = some (.ref (S.ec lim)) := by subst hx; cases lim; exact k2.xF; exact k2.xL
  have main : wpAny S.M A (eval (.Call (.Name x q) es [] p) env) (fun v s' => ∃ ea g' σ' exc, v = .ref ea ∧ E exc σ' ∧ Ext No g g' s.heap s'.heap ∧ Inv S (env :: outer) g' σ' s'.heap ∧ ExcAt S s'.heap g' ea exc false ∧ Rest s s') (Er S (env :: outer) Y false g s E) s := by
    rw [arm_eval_Call_Name']
    refine wpAny_bind (eval_global a ok.toStaOk I.stays hg hmg ?_)
    refine wpAny_mono (call_road (P := S.K.In) hs he a I (V.rd nf) (keeps_K (k2.xKp lim)) h hn fun vs ds σ1 g1 s1 h1 e1 i1 r1 z1 => ⟨kIn ok.toStaOk i1, ?_⟩) (fun _ _ x => x) fun _ _ q => q.no
    obtain ⟨exc, hexc, h1⟩ := need_some h1
    refine wpAny_mono (xm.new (Ev := Er S (env :: outer) No false g s E) a.call i1 r1 hexc) (fun v s' ⟨ea, g', hv, e2, i2, x2, z2⟩ => ?_) fun _ _ x => x
    exact ⟨ea, g', σ1, exc, hv, h1, e1.trans e2, i2, x2, z1.trans z2⟩
  refine wpAny_bind (wpAny_bind (wpAny_mono main (fun v s1 hv => ?_) fun _ _ q => q))
  obtain ⟨ea, g1, σ1, exc, hv, hE, e1, i1, x1, z1⟩ := hv
  subst hv
  refine wpAny_bind (wpAny_standAt (wpAny_pure (wpAny_bind (wpAny_pure ?_))))
  have X := kIn ok.toStaOk i1
  have x₀ := x1
  obtain ⟨oe, vs, dx, mp, h1, h2, h3, h4, h5, h6, h7, h8, h9, h10⟩ := x1.obj
  have hty : Looks S.M s1.heap (typeOf (.ref ea)) (.ref (S.ec exc.lim)) := (Looks.ld (part := some headPart) h1).andThen (by rw [h2]; exact .now)
  have hnt : Looks S.M s1.heap (isType (.ref ea)) false := looks_isType_fields h1 h4
  have hexc : Looks S.M s1.heap (isExcClass (.ref ea)) false := by
    unfold isExcClass
    exact hnt.andThen .now
  have hinst : Looks S.M s1.heap (isInstance (.ref ea) (.type "BaseException")) true := hty.andThen (looks_mroIn X (ok.ko.xSub exc.lim))
  refine wpAny_bind (wpAny_holding ?_)
  unfold excFromValue
  refine wpAny_bind (hexc.here ?_)
  rw [if_neg (by decide)]
  refine wpAny_bind (hinst.here ?_)
  rw [if_pos rfl]
  refine wpAny_pure (wpAny_bind (m := isType (.ref ea)) (hnt.here ?_))
  rw [if_neg (by decide)]
  unfold raisedInstance
  refine wpAny_bind (wpAny_bind (m := typeOf (.ref ea)) (hty.here (wpAny_bind ((looks_typeIn X (k2.xTy exc.lim)).here ?_))))
  rw [if_pos (by decide)]
  refine wpAny_pure (wpAny_bind (wpAny_flight (S := S) i1 x₀ fun h' I' E' X' => ?_))
  unfold raiseNew
  refine wpAny_bind (wpAny_handled ?_)
  rw [a.hn rfl]
  exact wpAny_bind (wpAny_pure (wpAny_throw ⟨exc, σ1, g1, ea, false, rfl, nofun, hE, (e1.trans E').no, I', X', z1.trans ⟨rfl, rfl, rfl⟩⟩))
end

/-! HANDLERS -/
section
variable {S : Sta} {G : CallS} {nd : Nat} {names : Names} {lam hd : Bool}
noncomputable def SndE (S : Sta) (G : CallS) (nd : Nat) (names : Names) (lam : Bool) (st : Stmt) (x : Mine.S) : Prop :=
  ∀ A env outer L Y m σ g s K E, Act S (S.at names none lam) A env env outer L nd false → NoFree names → Inv S (env :: outer) g σ s.heap → VarsOk S Y s.heap g env names m → evS G S.gc x m σ K E →
    wpAny S.M A (exec st env) (OkS S env outer Y names g s K) (Er S (env :: outer) No false g s E) s
theorem e_ret {e : PySem.Expr} {x : X} {pos : Pos} (hx : SndX S G nd false (S.at names none lam) e x) : SndE S G nd names lam (.Return (some e) pos) (.ret x) := by
  intro A env outer L Y m σ g s K E a nf I V h
  replace h := eq_evS_5 h
  rw [arm_exec_Return]
  refine wpAny_bind (wpAny_standAt ?_)
  show wpAny S.M A (do return Flow.ret (← eval e env)) _ _ _
  exact wpAny_bind (wpAny_mono (hx A env env outer L Y m [] σ g s _ E a I (V.rd nf) h) (fun v s1 ⟨d, σ1, g1, h1, e1, i1, r1, z1⟩ => wpAny_pure ⟨.ret d, m, σ1, g1, h1, e1.no, i1, V.mono e1, r1, z1⟩) fun _ _ q => q)
theorem e_asg {x : Str} {q pos : Pos} {e : PySem.Expr} {xe : X} {i : Nat} (he : kindE e ≠ 1) (hs : slotOf (S.at names none lam) (.Name x q) = some i) (hx : SndX S G nd false (S.at names none lam) e xe) : SndE S G nd names lam (.Assign [.Name x q] e pos) (.asg i xe) := by
  intro A env outer L Y m σ g s K E a nf I V h
  replace h := eq_evS_0 h
  obtain ⟨k, hi, hk⟩ := slot_some hs
  rw [arm_exec_Assign]
  refine wpAny_bind (wpAny_standAt ?_)
  show wpAny S.M A (swapsWith e (some (.Name x q)) pos.line env >>= _) _ _ _
  rw [swaps_not he]
  refine wpAny_bind (wpAny_pure ?_)
  rw [if_neg (by decide)]
  refine wpAny_bind (wpAny_mono (hx A env env outer L Y m [] σ g s _ E a I (V.rd nf) h) (fun v s1 ⟨d, σ1, g1, h1, e1, i1, r1, z1⟩ => ?_) fun _ _ q => q)
  refine wpAny_bind (m := swappedStores [.Name x q] e env) (wpAny_pure ?_)
  show wpAny S.M A (do assignAll v [assign (.Name x q) env]; pure Flow.next) _ _ _
  refine wpAny_bind (m := assign (.Name x q) env v) (wpAny_assign_Name (store a.kf (V.mono e1) i1 hi hk (.v r1) fun h' tk I' E' V' _ => wpAny_pure ⟨.next, _, σ1, g1, (when_e h1).2, e1.no.trans E', I', V', trivial, ⟨z1.1, z1.2.1, z1.2.2⟩⟩))
theorem Act.mark {cx : Cx} {A : Around} {env ev : Env} {outer : List Env} {L : Addr} (a : Act S cx A env ev outer L nd hd) (h : Option Value) : Act S cx (A.mark h) env ev outer L nd true :=
  ⟨nofun, a.frames, a.fL, a.vL, a.guards, a.depth, a.units, a.kf, a.gl, a.bl, a.gn, a.lam⟩
theorem unbound {M : Model} {A : Around} {Ev : Value → Shared → Prop} {Y : Addr → Prop} {env : Env} {outer : List Env} {m : Fm} {g : Gh} {σ : Hp} {s : Shared} {x : Str} {i : Nat} {l : Loc} {Q : Unit → Shared → Prop}
    (kf : env.scope.kind = .function) (V : VarsOk S Y s.heap g env names m) (I : Inv S (env :: outer) g σ s.heap) (hi : idxOf names x 0 = some (i, .local)) (hm : m[i]? = some (some l))
    (hQ : ∀ h', Inv S (env :: outer) g σ h' → Ext Y g g s.heap h' → VarsOk S Y h' g env names (setAt m i none) → Q () { s with heap := h' }) : wpAny M A (unbindName env x) Q Ev s := by
  have hkind : env.kindOf x = some .local := by unfold Env.kindOf; rw [V.nm]; exact idxOf_lookup hi
  obtain ⟨mp, ns, lr⟩ := V.loc
  obtain ⟨v, hv, _⟩ := lr x i l hi hm
  have ilt : i < m.length := (List.getElem?_eq_some_iff.mp hm).1
  refine wpAny_unbindName_local hkind ns hv (by rw [kf]; rfl) fun h' u ns' sb => ?_
  obtain ⟨I', E'⟩ := I.own V.yL (.inl V.kL) sb (ns_at ns')
  refine hQ h' I' E' ⟨by rw [setAt_len]; exact V.len, V.nm, V.kL, V.yL, fun a ya => let ⟨o, e, k⟩ := V.yH a ya; let ⟨o', e'⟩ := E'.still a o e; ⟨o', e', k⟩, ⟨_, ns', fun y j l' e1 e2 => ?_⟩, fun y j e => ?_, V.inj⟩
  · by_cases z : y = x
    · obtain rfl := z.symm
      rw [hi] at e1; cases e1
      rw [setAt_self ilt] at e2; cases e2
    · have ne : i ≠ j := fun q => z (idxOf_inj e1 (q ▸ hi))
      rw [setAt_ne ne] at e2
      obtain ⟨u, a, b⟩ := lr y j l' e1 e2
      exact ⟨u, (if_neg z).trans a, b.mono E'⟩
  · obtain ⟨c, c1, c2, c3, c4, ov, c5, c7⟩ := V.cel y j e
    refine ⟨c, c1, c2, c3, c4, ov, ?_, fun l' hl => ?_⟩
    · obtain ⟨oc, a, b⟩ := c5; exact ⟨oc, (sb.2 c c3).trans a, b⟩
    · have ne : i ≠ j := fun q => by subst q; have := idxOf_inj e hi; subst this; rw [hi] at e; cases e
      rw [setAt_ne ne] at hl
      obtain ⟨u, a, b⟩ := c7 l' hl
      exact ⟨u, a, b.mono E'⟩
inductive HsOk (S : Sta) (G : CallS) (nd : Nat) (names : Names) (lam : Bool) : List ExceptHandler → List (Bool × Option Nat × List Mine.S) → Prop
  | nil : HsOk S G nd names lam [] []
  | as {lim : Bool} {x y : Str} {q pos : Pos} {i : Nat} {b : Stmt} {xb : Mine.S} {hs : List ExceptHandler} {xs : List (Bool × Option Nat × List Mine.S)} : x = Str.ofString (if lim then "LimitFault" else "EvalFault") → nmOf (S.at names none lam) x = some .g → idxOf names y 0 = some (i, .local) → SndSs S G nd true names lam [b] [xb] → HsOk S G nd names lam hs xs →
      HsOk S G nd names lam (.ExceptHandler (some (.Name x q)) (some y) [b] pos :: hs) ((lim, some i, [xb]) :: xs)
  | no {lim : Bool} {x : Str} {q pos : Pos} {b : Stmt} {xb : Mine.S} {hs : List ExceptHandler} {xs : List (Bool × Option Nat × List Mine.S)} : x = Str.ofString (if lim then "LimitFault" else "EvalFault") → nmOf (S.at names none lam) x = some .g → SndSs S G nd true names lam [b] [xb] → HsOk S G nd names lam hs xs →
      HsOk S G nd names lam (.ExceptHandler (some (.Name x q)) none [b] pos :: hs) ((lim, none, [xb]) :: xs)
theorem er_false {fr : List Env} {Y : Addr → Prop} {t : Bool} {g : Gh} {s s' : Shared} {e : Value} (h : Er S fr Y t g s (fun _ _ => False) e s') : False := by
  obtain ⟨exc, σ', g', ea, tr, _, _, f, _⟩ := h
  exact f
theorem exc_up {g g' : Gh} {h h' : Heap} {ea : Addr} {e : Exc} {tr : Bool} (x : ExcAt S h g ea e tr) {Y : Addr → Prop} (ny : ¬ Y ea) : FaultAt S Y h g ea e := by
  obtain ⟨oe, vs, dx, mp, h1, h2, h3, h4, h5, h6, h7, h8, h9, h10⟩ := x.obj
  exact ⟨x.kd, ny, oe, vs, dx, mp, h1, h2, h3, h4, h6, h7, h8, h9⟩
theorem handle (ok : StaOk3 S) (k2 : KOk2 S) {hs : List ExceptHandler} {xs : List (Bool × Option Nat × List Mine.S)} (ho : HsOk S G nd names lam hs xs) : ∀ {A env outer L Y m σ g s K E ea e}, Act S (S.at names none lam) A env env outer L nd false → NoFree names → Inv S (env :: outer) g σ s.heap → VarsOk S Y s.heap g env names m → ExcAt S s.heap g ea e true → evH G S.gc xs e m σ K E →
    wpAny S.M A (handleBy (.ref ea) env hs) (OkS S env outer Y names g s K) (Er S (env :: outer) Y false g s E) s := by
  have mg : ∀ {lim : Bool} {x : Str}, x = Str.ofString (if lim then "LimitFault" else "EvalFault") → S.mg x = some (.ref (S.ec lim)) := fun {lim x} hx => by subst hx; cases lim; exact k2.xF; exact k2.xL
  induction ho with
  | nil =>
    intro A env outer L Y m σ g s K E ea e a nf I V x h
    refine wpAny_handleBy_nil (wpAny_passOn I x fun h' I' E' x' => ?_)
    exact ⟨e, σ, g, ea, true, rfl, nofun, h, E'.no, I', x', ⟨rfl, rfl, rfl⟩⟩
  | @as lim x y q pos i b xb hs xs hx hg hi hb _ ih =>
    intro A env outer L Y m σ g s K E ea e a nf I V xa h
    have am := a.mark (some (.ref ea))
    refine wpAny_handleBy_cons (codeAny_handlers_test (eval_global am ok.toStaOk I.stays hg (mg hx) (exc_matches ok k2 I xa ?_))) (by intro q; cases q)
    replace h := eq_evH_1 h
    cases hq : (lim == e.lim) with
    | false =>
      have : lim ≠ e.lim := by simpa using hq
      rw [if_neg this] at h
      exact ih a nf I V xa h
    | true =>
      have : lim = e.lim := by simpa using hq
      rw [if_pos this] at h
      obtain ⟨hlt, h⟩ := when_e h
      have ny : ¬ Y ea := fun ya => by
        obtain ⟨o, _, k⟩ := V.yH ea ya
        rw [xa.kd] at k
        rcases k with k | k <;> cases k
      refine codeAny_handlers_suite_as (wpAny_flight I xa fun h1 I1 E1 x1 => ?_)
      have V1 := V.mono E1
      refine store a.kf V1 I1 hi (.inl rfl) (.fault (exc_up x1 ny (g' := g) (h' := h1))) fun h2 tk I2 E2 V2 _ => ?_
      refine wpAny_mono (hb (A.mark (some (.ref ea))) env outer L Y _ σ g { s with heap := h2, toks := tk } _ _ am nf I2 V2 h) (fun fl s3 ⟨f, m3, σ3, g3, h3, e3, i3, v3, r3, z3⟩ => ?_) fun e' s' q => (er_false q).elim
      show wpAny S.M A (do bindName env y .none; unbindBehindTheSuite env y pos) _ _ s3
      refine wpAny_bind (wpAny_bindName (store a.kf v3 i3 hi (.inl rfl) (.v (.pd .none)) fun h4 tk4 I4 E4 V4 _ => ?_))
      unfold unbindBehindTheSuite
      have ilt : i < m3.length := by rw [v3.len]; exact (List.getElem?_eq_some_iff.mp (by simpa using (idxOf_get hi).2)).1
      refine wpAny_onRaise (wpAny_mono (unbound (Ev := fun _ _ => False) a.kf V4 I4 hi (setAt_self ilt) (Q := fun _ s' => OkS S env outer Y names g s K fl s') fun h5 I5 E5 V5 => ?_) (fun _ _ q => q) fun _ _ q => q.elim)
      have hset : setAt (setAt m3 i (some (.v (.pd .none)))) i none = setAt m3 i none := by
        have : ∀ {α : Type} {l : List α} {i : Nat} {x y : α}, setAt (setAt l i x) i y = setAt l i y := by
          intro α l
          induction l with
          | nil => intro i x y; rfl
          | cons a r ih => intro i x y; cases i with
            | zero => rfl
            | succ i => exact congrArg (a :: ·) ih
        exact this
      rw [hset] at V5
      have EE : Ext Y g g3 s.heap h5 := (((E1.no.trans E2).trans e3).trans E4).trans E5
      refine ⟨f, _, σ3, g3, h3, EE, I5, V5, ?_, ⟨z3.1, z3.2.1, z3.2.2⟩⟩
      cases fl <;> cases f <;> first | exact r3.elim | trivial | exact (VR.mono E4.up r3).mono E5.up
  | @no lim x q pos b xb hs xs hx hg hb _ ih =>
    intro A env outer L Y m σ g s K E ea e a nf I V xa h
    have am := a.mark (some (.ref ea))
    refine wpAny_handleBy_cons (codeAny_handlers_test (eval_global am ok.toStaOk I.stays hg (mg hx) (exc_matches ok k2 I xa ?_))) (by intro q; cases q)
    replace h := eq_evH_1 h
    cases hq : (lim == e.lim) with
    | false =>
      have : lim ≠ e.lim := by simpa using hq
      rw [if_neg this] at h
      exact ih a nf I V xa h
    | true =>
      have : lim = e.lim := by simpa using hq
      rw [if_pos this] at h
      refine codeAny_handlers_suite (wpAny_flight I xa fun h1 I1 E1 x1 => ?_)
      have V1 := V.mono E1
      refine wpAny_mono (hb (A.mark (some (.ref ea))) env outer L Y m σ g { s with heap := h1 } _ _ am nf I1 V1 h) (fun fl s3 ⟨f, m3, σ3, g3, h3, e3, i3, v3, r3, z3⟩ => ?_) fun e' s' q => (er_false q).elim
      exact ⟨f, m3, σ3, g3, h3, E1.no.trans e3, i3, v3, r3, ⟨z3.1, z3.2.1, z3.2.2⟩⟩
theorem s_try (ok : StaOk3 S) (k2 : KOk2 S) {b : Stmt} {xb : Mine.S} {h0 : ExceptHandler} {hs : List ExceptHandler} {xs : List (Bool × Option Nat × List Mine.S)} {pos : Pos} (hb : SndE S G nd names lam b xb) (ho : HsOk S G nd names lam (h0 :: hs) xs) :
    SndS S G nd false names lam (.Try [b] (h0 :: hs) [] [] pos) (.try [xb] xs) := by
  intro A env outer L Y m σ g s K E a nf I V h
  replace h := eq_evSs_1 (eq_evS_12 h)
  rw [arm_exec_Try]
  refine wpAny_bind (wpAny_standAt (wpAny_tryStmt_except (wpAny_execs_cons (wpAny_mono (hb A env outer L Y m σ g s _ _ a nf I V h) (fun fl s1 ⟨f, m1, σ1, g1, h1, e1, i1, v1, r1, z1⟩ => ?_) fun e s1 ⟨exc, σ1, g1, ea, tr, he, _, hE, e1, i1, x1, z1⟩ => ?_))))
  · cases fl <;> cases f <;> first
      | exact r1.elim
      | exact wpAny_execs_nil (wpAny_execs_nil ⟨.next, m1, σ1, g1, h1, e1, i1, v1, trivial, z1⟩)
      | exact ⟨_, m1, σ1, g1, h1, e1, i1, v1, r1, z1⟩
  · subst he
    have v1 := V.mono e1
    refine wpAny_note a.frames a.fL a.fL i1 x1 fun g2 h2 i2 e2 x2 => ?_
    refine wpAny_flight (S := S) (g := g2) (s := { s1 with heap := h2 }) i2 x2 fun h3 i3 e3 x3 => ?_
    have EE : Ext No g g2 s.heap h3 := (e1.trans e2).trans e3
    have := handle ok k2 ho (s := { s1 with heap := h3 }) a nf i3 ((v1.mono e2).mono e3) x3 hE
    exact wpAny_mono this (fun fl s4 q => OkS.trans (s1 := { s1 with heap := h3 }) EE.no z1 q) fun e s4 q => Er.trans (s1 := { s1 with heap := h3 }) EE.no z1 q
end

/-! CALLS: what a function's frame holds at its start -/
theorem cellsFrom_acc {names : Names} {x : Str} : ∀ {n : Nat} {acc : List (Str × Addr)}, (∃ c, acc.lookup x = some c) → ∃ c, (cellsFrom n names acc).lookup x = some c := by
  induction names with
  | nil => intro n acc h; exact h
  | cons p r ih =>
    obtain ⟨a, k⟩ := p
    intro n acc h
    unfold cellsFrom
    split
    · refine ih ?_
      by_cases q : x = a
      · subst q; exact ⟨n, by simp [List.lookup]⟩
      · have : (x == a) = false := by simpa using q
        obtain ⟨c, hc⟩ := h
        exact ⟨c, by simp [List.lookup, this, hc]⟩
    · exact ih h
theorem cellsFrom_has {names : Names} {x : Str} : ∀ {n : Nat} {acc : List (Str × Addr)}, (x, NameKind.cell) ∈ names → ∃ c, (cellsFrom n names acc).lookup x = some c := by
  induction names with
  | nil => intro n acc h; cases h
  | cons p r ih =>
    obtain ⟨a, k⟩ := p
    intro n acc h
    unfold cellsFrom
    rcases List.mem_cons.mp h with h | h
    · cases h
      simp only [beq_self_eq_true, if_true]
      exact cellsFrom_acc ⟨n, by simp [List.lookup]⟩
    · split <;> exact ih h
theorem bindL_not {kf : Str → Option NameKind} {x : Str} : ∀ {bs : List (Str × Value)} {m : Str → Option Value}, x ∉ bs.map (·.1) → bindL kf bs m x = m x
  | [], m, _ => rfl
  | (n, v) :: r, m, h => by
    rw [List.map_cons, List.mem_cons, not_or] at h
    unfold bindL
    rw [bindL_not h.2]
    split
    · exact if_neg h.1
    · rfl
theorem bindL_get {kf : Str → Option NameKind} {x : Str} {v : Value} (hk : kf x = some .local) : ∀ {bs : List (Str × Value)} {m : Str → Option Value}, (bs.map (·.1)).Nodup → (x, v) ∈ bs → bindL kf bs m x = some v
  | (n, u) :: r, m, hn, h => by
    rw [List.map_cons, List.nodup_cons] at hn
    unfold bindL
    rcases List.mem_cons.mp h with h | h
    · cases h
      rw [bindL_not hn.1, if_pos hk]; exact if_pos rfl
    · exact bindL_get hk hn.2 h
theorem bindC_not {kf : Str → Option NameKind} {x : Str} : ∀ {bs : List (Str × Value)} {m : Str → Option Value}, x ∉ bs.map (·.1) → bindC kf bs m x = m x
  | [], m, _ => rfl
  | (n, v) :: r, m, h => by
    rw [List.map_cons, List.mem_cons, not_or] at h
    unfold bindC
    rw [bindC_not h.2]
    split
    · rfl
    · exact if_neg h.1
theorem bindC_get {kf : Str → Option NameKind} {x : Str} {v : Value} (hk : kf x ≠ some .local) : ∀ {bs : List (Str × Value)} {m : Str → Option Value}, (bs.map (·.1)).Nodup → (x, v) ∈ bs → bindC kf bs m x = some v
  | (n, u) :: r, m, hn, h => by
    rw [List.map_cons, List.nodup_cons] at hn
    unfold bindC
    rcases List.mem_cons.mp h with h | h
    · cases h
      rw [bindC_not hn.1, if_neg hk]; exact if_pos rfl
    · exact bindC_get hk hn.2 h
theorem putPs_c {i : Nat} {r : List Nat} {a : Loc} {q : List Loc} {m : Fm} : putPs (i :: r) (a :: q) m = if i < m.length then putPs r q (setAt m i (some a)) else none := rfl
theorem putPs_get : ∀ {ps : List Nat} {as : List Loc} {m m' : Fm} {j : Nat} {l : Loc}, putPs ps as m = some m' → m'[j]? = some (some l) → m[j]? = some (some l) ∨ ∃ t : Nat, ps[t]? = some j ∧ as[t]? = some l
  | [], [], m, m', j, l, h, q => by cases h; exact .inl q
  | [], _ :: _, m, m', j, l, h, q => by cases h
  | _ :: _, [], m, m', j, l, h, q => by cases h
  | i :: r, a :: as, m, m', j, l, h, q => by
    rw [putPs_c] at h
    split at h
    · rename_i hi
      rcases putPs_get h q with q | ⟨t, q1, q2⟩
      · by_cases e : i = j
        · subst e
          rw [setAt_self hi] at q; cases q
          exact .inr ⟨0, rfl, rfl⟩
        · rw [setAt_ne e] at q; exact .inl q
      · exact .inr ⟨t + 1, q1, q2⟩
    · cases h
theorem putPs_len : ∀ {ps : List Nat} {as : List Loc} {m m' : Fm}, putPs ps as m = some m' → m'.length = m.length ∧ ps.length = as.length
  | [], [], m, m', h => by cases h; exact ⟨rfl, rfl⟩
  | [], _ :: _, m, m', h => by cases h
  | _ :: _, [], m, m', h => by cases h
  | i :: r, a :: as, m, m', h => by
    rw [putPs_c] at h
    split at h
    · obtain ⟨h1, h2⟩ := putPs_len h; exact ⟨by rw [h1, setAt_len], congrArg (· + 1) h2⟩
    · cases h
noncomputable def psOf (names : Names) : List Str → Option (List Nat)
  | [] => some []
  | x :: r => (slotI names x).bind fun i => (psOf names r).bind fun l => some (i :: l)
theorem psOf_get {names : Names} {xs : List Str} : ∀ {l : List Nat}, psOf names xs = some l → xs.length = l.length ∧ ∀ (t i : Nat), l[t]? = some i → ∃ x k, xs[t]? = some x ∧ idxOf names x 0 = some (i, k) ∧ (k = .local ∨ k = .cell) := by
  induction xs with
  | nil => intro l h; obtain rfl := Option.some.inj h; exact ⟨rfl, fun t i e => nomatch (List.getElem?_nil (i := t)).symm.trans e⟩
  | cons x r ih =>
    exact fun {l} h => bd_e h fun i hi h => bd_e h fun l' hl h => by
      obtain rfl := Option.some.inj h
      obtain ⟨q1, q2⟩ := ih hl
      refine ⟨congrArg (· + 1) q1, fun t j e => ?_⟩
      cases t with
      | zero => obtain rfl := Option.some.inj e; obtain ⟨k, a, b⟩ := slotI_e hi; exact ⟨x, k, rfl, a, b⟩
      | succ t => exact q2 t j e
theorem psOf_kind {names : Names} {xs : List Str} : ∀ {l : List Nat}, psOf names xs = some l → ∀ x ∈ xs, ∃ i k, idxOf names x 0 = some (i, k) ∧ (k = .local ∨ k = .cell) := by
  induction xs with
  | nil => exact fun _ x hx => nomatch hx
  | cons y r ih => exact fun {l} h => bd_e h fun i hi h => bd_e h fun l' hl _ x hx => (List.mem_cons.mp hx).elim (fun q => q ▸ ⟨i, slotI_e hi⟩) (ih hl x)
theorem LRs.length {S : Sta} {h : Heap} {g : Gh} {vs : List Value} {ls : List Loc} (r : LRs S h g vs ls) : vs.length = ls.length := by
  induction r with
  | nil => rfl
  | cons _ _ ih => simp [ih]
theorem LRs.get {S : Sta} {h : Heap} {g : Gh} {vs : List Value} {ls : List Loc} (r : LRs S h g vs ls) : ∀ {t : Nat} {l : Loc}, ls[t]? = some l → ∃ v, vs[t]? = some v ∧ LR S No h g v l := by
  induction r with
  | nil => intro t l e; simp at e
  | cons a _ ih =>
    intro t l e
    cases t with
    | zero => simp at e; subst e; exact ⟨_, rfl, a⟩
    | succ t => simpa using ih (by simpa using e)
/-- the plain parameters -/
noncomputable def plainPs (p : Arguments) : Bool := match p with
  | ⟨a, _, c, d, e, f, g⟩ => a.isEmpty && (c.isNone && (d.isEmpty && (e.isEmpty && (f.isNone && g.isEmpty))))
theorem plainPs_eq {p : Arguments} (h : plainPs p = true) : p = ⟨[], p.args, none, [], [], none, []⟩ := by
  obtain ⟨a, b, c, d, e, f, g⟩ := p
  obtain ⟨h1, h⟩ := Bool.and_eq_true_iff.mp h
  obtain ⟨h2, h⟩ := Bool.and_eq_true_iff.mp h
  obtain ⟨h3, h⟩ := Bool.and_eq_true_iff.mp h
  obtain ⟨h4, h⟩ := Bool.and_eq_true_iff.mp h
  obtain ⟨h5, h⟩ := Bool.and_eq_true_iff.mp h
  rw [List.isEmpty_iff.mp h1, Option.isNone_iff_eq_none.mp h2, List.isEmpty_iff.mp h3, List.isEmpty_iff.mp h4, Option.isNone_iff_eq_none.mp h5, List.isEmpty_iff.mp h]
theorem zip_lookup {xs : List Str} : ∀ {vs : List Value}, xs.Nodup → xs.length = vs.length → (xs.filterMap fun n => ((xs.zip vs).lookup n).map (n, ·)) = xs.zip vs := by
  have gen : ∀ (xs : List Str) (vs : List Value) (L : List (Str × Value)), xs.Nodup → xs.length = vs.length → (∀ x v, (x, v) ∈ xs.zip vs → L.lookup x = some v) → (xs.filterMap fun n => (L.lookup n).map (n, ·)) = xs.zip vs := by
    intro xs
    induction xs with
    | nil => intro vs L _ _ _; rfl
    | cons x r ih =>
      intro vs L hn hl h
      cases vs with
      | nil => simp at hl
      | cons v vs =>
        rw [List.nodup_cons] at hn
        rw [List.filterMap_cons, h x v (by simp)]
        simp only [Option.map_some, List.zip_cons_cons]
        rw [ih vs L hn.2 (by simpa using hl) fun y w hm => h y w (by simp [hm])]
  have lk : ∀ (xs : List Str) (vs : List Value), xs.Nodup → ∀ x v, (x, v) ∈ xs.zip vs → (xs.zip vs).lookup x = some v := by
    intro xs
    induction xs with
    | nil => intro vs _ x v h; simp at h
    | cons a r ih =>
      intro vs hn x v h
      cases vs with
      | nil => simp at h
      | cons b vs =>
        rw [List.nodup_cons] at hn
        rw [List.zip_cons_cons] at h ⊢
        rcases List.mem_cons.mp h with h | hh
        · cases h; simp [List.lookup]
        · have : (x == a) = false := by
            simp only [beq_eq_false_iff_ne]
            rintro rfl
            exact hn.1 (List.of_mem_zip hh).1
          simp only [List.lookup, this]
          exact ih vs hn.2 x v hh
  intro vs hn hl
  exact gen xs vs _ hn hl (lk xs vs hn)
theorem bind_plain {fd : FuncData} {vs : List Value} (hp : plainPs fd.params = true) (hd : fd.defaults = .none) (hn : (fd.params.args.map (·.arg)).Nodup) (hl : fd.params.args.length = vs.length) : bindArgs fd ⟨vs, []⟩ = pure ((fd.params.args.map (·.arg)).zip vs) := by
  obtain ⟨_, _, params, _, _, _, _, defaults, _⟩ := fd
  dsimp only at hp hd hn hl ⊢
  subst hd
  have hp := plainPs_eq hp
  obtain ⟨_, l, _, _, _, _, _⟩ := params
  cases hp
  dsimp only at hn hl
  have hz := zip_lookup hn (by simpa using hl)
  have hmiss : ((l.map (·.arg)).take (l.map (·.arg)).length).filter (fun n => (((l.map (·.arg)).zip vs).lookup n).isNone) = [] := by
    rw [List.filter_eq_nil_iff, List.take_length]
    intro x hx
    have : x ∈ ((l.map (·.arg)).zip vs).map (·.1) := by
      rw [List.map_fst_zip (Nat.le_of_eq ((List.length_map _).trans hl))]; exact hx
    obtain ⟨⟨y, v⟩, h1, rfl⟩ := List.mem_map.mp this
    obtain ⟨v', hv⟩ := mem_lookup h1
    rw [hv]; exact Bool.false_ne_true
  refine (if_neg ?_).trans ?_
  · show ¬ (decide (vs.length > (l.map (·.arg)).length) && true) = true
    rw [List.length_map, hl, decide_eq_false (Nat.lt_irrefl _)]; exact Bool.false_ne_true
  refine (if_neg ?_).trans ?_
  · show ¬ (!(((l.map (·.arg)).take ((l.map (·.arg)).length - (List.drop (0 - (l.map (·.arg)).length) ([] : List Value)).length)).filter (fun n => (((l.map (·.arg)).zip vs).lookup n).isNone)).isEmpty) = true
    rw [List.drop_nil]
    show ¬ (!(((l.map (·.arg)).take (l.map (·.arg)).length).filter (fun n => (((l.map (·.arg)).zip vs).lookup n).isNone)).isEmpty) = true
    rw [hmiss]; exact Bool.false_ne_true
  show (forIn (List.zip _ (List.drop _ ([] : List Value))) _ _ >>= _) = _
  rw [List.drop_nil, List.zip_nil_right]
  show (pure (List.filterMap (fun n => Option.map (fun x => (n, x)) (List.lookup n ((l.map (·.arg)).zip vs))) (l.map (·.arg) ++ [])) : Sem (List (Str × Value))) = _
  rw [List.append_nil, hz]

/-! CALLS -/
theorem LR.fresh {S : Sta} {Y : Addr → Prop} {h : Heap} {g : Gh} {v : Value} {l : Loc} (f : ∀ a o, Y a → h.get? a = some o → False) (r : LR S No h g v l) : LR S Y h g v l := r.but fun a o e _ y => f a o y e
open Classical in
noncomputable def Gh.frame (g : Gh) (L : Addr) (cs : List (Str × Addr)) : Gh := { g with κ := fun b => if b = L then .fr else if ∃ n, cs.lookup n = some b then .cl else g.κ b }
section
variable {S : Sta} {fr : List Env} {g : Gh} {σ : Hp} {s s1 : Shared} {fd : FuncData} {a : Addr} {ps : List Nat} {as : List Loc} {vs : List Value} {m0 : Fm} {cm mp : Str → Option Value}
open Classical in
theorem enter (I : Inv S fr g σ s.heap) (x : InCallC s (callEnvC fd s.heap.objs.size a).locals mp (callEnvC fd s.heap.objs.size a).cells cm s1) (kf : fd.scope.kind = .function) :
    Ext No g (g.frame s.heap.objs.size (callEnvC fd s.heap.objs.size a).cells) s.heap s1.heap ∧ Inv S (callEnvC fd s.heap.objs.size a :: fr) (g.frame s.heap.objs.size (callEnvC fd s.heap.objs.size a).cells) σ s1.heap ∧ Rest s s1 ∧
      (∀ b o, (b = s.heap.objs.size ∨ ∃ n, (callEnvC fd s.heap.objs.size a).cells.lookup n = some b) → s.heap.get? b = some o → False) := by
  have hL : (callEnvC fd s.heap.objs.size a).locals = s.heap.objs.size := rfl
  have kp := x.toInCall.keep
  have old : ∀ b o, s.heap.get? b = some o → b ≠ s.heap.objs.size ∧ ¬ ∃ n, (callEnvC fd s.heap.objs.size a).cells.lookup n = some b := fun b o e => by
    have lt := Heap.lt_size e
    refine ⟨Nat.ne_of_lt lt, fun ⟨n, hn⟩ => ?_⟩
    have := x.above n b (mem_of_lookup hn)
    rw [hL] at this
    exact Nat.lt_irrefl _ (Nat.lt_trans this lt)
  have hk : ∀ b o, s.heap.get? b = some o → (g.frame s.heap.objs.size (callEnvC fd s.heap.objs.size a).cells).κ b = g.κ b := fun b o e => by
    obtain ⟨h1, h2⟩ := old b o e
    show (if b = s.heap.objs.size then Kd.fr else if ∃ n, (callEnvC fd s.heap.objs.size a).cells.lookup n = some b then Kd.cl else g.κ b) = g.κ b
    rw [if_neg h1, if_neg h2]
  have E : Ext No g (g.frame s.heap.objs.size (callEnvC fd s.heap.objs.size a).cells) s.heap s1.heap := ⟨hk, Nat.le_refl _, fun _ _ => rfl, fun b o q e => ⟨(hk b o e).trans q, kp b o e⟩, fun b o e _ _ _ _ _ => kp b o e, fun b o e _ _ => ⟨o.slots, kp b o e⟩, fun b o vs e _ _ q => ⟨vs, q ▸ kp b o e⟩, fun b o e => ⟨o, kp b o e⟩⟩
  have ns := x.toInCall.ns
  rw [hL] at ns
  obtain ⟨oL, hoL, hdL⟩ := ns_at ns
  refine ⟨E, ⟨fun b o e => kp b o (I.stays b o e), fun b o e => (hk b o (I.stays b o e)).trans (I.bfz b o e), fun b e => ?_, I.num, fun i o e => (I.mu i o e).mono_at E.up fun ob q => kp _ _ q, fun i hi => ?_, I.inj, ?_, I.tb.mono E.fz (let ⟨_, q, _⟩ := I.tb.at_; (hk _ _ q).trans I.tb.k) (kp _)⟩, ?_, fun b o y e => ?_⟩
  · show (if b = s.heap.objs.size then Kd.fr else if ∃ n, (callEnvC fd s.heap.objs.size a).cells.lookup n = some b then Kd.cl else g.κ b) = .ot
    rw [if_neg (fun q => by rw [q, hoL] at e; cases e), if_neg (fun ⟨n, hn⟩ => by obtain ⟨o, ho, _⟩ := x.cell n b hn; rw [ho] at e; cases e)]
    refine I.ot b ?_
    cases z : s.heap.get? b with
    | none => rfl
    | some o => rw [kp b o z] at e; cases e
  · obtain ⟨ob, e⟩ := I.muAt hi
    exact (hk _ ob e).trans (I.km i hi)
  · refine ⟨⟨(by show fd.scope.kind ≠ _; rw [kf]; decide), ⟨s.heap.objs.size, oL, rfl, Heap.get?_none_of_le (Nat.zero_le _), hoL, hdL⟩, (I.fr.mono E).1⟩, fun L hm => ?_⟩
    rw [List.filterMap_cons] at hm
    rcases List.mem_cons.mp hm with rfl | hm
    · exact if_pos rfl
    · exact (I.fr.mono E).2 L hm
  · obtain ⟨h, tk, e⟩ := x.toInCall.same
    rw [e]; exact ⟨rfl, rfl, rfl⟩
  · obtain ⟨h1, h2⟩ := old b o e
    exact y.elim h1 h2
open Classical in
theorem entered {names : Names} (hnm : fd.scope.names = names) (I : Inv S fr g σ s.heap) (r : LRs S s.heap g vs as) (hps : psOf names (fd.params.args.map (·.arg)) = some ps) (hn : (fd.params.args.map (·.arg)).Nodup) (hl : fd.params.args.length = vs.length) (hm : putPs ps as (List.replicate names.length none) = some m0) (kf : fd.scope.kind = .function)
    (x : InCallC s (callEnvC fd s.heap.objs.size a).locals (bindL (callEnvC fd s.heap.objs.size a).kindOf ((fd.params.args.map (·.arg)).zip vs) fun _ => none) (callEnvC fd s.heap.objs.size a).cells (bindC (callEnvC fd s.heap.objs.size a).kindOf ((fd.params.args.map (·.arg)).zip vs) fun _ => none) s1) :
    VarsOk S (fun b => b = s.heap.objs.size ∨ ∃ n, (callEnvC fd s.heap.objs.size a).cells.lookup n = some b) s1.heap (g.frame s.heap.objs.size (callEnvC fd s.heap.objs.size a).cells) (callEnvC fd s.heap.objs.size a) names m0 := by
  obtain ⟨E, I1, z, fresh⟩ := enter I x kf
  have hkind : ∀ {y : Str} {i : Nat} {k : NameKind}, idxOf names y 0 = some (i, k) → (callEnvC fd s.heap.objs.size a).kindOf y = some k := fun e => by
    show List.lookup _ fd.scope.names = _
    rw [hnm]; exact idxOf_lookup e
  obtain ⟨q1, q2⟩ := psOf_get hps
  have hzl : (((fd.params.args.map (·.arg)).zip vs).map (·.1)) = fd.params.args.map (·.arg) := List.map_fst_zip (by simpa using Nat.le_of_eq hl)
  have val : ∀ {j : Nat} {l : Loc} {y : Str} {k : NameKind}, idxOf names y 0 = some (j, k) → m0[j]? = some (some l) → ∃ v, (y, v) ∈ (fd.params.args.map (·.arg)).zip vs ∧ LR S (fun b => b = s.heap.objs.size ∨ ∃ n, (callEnvC fd s.heap.objs.size a).cells.lookup n = some b) s1.heap (g.frame s.heap.objs.size (callEnvC fd s.heap.objs.size a).cells) v l := by
    intro j l y k hy hj
    rcases putPs_get hm hj with h | ⟨t, h1, h2⟩
    · rw [List.getElem?_replicate] at h; split at h <;> cases h
    · obtain ⟨y', k', h3, h4, _⟩ := q2 t j h1
      have : y' = y := idxOf_inj h4 hy
      subst this
      obtain ⟨v, h5, h6⟩ := r.get h2
      refine ⟨v, ?_, (h6.fresh fresh).mono E.no⟩
      have : ((fd.params.args.map (·.arg)).zip vs)[t]? = some (y', v) := by rw [List.getElem?_zip_eq_some]; exact ⟨h3, h5⟩
      exact List.mem_of_getElem? this
  have ns := x.toInCall.ns
  refine ⟨by rw [(putPs_len hm).1]; simp, hnm, if_pos rfl, .inl rfl, fun b yb => ?_, ⟨_, ns, fun y i l e1 e2 => ?_⟩, fun y i e => ?_, fun y z c h1 h2 => name_of_addr x.apart (mem_of_lookup h1) (mem_of_lookup h2)⟩
  · rcases yb with rfl | ⟨n, hn'⟩
    · obtain ⟨o, ho, _⟩ := ns_at ns
      exact ⟨o, ho, .inl (if_pos rfl)⟩
    · obtain ⟨o, ho, _⟩ := x.cell n b hn'
      refine ⟨o, ho, .inr ?_⟩
      have : b ≠ s.heap.objs.size := Nat.ne_of_gt (x.above n b (mem_of_lookup hn'))
      exact (if_neg this).trans (if_pos ⟨n, hn'⟩)
  · obtain ⟨v, h1, h2⟩ := val e1 e2
    exact ⟨v, bindL_get (hkind e1) (by rw [hzl]; exact hn) h1, h2⟩
  · obtain ⟨c, hc⟩ := cellsFrom_has (n := s.heap.objs.size + 1) (acc := []) (lookup_mem' (idxOf_lookup e))
    have hc : (callEnvC fd s.heap.objs.size a).cells.lookup y = some c := by
      show (cellsFrom (s.heap.objs.size + 1) fd.scope.names []).lookup y = some c
      rw [hnm]; exact hc
    have ne : c ≠ s.heap.objs.size := Nat.ne_of_gt (x.above y c (mem_of_lookup hc))
    refine ⟨c, hc, .inr ⟨y, hc⟩, ne, (if_neg ne).trans (if_pos ⟨y, hc⟩), _, x.cell y c hc, fun l hl => ?_⟩
    obtain ⟨v, h1, h2⟩ := val e hl
    exact ⟨v, bindC_get (by rw [hkind e]; decide) (by rw [hzl]; exact hn) h1, h2⟩
end

/-! THE PROGRAM'S OWN FUNCTIONS, FROM THEIR BODIES -/
/-- what calls may lean on, at a depth -/
structure Hy (S : Sta) (nd : Nat) : Prop where
  co : CallOk S (callN S.tab S.gc nd) nd
  no : NewOk S nd
  xm : ExcMk S nd
noncomputable def GSs (S : Sta) (names : Names) (lam : Bool) (b : List Stmt) (xs : List Mine.S) : Prop := ∀ nd, Hy S nd → SndSs S (callN S.tab S.gc nd) nd false names lam b xs
structure FnSt (S : Sta) (fn : Fn) (fd : FuncData) (lam : Bool) : Prop where
  gl : fd.globals = mainGlobals
  bl : fd.builtins = builtinsNs
  cl : fd.closure = []
  kf : fd.scope.kind = .function
  co : fd.scope.isCoroutine = false
  ge : fd.scope.isGenerator = false
  cr : S.B.CodeRec fd.code fd.qualname
  ps : plainPs fd.params = true
  df : fd.defaults = .none
  nd : (fd.params.args.map (·.arg)).Nodup
  pn : psOf fd.scope.names (fd.params.args.map (·.arg)) = some fn.ps
  sz : fn.size = fd.scope.names.length
  nf : NoFree fd.scope.names
  la : lam = true → fd.code = .ref S.lc ∧ (fd.qualname ++ ".<locals>.") ++ "<lambda>" = S.lq
inductive FnOk (S : Sta) (f : Nat) (fn : Fn) : Prop
  | mk (oc : Value) (od : Option Addr) (fd : FuncData) (osl : Array (Option Value)) (body : List Stmt) (lam : Bool) (at_ : S.B.get? (S.fa f) = some ⟨oc, od, .func fd, osl⟩) (bd : fd.body = .stmts body) (st : FnSt S fn fd lam) (so : GSs S fd.scope.names lam body fn.body)
section
variable {S : Sta} {nd : Nat}
theorem nmOf_glob {cx : Cx} (hcs : cx.cs = none) {x : Str} (h : nmOf cx x = some .g) : ∃ i, idxOf cx.fn x 0 = some (i, .globalImplicit) := by
  obtain ⟨i, k, e, q⟩ := nmOf_0 hcs h
  cases k <;> cases q
  exact ⟨i, e⟩
theorem inv_tail {env' : Env} {fr : List Env} {g : Gh} {σ : Hp} {h : Heap} (I : Inv S (env' :: fr) g σ h) : Inv S fr g σ h :=
  ⟨I.stays, I.bfz, I.ot, I.num, I.mu, I.km, I.inj, ⟨I.fr.1.2.2, fun L hm => I.fr.2 L (by
    rw [List.filterMap_cons]
    split
    · exact hm
    · exact .tail _ hm)⟩, I.tb⟩
theorem call_top (ok : StaOk3 S) (tabs : ∀ f fn, S.tab f = some fn → FnOk S f fn) (hy : Hy S nd) {f : Nat} {A : Around} {fr : List Env} {g : Gh} {σ : Hp} {s : Shared} {K : KV} {E : KE} {as : List Loc} {vs : List Value}
    (chn : A.handled = none) (cfr : A.frames = some fr) (cgd : A.guards = some []) (cdp : A.depth + (nd + 1) + 10 < recursionLimit) (cun : A.units + 16 * (nd + 1) + 300 < cLine) (I : Inv S fr g σ s.heap) (r : LRs S s.heap g vs as) (f0 : f ≠ 0) (h : callN S.tab S.gc (nd + 1) f as σ K E) :
    wpAny S.M A (call (.ref (S.fa f)) vs []) (Ok S fr No (RV S) g s K) (Er S fr No false g s E) s := by
  cases f with
  | zero => exact absurd rfl f0
  | succ f =>
  have h : need (S.tab (f + 1)) fun fn => need (putPs fn.ps as (List.replicate fn.size none)) fun m =>
      evSs (callN S.tab S.gc nd) S.gc fn.body m σ (fun fl _ σ' => match fl with
        | .ret v => K v σ'
        | .next => K (.pd .none) σ') E := h
  obtain ⟨fn, ht, h⟩ := need_some h
  obtain ⟨m0, hm, h⟩ := need_some h
  obtain ⟨oc, od, fd, osl, body, lam, k1, k2, ⟨k3, k4, k5, k6, k7, k8, k9, k10, k11, k12, k13, k14, k15, k17⟩, k16⟩ := tabs _ _ ht
  have X := kIn ok.toStaOk I
  have hlen : fd.params.args.length = vs.length := by
    have h1 := (psOf_get k13).1
    have h2 := (putPs_len hm).2
    have h3 := r.length
    simp only [List.length_map] at h1
    omega
  have hkinds : ∀ y ∈ (fd.params.args.map (·.arg)).zip vs, fd.scope.names.lookup y.1 = some .local ∨ (fd.scope.names.lookup y.1 = some .cell ∧ ((cellsFrom (s.heap.objs.size + 1) fd.scope.names []).lookup y.1).isSome = true) := fun y hy => by
    obtain ⟨i, k, h1, h2⟩ := psOf_kind k13 y.1 (List.of_mem_zip hy).1
    rcases h2 with rfl | rfl
    · exact .inl (idxOf_lookup h1)
    · refine .inr ⟨idxOf_lookup h1, ?_⟩
      obtain ⟨cc, hc⟩ := cellsFrom_has (n := s.heap.objs.size + 1) (acc := []) (lookup_mem' (idxOf_lookup h1))
      rw [hc]; rfl
  refine wpAny_call (codeAny_call_cells (by omega) (I.stays _ _ k1) rfl (ok.nolimit.keeps fun b o e => I.stays b o e) (k9.keeps fun b o e => I.stays b o e) k2 (bind_plain k10 k11 k12 hlen) k5 hkinds (fun s1 x => ?_) k7 k8 k6)
  rw [k14] at hm
  obtain ⟨E1, I1, z1, fresh⟩ := enter I x k6
  have V1 := entered rfl I r k13 k12 hlen hm k6 x
  generalize hE' : callEnvC fd s.heap.objs.size (S.fa (f + 1)) = env' at E1 I1 V1 fresh x ⊢
  have ekf : env'.scope.kind = .function := by rw [← hE']; exact k6
  have act : Act S (S.at fd.scope.names none lam) (A.deeper env') env' env' fr s.heap.objs.size nd false := by
    refine ⟨fun _ => chn, ?_, ?_, ?_, cgd, ?_, ?_, ekf, by rw [← hE']; exact k3, by rw [← hE']; exact k4, fun y hy => ?_, fun hl => ?_⟩
    · show A.frames.map (env' :: ·) = _
      rw [cfr]; rfl
    · rw [← hE']; rfl
    · rw [← hE']; rfl
    · show A.depth + 1 + nd + 10 < _; omega
    · show A.units + 3 + 16 * nd + 300 < _; omega
    · obtain ⟨i, hi⟩ := nmOf_glob rfl hy
      unfold Env.kindOf
      rw [V1.nm]; exact idxOf_lookup hi
    · obtain ⟨h1, h2⟩ := k17 hl
      rw [← hE']; exact ⟨h1, h2⟩
  refine wpAny_mono (k16 nd hy (A.deeper env') env' fr s.heap.objs.size _ m0 σ _ s1 _ E act k15 I1 V1 h) (fun fl s2 hok => ?_) (fun e s2 her => ?_)
  · obtain ⟨fl', m2, σ2, g2, h2, e2, i2, v2, r2, z2⟩ := hok
    have EE : Ext No g g2 s.heap s2.heap := (E1.no.trans e2).drop fun b o yb e => (fresh b o (by rw [← hE'] at yb ⊢; exact yb) e).elim
    cases fl <;> cases fl' <;> first
      | exact r2.elim
      | exact h2.elim
      | exact ⟨_, σ2, g2, h2, EE, inv_tail i2, r2, z1.trans z2⟩
      | exact ⟨_, σ2, g2, h2, EE, inv_tail i2, .pd .none, z1.trans z2⟩
  · obtain ⟨exc, σ2, g2, ea, tr, rfl, _, hE, e2, i2, x2, z2⟩ := her
    refine wpAny_leave act.frames act.fL i2 x2 fun g3 h3 i3 e3 x3 => ?_
    have EE : Ext No g g3 s.heap h3 := ((E1.no.trans e2).trans e3.no).drop fun b o yb e => (fresh b o (by rw [← hE'] at yb ⊢; exact yb) e).elim
    exact ⟨exc, σ2, g3, ea, true, rfl, nofun, hE, EE, inv_tail i3, x3, z1.trans ⟨z2.1, z2.2.1, z2.2.2⟩⟩
theorem call_fn (ok : StaOk3 S) (tabs : ∀ f fn, S.tab f = some fn → FnOk S f fn) (hy : Hy S nd) {f : Nat} {A : Around} {env : Env} {outer : List Env} {L : Addr} {g : Gh} {σ : Hp} {s : Shared} {K : KV} {E : KE} {as : List Loc} {vs : List Value}
    (c : CallAt A env outer L (nd + 1)) (I : Inv S (env :: outer) g σ s.heap) (r : LRs S s.heap g vs as) (f0 : f ≠ 0) (h : callN S.tab S.gc (nd + 1) f as σ K E) :
    wpAny S.M A (call (.ref (S.fa f)) vs []) (Ok S (env :: outer) No (RV S) g s K) (Er S (env :: outer) No false g s E) s := call_top ok tabs hy c.hn c.frames c.guards c.depth c.units I r f0 h
end

/-! CALLS OF LAMBDAS -/
theorem idxOf_map {f : Str → NameKind} {x : Str} {rest : Names} : ∀ {fn : Names} {k i : Nat} {kd : NameKind}, idxOf (fn.map (fun p => (p.1, f p.1)) ++ rest) x k = some (i, kd) → (∃ kf, idxOf fn x k = some (i, kf) ∧ kd = f x) ∨ ∃ j, idxOf rest x j = some (i, kd)
  | [], k, i, kd, h => .inr ⟨k, h⟩
  | (a, c) :: r, k, i, kd, h => by
    rw [List.map_cons, List.cons_append] at h
    have hu : ∀ {kf}, idxOf ((a, c) :: r) x k = some (i, kf) ↔ (if a = x then some (k, c) else idxOf r x (k + 1)) = some (i, kf) := Iff.rfl
    unfold idxOf at h
    split at h
    · rename_i e; cases h; subst e
      exact .inl ⟨c, hu.mpr (by rw [if_pos rfl]), rfl⟩
    · rename_i e
      rcases idxOf_map h with ⟨kf, h1, h2⟩ | h
      · exact .inl ⟨kf, hu.mpr (by rw [if_neg e]; exact h1), h2⟩
      · exact .inr h
theorem idxOf_mem : ∀ {names : Names} {x : Str} {k i : Nat} {kd : NameKind}, idxOf names x k = some (i, kd) → (x, kd) ∈ names
  | [], x, k, i, kd, h => by cases h
  | (a, c) :: r, x, k, i, kd, h => by
    unfold idxOf at h
    split at h
    · rename_i e; cases h; subst e; exact .head _
    · exact .tail _ (idxOf_mem h)
theorem lam_idx {fn lam : Names} {x : Str} {i : Nat} {kd : NameKind} (h : idxOf (lamNames fn lam) x 0 = some (i, kd)) :
    (kd = .free → (∃ kf, idxOf fn x 0 = some (i, kf)) ∧ lam.lookup x = some .free) ∧ (kd = .globalImplicit → lam.lookup x = some .globalImplicit) ∧ kd ≠ .local ∧ kd ≠ .cell := by
  unfold lamNames at h
  rcases idxOf_map (f := fun y => match idxOf lam y 0 with | some (_, .free) => .free | some (_, .globalImplicit) => .globalImplicit | _ => .globalExplicit) h with ⟨kf, h1, h2⟩ | ⟨j, hj⟩
  · split at h2
    · rename_i e
      subst h2
      exact ⟨fun _ => ⟨⟨kf, h1⟩, idxOf_lookup e⟩, nofun, nofun, nofun⟩
    · rename_i e
      subst h2
      exact ⟨nofun, fun _ => idxOf_lookup e, nofun, nofun⟩
    · subst h2
      exact ⟨nofun, nofun, nofun, nofun⟩
  · have := idxOf_mem hj
    obtain ⟨h1, h2⟩ := List.mem_filter.mp this
    simp only [Bool.and_eq_true, beq_iff_eq] at h2
    obtain ⟨rfl, h3⟩ := h2
    exact ⟨nofun, fun _ => h3, nofun, nofun⟩
theorem unsnap_get {m : List (Option V)} {i : Nat} {l : Loc} (h : (unsnap m)[i]? = some (some l)) : ∃ y, l = .v y ∧ m[i]? = some (some y) := by
  unfold unsnap at h
  rw [List.getElem?_map] at h
  exact map_e h fun o h1 h2 => map_e h2 fun y h3 h4 => ⟨y, h4.symm, h3 ▸ h1⟩
section
variable {S : Sta} {nd : Nat}
theorem not_t {b : Bool} (h : (!b) = true) : b = false := by cases b <;> first | rfl | cases h
theorem bnd_some {α β : Type} {P : α → Prop} {o : Option {a : α // P a}} {k : ∀ a, P a → Option β} {b : β} (h : bnd o k = some b) : ∃ a h, k a h = some b := by
  cases o with
  | none => cases h
  | some a => exact ⟨a.1, a.2, h⟩
theorem opt_some {α β : Type} {o : Option α} {k : ∀ a, o = some a → Option β} {b : β} (h : opt o k = some b) : ∃ a h, k a h = some b := by
  cases o with
  | none => cases h
  | some a => exact ⟨a, rfl, h⟩
theorem chk_some {β : Type} {c : Bool} {k : c = true → Option β} {b : β} (h : chk c k = some b) : ∃ h, k h = some b := by
  cases c with
  | false => cases h
  | true => exact ⟨rfl, h⟩
theorem dX_star {cx : Cx} {n : Nat} {e : PySem.Expr} {x : X} (h : dX cx n e = some x) : isStar e = false := by
  cases e <;> first | rfl | (cases n <;> cases h)
theorem dXs_snd {G : CallS} {cx : Cx} {hd : Bool} {n : Nat} (hf : ∀ {e x}, dX cx n e = some x → SndX S G nd hd cx e x) {es : List PySem.Expr} : ∀ {xs : List X}, optAll (dX cx n) es = some xs → SndXs S G nd hd cx es xs := by
  induction es with
  | nil => intro xs h; cases h; exact snd_nil
  | cons e r ih =>
    intro xs h
    obtain ⟨x, h1, h⟩ := opt_some h
    obtain ⟨l, h2, h⟩ := opt_some h
    cases h
    exact snd_cons (hf h1) (ih h2) (dX_star h1)
theorem dX_snd (ok : StaOk2 S) {G : CallS} {fn : Names} {cs : Option Names} {lam hd : Bool} : ∀ (n : Nat) {e : PySem.Expr} {x : X}, dX (S.at fn cs lam) n e = some x → SndX S G nd hd (S.at fn cs lam) e x
  | 0, e, x, h => by cases h
  | n + 1, e, x, h => by
    cases e
    case Constant c k p => exact snd_const h
    case Name y p => exact snd_name ok h
    case Tuple es c p =>
      obtain ⟨xs, h1, h⟩ := opt_some h
      cases h
      exact snd_tup (dXs_snd (dX_snd ok n) h1)
    all_goals cases h
theorem lam_snd (ok : StaOk3 S) (k2 : KOk2 S) (hy : Hy S nd) {fn : Names} {cs : Option Names} {lam : Bool} {e : PySem.Expr} {x : X} (h : lamX (S.at fn cs lam) e = some x) : SndX S (callN S.tab S.gc nd) nd false (S.at fn cs lam) e x := by
  unfold lamX at h
  obtain ⟨c, hc, h⟩ := bnd_some h
  obtain ⟨a, ha, h⟩ := bnd_some h
  obtain ⟨d, hd, h⟩ := bnd_some h
  obtain ⟨y, hy', h⟩ := bnd_some h
  obtain ⟨z, hz, h⟩ := bnd_some h
  obtain ⟨nm, hn, h⟩ := opt_some h
  obtain ⟨hg, h⟩ := chk_some h
  obtain ⟨he, h⟩ := chk_some h
  obtain ⟨hp, h⟩ := chk_some h
  obtain ⟨hs, h⟩ := chk_some h
  obtain ⟨f, hf, h⟩ := opt_some h
  obtain ⟨o, ho, h⟩ := opt_some h
  obtain ⟨l, hl, h⟩ := opt_some h
  cases h
  have hg' : nm = Nm.g := by cases nm <;> first | rfl | cases hg
  subst hg'
  have he := of_decide_eq_true he
  rw [he] at hn hy'
  rw [Bool.and_eq_true] at hp hs
  rw [hc, ha, hd, hy', hz]
  exact snd_meth ok k2 hy.co hf rfl hp.1 (of_decide_eq_true hp.2) hs.1 (snd_new ok k2 hy.no hn (not_t hs.2) (dX_snd ok.toStaOk2 9 ho)) (dXs_snd (dX_snd ok.toStaOk2 9) hl) (by rintro q; rw [q] at hl; cases hl; rfl)
open Classical in
theorem call_lam (ok : StaOk3 S) (k2 : KOk2 S) (hy : Hy S nd) {f : Addr} {A : Around} {env : Env} {outer : List Env} {L : Addr} {g : Gh} {σ : Hp} {s : Shared} {K : KV} {E : KE} {b : X} {m : List (Option V)}
    (c : CallAt A env outer L (nd + 1)) (I : Inv S (env :: outer) g σ s.heap) (r : LamAt S No s.heap g f b m) (h : callN S.tab S.gc (nd + 1) 0 [.lam b m] σ K E) :
    wpAny S.M A (call (.ref f) [] []) (Ok S (env :: outer) No (RV S) g s K) (Er S (env :: outer) No false g s E) s := by
  have h : evX (callN S.tab S.gc nd) S.gc (unsnap m) [] b σ K E := h
  obtain ⟨o, fd, fn, e, h1, h2, h3, ⟨h4, hdf, h5, h6, h7, h8, h9, h10, h11, h12⟩, ⟨cc, oc, vs, t, c1, c2, c3, c4, c5⟩, h13⟩ := id r
  have hbind : bindArgs fd ⟨[], []⟩ = pure [] := by
    have := bind_plain (fd := fd) (vs := []) (by rw [h4]; rfl) hdf (by rw [h4]; exact List.nodup_nil) (by rw [h4]; rfl)
    rw [this, h4]; rfl
  refine wpAny_call (kla_callFunE (by have := c.depth; omega) h2 h3 h10 h9 h5 ⟨cc, oc, vs, t, c1, c3, c4, c5⟩ ?_)
  rw [hbind]
  refine wpAny_pure (wpAny_newFunctionEnv h12 (by intro y hy; simp at hy) (fun h' hns hsb => ?_) h8)
  simp only [Option.isSome_none, Bool.false_eq_true, if_false] at hsb
  have kp : ∀ b o, s.heap.get? b = some o → h'.get? b = some o := fun b o e => hsb.extBut b o (Nat.ne_of_lt (Heap.lt_size e)) (Heap.get?_push_of_some _ e)
  refine ⟨ok.nolimit.keeps fun b o e => kp _ _ (I.stays b o e), kla_codeExpr ?_⟩
  have hn : s.heap.get? s.heap.objs.size = none := Heap.get?_none_of_le (Nat.le_refl _)
  obtain ⟨oL, hoL, hdL⟩ := ns_at hns
  obtain ⟨I1, E1⟩ := I.new (k := .fr) kp hn hoL
  generalize hE' : newEnv fd.scope s.heap.objs.size fd.globals fd.closure (fd.qualname ++ ".<locals>.") (some f) fd.code none fd.builtins = env'
  have ekf : env'.scope.kind = .function := by rw [← hE']; exact h8
  have esc : env'.scope = fd.scope := by rw [← hE']; rfl
  have ecl : env'.cells = fd.closure := by rw [← hE']; rfl
  have I2 : Inv S (env' :: env :: outer) (g.put s.heap.objs.size .fr) σ h' := by
    refine ⟨I1.stays, I1.bfz, I1.ot, I1.num, I1.mu, I1.km, I1.inj, ⟨⟨by rw [ekf]; decide, ⟨s.heap.objs.size, oL, by rw [← hE']; rfl, Heap.get?_none_of_le (Nat.zero_le _), hoL, hdL⟩, I1.fr.1⟩, fun L' hm => ?_⟩, I1.tb⟩
    have hfr : env'.frame = some s.heap.objs.size := by rw [← hE']; rfl
    rw [List.filterMap_cons, hfr] at hm
    rcases List.mem_cons.mp hm with rfl | hm
    · exact if_pos rfl
    · exact I1.fr.2 L' hm
  have act : Act S (S.at (lamNames fn fd.scope.names) none) (A.deeper env') env' env' (env :: outer) s.heap.objs.size nd false := by
    refine ⟨fun _ => c.hn, ?_, by rw [← hE']; rfl, by rw [← hE']; rfl, c.guards, ?_, ?_, ekf, by rw [← hE']; exact h6, by rw [← hE']; exact h7, fun y hy => ?_, nofun⟩
    · show A.frames.map (env' :: ·) = _
      rw [c.frames]; rfl
    · have := c.depth; show A.depth + 1 + nd + 10 < _; omega
    · have := c.units; show A.units + 3 + 16 * nd + 300 < _; omega
    · obtain ⟨i, hi⟩ := nmOf_glob rfl hy
      unfold Env.kindOf
      rw [esc]; exact (lam_idx hi).2.1 rfl
  have rd : Rd S (S.at (lamNames fn fd.scope.names) none) env' No h' (g.put s.heap.objs.size .fr) (unsnap m) [] := by
    have r1 := r.mono (E1.no (X := No))
    refine ⟨fun x i hx l hl => ?_, fun x i hx l hl => by simp at hl, fun _ x i hi => absurd rfl (lam_idx hi).2.2.2⟩
    obtain ⟨j, k, e, hx⟩ := nmOf_0 rfl hx
    cases k with
    | «local» => exact absurd rfl (lam_idx e).2.2.1
    | cell => exact absurd rfl (lam_idx e).2.2.2
    | free =>
      cases hx
      obtain ⟨⟨kf, hfn⟩, hlk⟩ := (lam_idx e).1 rfl
      obtain ⟨y, rfl, hy⟩ := unsnap_get hl
      obtain ⟨cl, oc', q1, q2, q3, q4, q5⟩ := h13 x _ hfn hlk
      obtain ⟨w, ⟨o', w1, w2⟩, w3⟩ := q5 y hy
      refine ⟨w, .inr ⟨cl, .inr ?_, by rw [ecl]; exact q1, (E1.kind _ _ q4).trans q2, ⟨o', kp _ _ w1, w2⟩⟩, .v (w3.mono E1.up)⟩
      unfold Env.kindOf
      rw [esc]; exact hlk
    | _ => cases hx
  refine wpAny_mono (lam_snd ok k2 hy h11 (A.deeper env') env' env' (env :: outer) s.heap.objs.size No (unsnap m) [] σ _ _ K E act I2 rd h) (fun v s2 ⟨d, σ2, g2, k2, e2, i2, r2, z2⟩ => ?_) (fun e s2 ⟨exc, σ2, g2, ea, tr, he, _, hE, e2, i2, x2, z2⟩ => ?_)
  · exact ⟨d, σ2, g2, k2, E1.trans e2, inv_tail i2, r2, ⟨z2.1, z2.2.1, z2.2.2⟩⟩
  · subst he
    refine wpAny_leave act.frames act.fL i2 x2 fun g3 h3 i3 e3 x3 => ?_
    exact ⟨exc, σ2, g3, ea, true, rfl, nofun, hE, (E1.trans e2).trans e3, inv_tail i3, x3, ⟨z2.1, z2.2.1, z2.2.2⟩⟩
end

/-! FROM THE GIVEN TERM TO THE LITTLE LANGUAGE, WITH ITS SOUNDNESS -/
section
variable {S : Sta} {G : CallS} {nd : Nat} {hd : Bool} {cx : Cx}
theorem Sn2.plain {es : List PySem.Expr} {xs : List X} (h : Sn2 S G nd hd cx es xs) : es.all (fun e => !isStar e) = true ∧ (es = [] → xs = []) ∧ es.length = xs.length := by
  induction h with
  | nil => exact ⟨rfl, fun _ => rfl, rfl⟩
  | cons _ _ hs _ ih => exact ⟨by rw [List.all_cons, hs, ih.1]; rfl, nofun, by simp [ih.2.2]⟩
theorem snd_ty (ok : StaOk3 S) {t : Str} {n : String} {q : Pos} (ht : tyOf t = some n) (hg : nmOf cx t = some .g) : SndX S G nd hd cx (.Name t q) (.ty n) := by
  intro A env ev outer L Y m mc σ g s K E a I rd h
  replace h := eq_evX_4 h
  obtain ⟨h1, h2⟩ := ty_val ok ht
  exact eval_builtin a ok.toStaOk I.stays hg h1 h2 (Ok.here (K := K) h ⟨I, .refl _ _ _⟩ (.ty n) (.refl _))
theorem snd_isi (ok : StaOk3 S) {q qt pos : Pos} {e : PySem.Expr} {x : X} {t : Str} {n : String} (hg : nmOf cx (Str.ofString "isinstance") = some .g) (ht : tyOf t = some n) (hgt : nmOf cx t = some .g) (hs : isStar e = false) (hx : SndX S G nd false cx e x) :
    SndX S G nd false cx (.Call (.Name (Str.ofString "isinstance") q) [e, .Name t qt] [] pos) (.prim .isi [x, .ty n]) := by
  intro A env ev outer L Y m mc σ g s K E a I rd h
  replace h := eq_evX_25 h
  obtain ⟨h1, h2⟩ := own_val ok (x := Str.ofString "isinstance") (v := .builtin "isinstance") (.head _)
  rw [arm_eval_Call_Name']
  refine wpAny_bind (eval_builtin a ok.toStaOk I.stays hg h1 h2 ?_)
  refine call_road (by rw [List.all_cons, hs]; rfl) (snd_cons hx (snd_cons (snd_ty ok ht hgt) snd_nil rfl) hs) a I rd (P := fun _ => True) (keeps_plain (by nofun)) h (by nofun) fun vs ds σ1 g1 s1 h1 e1 i1 r1 z1 => ⟨trivial, ?_⟩
  exact fromE e1 z1 (wpAny_mono (prim_ok (p := .isi) ok.toStaOk a.room (a.hn rfl) i1 r1 h1) (fun _ _ x => x.trans e1 z1) fun _ _ x => x)
theorem ks_of {ks : List (Option PySem.Expr)} : ∀ {k : List Str} {es : List PySem.Expr} {xs : List X}, keysC ks = some k → Sn2 S G nd hd cx es xs → k.length = xs.length → SndKs S G nd hd cx ks es (k.zip xs) ∧ ks.all (·.isSome) = true ∧ ks.length = k.length := by
  induction ks with
  | nil =>
    intro k es xs h s2 hl
    simp [keysC] at h; subst h
    cases s2 with
    | nil => exact ⟨ks_nil, rfl, rfl⟩
    | cons => simp at hl
  | cons o r ih =>
    intro k es xs h s2 hl
    obtain ⟨c, h0, h1⟩ := Option.bind_eq_some_iff.mp h
    obtain ⟨e, rfl, h3⟩ := Option.bind_eq_some_iff.mp h0
    obtain ⟨_, _, rfl⟩ := asK_eq h3
    obtain ⟨s, h2, h4⟩ := Option.bind_eq_some_iff.mp h1
    obtain ⟨k', hk, rfl⟩ := Option.map_eq_some_iff.mp h4
    cases c <;> cases h2
    cases s2 with
      | nil => simp at hl
      | cons hx _ _ hr =>
        obtain ⟨i1, i2, i3⟩ := ih hk hr (by simpa using hl)
        exact ⟨ks_cons hx i1, by simp [i2], by simp [i3]⟩
end
noncomputable def two? {α : Type} (l : List α) : Option {p : α × α // l = [p.1, p.2]} := match l with
  | [a, b] => some ⟨(a, b), rfl⟩
  | _ => none
noncomputable def nil? {α : Type} (l : List α) : Option {u : Unit // l = []} := match l with
  | [] => some ⟨(), rfl⟩
  | _ => none
noncomputable def asSlice (e : PySem.Expr) : Option {p : Option PySem.Expr × Option PySem.Expr × Option PySem.Expr × Pos // e = .Slice p.1 p.2.1 p.2.2.1 p.2.2.2} := match e with
  | .Slice a b c p => some ⟨(a, b, c, p), rfl⟩
  | _ => none
noncomputable def asTup (e : PySem.Expr) : Option {p : List PySem.Expr × Nat × Pos // e = .Tuple p.1 p.2.1 p.2.2} := match e with
  | .Tuple a b p => some ⟨(a, b, p), rfl⟩
  | _ => none
noncomputable def asSub (e : PySem.Expr) : Option {p : PySem.Expr × PySem.Expr × Pos // e = .Subscript p.1 p.2.1 p.2.2} := match e with
  | .Subscript a b p => some ⟨(a, b, p), rfl⟩
  | _ => none
noncomputable def asLC (e : PySem.Expr) : Option {p : PySem.Expr × List Comprehension × Scope × Pos // e = .ListComp p.1 p.2.1 p.2.2.1 p.2.2.2} := match e with
  | .ListComp a b c p => some ⟨(a, b, c, p), rfl⟩
  | _ => none
noncomputable def asLam (e : PySem.Expr) : Option {p : Arguments × PySem.Expr × Scope × Pos // e = .Lambda p.1 p.2.1 p.2.2.1 p.2.2.2} := match e with
  | .Lambda a b c p => some ⟨(a, b, c, p), rfl⟩
  | _ => none
noncomputable def asStr (e : PySem.Expr) : Option {p : Str × Nat × Pos // e = .Constant (.str p.1) p.2.1 p.2.2} := match e with
  | .Constant c k p => match c with
    | .str x => some ⟨(x, k, p), rfl⟩
    | _ => none
  | _ => none
noncomputable def asConst (e : PySem.Expr) : Option {p : Const × Nat × Pos // e = .Constant p.1 p.2.1 p.2.2} := match e with
  | .Constant c k p => some ⟨(c, k, p), rfl⟩
  | _ => none
noncomputable def asFmt (e : PySem.Expr) : Option {p : PySem.Expr × Pos // e = .FormattedValue p.1 (-1) none p.2} := match e with
  | .FormattedValue v i o p => match o with
    | none => if h : i = -1 then some ⟨(v, p), by rw [h]⟩ else none
    | _ => none
  | _ => none
noncomputable def isLamX : X → Bool
  | .lam .. => true
  | _ => false
section
variable (S : Sta)
noncomputable def GX (cx : Cx) (e : PySem.Expr) (x : X) : Prop := ∀ nd, Hy S nd → SndX S (callN S.tab S.gc nd) nd false cx e x ∧ SndT S (callN S.tab S.gc nd) nd false cx e x
noncomputable def GXs (cx : Cx) (es : List PySem.Expr) (xs : List X) : Prop := ∀ nd, Hy S nd → Sn2 S (callN S.tab S.gc nd) nd false cx es xs
noncomputable def GAs (cx : Cx) (es : List PySem.Expr) (xs : List X) : Prop := ∀ nd, Hy S nd → SndAs S (callN S.tab S.gc nd) nd false cx es xs ∧ es.all (fun e => !isStar e) = true ∧ (es = [] → xs = [])
noncomputable def GPs (cx : Cx) (es : List PySem.Expr) (xs : List X) : Prop := ∀ nd, Hy S nd → Parts S (callN S.tab S.gc nd) nd false cx es xs
noncomputable def GS (names : Names) (lam : Bool) (s : Stmt) (x : Mine.S) : Prop := ∀ nd, Hy S nd → SndS S (callN S.tab S.gc nd) nd false names lam s x
/-- a comprehension -/
structure LcOk (fn : Names) (lam : Bool) (el te it : PySem.Expr) (ifs : List PySem.Expr) (sc : Scope) (t : Tg) (xe xi : X) (xc : Option X) : Prop where
  ok : compOk fn sc = true
  se : kindE it ≠ 3
  tg : TgOk S sc.names te t
  it : GX S (S.at fn none lam) it xi
  el : GX S (S.at fn (some sc.names)) el xe
  cc : ∀ nd, Hy S nd → IfsOk S (callN S.tab S.gc nd) nd (S.at fn (some sc.names)) ifs xc
end
section
variable {S : Sta} {cx : Cx} {e : PySem.Expr} {x : X}
theorem GX.of (h : ∀ nd, Hy S nd → SndX S (callN S.tab S.gc nd) nd false cx e x) (ht : ∀ ev whole, isTrue e ev whole = (do let v ← whole; standAt e.pos; holding [v] (truthy v))) : GX S cx e x := fun nd y => ⟨h nd y, sndt_of (h nd y) ht⟩
theorem GAs.cons {es : List PySem.Expr} {xs : List X} (hs : (!isStar e) = true) (hl : (!isLamX x) = true) (hx : GX S cx e x) (hr : GAs S cx es xs) : GAs S cx (e :: es) (x :: xs) := fun nd y =>
  ⟨sas_cons (hx nd y).1 (hr nd y).1 (not_t hs) (by rintro b v rfl; cases hl), by rw [List.all_cons, (hr nd y).2.1, hs]; rfl, nofun⟩
theorem GX.dct (ok : StaOk S) {ks : List (Option PySem.Expr)} {es : List PySem.Expr} {k : List Str} {xs : List X} {b : Bool} {pos : Pos} (h1 : keysC ks = some k) (h2 : GXs S cx es xs) (hl : decide (k.length = xs.length ∧ k.length ≤ 15 ∧ 0 < k.length) = true) : GX S cx (.Dict ks es pos) (.dct b (k.zip xs)) :=
  .of (fun nd y => by
    obtain ⟨l1, l2, l3⟩ := of_decide_eq_true hl
    have s2 := h2 nd y
    obtain ⟨i1, i2, i3⟩ := ks_of h1 s2 l1
    exact snd_dct ok i2 (by rw [i3, l1, s2.plain.2.2]) (by rintro rfl; rw [← i3] at l3; exact absurd l3 (Nat.lt_irrefl 0)) (i3 ▸ l2) i1) fun _ _ => rfl
theorem GX.comp (ok : StaOk S) {fn : Names} {lam : Bool} {el te it : PySem.Expr} {ifs : List PySem.Expr} {sc : Scope} {t : Tg} {xe xi : X} {xc : Option X} {b : Bool} {p : Pos} (h : LcOk S fn lam el te it ifs sc t xe xi xc) : GX S (S.at fn none lam) (.ListComp el [⟨te, it, ifs, 0⟩] sc p) (.comp b xe t xi xc) :=
  .of (fun nd y => snd_comp ok rfl h.ok (fun ev w => fold_plain h.se ev w) h.tg (h.it nd y).1 (h.el nd y).1 (h.cc nd y)) fun _ _ => rfl
theorem sub_kind {i : PySem.Expr} (h : kindE i ≠ 5) : ∀ o j, subscripted i false o j = operate [o, j] (getItem o j) := by
  intro o j
  cases i <;> first | rfl | exact absurd rfl h
theorem isG_eq {m : Nm} (h : isG m = true) : m = Nm.g := by cases m <;> first | rfl | cases h
theorem ne_of_chk {a b : Nat} (h : (a != b) = true) : a ≠ b := by simpa using h
end
section
variable {S : Sta} {cx : Cx}
noncomputable def xsOf (f : ∀ e, Option {x : X // GX S cx e x}) : ∀ es, Option {xs : List X // GXs S cx es xs}
  | [] => some ⟨[], fun _ _ => .nil⟩
  | e :: r => chk (!isStar e) fun hs => bnd (f e) fun x hx => bnd (xsOf f r) fun xs hr => some ⟨x :: xs, fun nd y => .cons (hx nd y).1 (hx nd y).2 (not_t hs) (hr nd y)⟩
noncomputable def psOfX (f : ∀ e, Option {x : X // GX S cx e x}) : ∀ es, Option {xs : List X // GPs S cx es xs}
  | [] => some ⟨[], fun _ _ => .nil⟩
  | e :: r => bnd (psOfX f r) fun xs hr => alt
    (bnd (asStr e) fun p hp => some ⟨.c (.str p.1) :: xs, fun nd y => hp ▸ .cons part_const (hr nd y)⟩)
    (bnd (asFmt e) fun p hp => bnd (f p.1) fun x hx => some ⟨x :: xs, fun nd y => hp ▸ .cons (part_val (hx nd y).1) (hr nd y)⟩)
noncomputable def asOf (ok : StaOk S) {fn : Names} {cs : Option Names} {lam : Bool} (f : ∀ e, Option {x : X // GX S (S.at fn cs lam) e x}) : ∀ es, Option {xs : List X // GAs S (S.at fn cs lam) es xs}
  | [] => some ⟨[], fun _ _ => ⟨sas_nil, rfl, fun _ => rfl⟩⟩
  | e :: r => bnd (asOf ok f r) fun xs hr => alt
    (bnd (asLam e) fun p hp => match cs, lam, xs, hr with
      | none, true, xs, hr => chk (noArgs p.1) fun h1 => chk (lamOk fn p.2.2.1) fun h2 => opt (lamX (S.at (lamNames fn p.2.2.1.names) none) p.2.1) fun x h3 =>
        some ⟨.lam x (visOf fn p.2.2.1.names 0) :: xs, fun nd y => hp ▸ ⟨sas_lam ok h1 h2 h3 (hr nd y).1, by rw [List.all_cons, (hr nd y).2.1]; rfl, nofun⟩⟩
      | _, _, _, _ => none)
    (chk (!isStar e) fun hs => bnd (f e) fun x hx => chk (!isLamX x) fun hl => some ⟨x :: xs, .cons hs hl hx hr⟩)
end
section
variable {S : Sta} (ok : StaOk3 S) (k2 : KOk2 S)
noncomputable abbrev FX (S : Sta) := ∀ (fn : Names) (cs : Option Names) (lam : Bool) (e : PySem.Expr), Option {x : X // GX S (S.at fn cs lam) e x}
/-- a comprehension's parts -/
structure Lc (S : Sta) (fn : Names) (lam : Bool) (el : PySem.Expr) (gs : List Comprehension) (sc : Scope) where
  te : PySem.Expr
  it : PySem.Expr
  ifs : List PySem.Expr
  t : Tg
  xe : X
  xi : X
  xc : Option X
  e : gs = [⟨te, it, ifs, 0⟩]
  h : LcOk S fn lam el te it ifs sc t xe xi xc
noncomputable def ifsX (f : FX S) (fn : Names) (ns : Names) (ifs : List PySem.Expr) : Option {xc : Option X // ∀ nd, Hy S nd → IfsOk S (callN S.tab S.gc nd) nd (S.at fn (some ns)) ifs xc} := alt
  (bnd (nil? ifs) fun _ h => some ⟨none, h ▸ fun _ _ => .no⟩)
  (bnd (one? ifs) fun c hc => bnd (f fn (some ns) false c) fun q hq => some ⟨some q, hc ▸ fun nd y => .yes (hq nd y).2⟩)
noncomputable def lcOf (f : FX S) (fn : Names) (lam : Bool) (el : PySem.Expr) (gs : List Comprehension) (sc : Scope) : Option (Lc S fn lam el gs sc) :=
  bnd (one? gs) fun g hg => match g, hg with
    | ⟨te, it, ifs, 0⟩, hg => chk (compOk fn sc) fun h1 => chk (kindE it != 3) fun h2 => bnd (tgX S sc.names 9 te) fun t h3 => bnd (f fn none lam it) fun xi h4 => bnd (f fn (some sc.names) false el) fun xe h5 => bnd (ifsX f fn sc.names ifs) fun xc h6 =>
      some ⟨te, it, ifs, t, xe, xi, xc, hg, ⟨h1, ne_of_chk h2, h3, h4, h5, h6⟩⟩
    | _, _ => none
noncomputable def callX (f : FX S) (fn : Names) (cs : Option Names) (lam : Bool) (y : Str) (q : Pos) (args : List PySem.Expr) (p : Pos) : Option {x : X // GX S (S.at fn cs lam) (.Call (.Name y q) args [] p) x} :=
  opt (nmOf (S.at fn cs lam) y) fun m hm => match m, hm with
    | .v i, hi => bnd (nil? args) fun _ h0 => some ⟨.lcall i, h0 ▸ .of (fun nd y => snd_lcall y.co hi) fun _ _ => rfl⟩
    | .g, hg => alt (opt (lookT S.cx.funs y) fun f0 hf => bnd (asOf ok.toStaOk (f fn cs lam) args) fun xs hx => some ⟨.call f0 xs, .of (fun nd y => snd_call ok k2 y.co hf hg (hx nd y).2.1 (hx nd y).1 (hx nd y).2.2) fun _ _ => rfl⟩)
      (alt (chk (decide (y = Str.ofString "Evaluator")) fun he => bnd (one? args) fun a ha => chk (!isStar a) fun hs => bnd (f fn cs lam a) fun x hx => some ⟨.new x, ha ▸ .of (fun nd w => by
          have he := of_decide_eq_true he
          subst he
          exact snd_new ok k2 w.no hg (not_t hs) (hx nd w).1) fun _ _ => rfl⟩)
      (alt (chk (decide (y = Str.ofString "isinstance")) fun he => bnd (two? args) fun a ha => bnd (asName a.2) fun t ht => opt (tyOf t.1) fun n hn => opt (nmOf (S.at fn cs lam) t.1) fun mt hmt => chk (isG mt) fun hgt => chk (!isStar a.1) fun hs => bnd (f fn cs lam a.1) fun x hx => some ⟨.prim .isi [x, .ty n], ha ▸ ht ▸ .of (fun nd w => by
          have he := of_decide_eq_true he
          subst he
          exact snd_isi ok hg hn (isG_eq hgt ▸ hmt) (not_t hs) (hx nd w).1) fun _ _ => rfl⟩)
        (opt (primOf y) fun q0 hq => bnd (xsOf (f fn cs lam) args) fun xs hx => some ⟨.prim q0 xs, .of (fun nd w => snd_prim ok hq hg (hx nd w).plain.1 (hx nd w).xs (hx nd w).plain.2.1) fun _ _ => rfl⟩)))
    | .w _, _ => none
noncomputable def methX (f : FX S) (fn : Names) (cs : Option Names) (lam : Bool) (o : PySem.Expr) (a : Str) (ap : Pos) (args : List PySem.Expr) (p : Pos) : Option {x : X // GX S (S.at fn cs lam) (.Call (.Attribute o a ap) args [] p) x} :=
  chk (baseOk o) fun h1 => chk (ap.endLine == p.line) fun h2 => chk (decide (args.length < 20)) fun h3 => bnd (f fn cs lam o) fun x hx => bnd (xsOf (f fn cs lam) args) fun xs hs =>
    alt (opt (lookT S.cx.meths a) fun f0 hf => some ⟨.meth f0 x xs, .of (fun nd w => snd_meth ok k2 w.co hf h1 h2 (of_decide_eq_true h3) (hs nd w).plain.1 (hx nd w).1 (hs nd w).xs (hs nd w).plain.2.1) fun _ _ => rfl⟩)
      (opt (lmOf a) fun q hq => some ⟨.lm q x xs, .of (fun nd w => snd_lm ok.toStaOk hq h1 h2 (of_decide_eq_true h3) (hs nd w).plain.1 (hx nd w).1 (hs nd w).xs (hs nd w).plain.2.1) fun _ _ => rfl⟩)
noncomputable def stepX (f : FX S) (fn : Names) (cs : Option Names) (lam : Bool) (e : PySem.Expr) : Option {x : X // GX S (S.at fn cs lam) e x} := match e with
  | .Constant c k p => opt (constX c) fun x h => some ⟨x, .of (fun _ _ => snd_const h) fun _ _ => rfl⟩
  | .Name y p => opt (nameX (S.at fn cs lam) y) fun x h => some ⟨x, .of (fun _ _ => snd_name ok.toStaOk2 h) fun _ _ => rfl⟩
  | .Tuple es c p => bnd (xsOf (f fn cs lam) es) fun xs h => some ⟨.tup xs, .of (fun nd y => snd_tup (h nd y).xs) fun _ _ => rfl⟩
  | .List es p => bnd (xsOf (f fn cs lam) es) fun xs h => some ⟨.lst (isMut S.cx p) xs, .of (fun nd y => snd_lst ok.sm (h nd y).xs) fun _ _ => rfl⟩
  | .Dict ks vs p => opt (keysC ks) fun k h1 => bnd (xsOf (f fn cs lam) vs) fun xs h2 => chk (decide (k.length = xs.length ∧ k.length ≤ 15 ∧ 0 < k.length)) fun hl => some ⟨.dct (isMut S.cx p) (k.zip xs), .dct ok.toStaOk h1 h2 hl⟩
  | .BinOp l o r p => opt (opOf o) fun o h => bnd (f fn cs lam l) fun a ha => bnd (f fn cs lam r) fun b hb => some ⟨.op o a b, .of (fun nd y => snd_bin (opsOk ok.toStaOk) h (ha nd y).1 (hb nd y).1) fun _ _ => rfl⟩
  | .UnaryOp o a p => bnd (f fn cs lam a) fun x h => match o with
    | .Not => some ⟨.not x, fun nd y => ⟨snd_not (h nd y).1, sndt_not (h nd y).2⟩⟩
    | .USub => some ⟨.neg x, .of (fun nd y => snd_neg (h nd y).1) fun _ _ => rfl⟩
    | _ => none
  | .BoolOp o es p => bnd (xsOf (f fn cs lam) es) fun xs h => opt (joinX o xs) fun x hj => some ⟨x, fun nd y => ⟨snd_boolOp (h nd y) hj, sndt_boolOp (h nd y) hj⟩⟩
  | .Compare l os rs p => bnd (f fn cs lam l) fun a ha =>
    (bnd (one? os) fun o ho => bnd (one? rs) fun r hr => chk (kindE r != 3) fun hk => bnd (f fn cs lam r) fun b hb => some ⟨.op (cmpOf o) a b, ho ▸ hr ▸ fun nd y => ⟨snd_cmp (opsOk ok.toStaOk) (cmp_marks (ne_of_chk hk) _) (ha nd y).1 (hb nd y).1, sndt_cmp (opsOk ok.toStaOk) (cmp_marks (ne_of_chk hk) _) (ha nd y).1 (hb nd y).1⟩⟩)
  | .IfExp t a b p => bnd (f fn cs lam t) fun xt ht => bnd (f fn cs lam a) fun xa ha => bnd (f fn cs lam b) fun xb hb => some ⟨.ite xt xa xb, fun nd y => ⟨snd_ifexp (ht nd y).2 (ha nd y).1 (hb nd y).1, sndt_ifexp (ht nd y).2 (ha nd y).2 (hb nd y).2⟩⟩
  | .JoinedStr ps p => bnd (psOfX (f fn cs lam) ps) fun xs h => some ⟨.fstr xs, .of (fun nd y => snd_fstr (h nd y)) fun _ _ => rfl⟩
  | .Subscript v i p => bnd (f fn cs lam v) fun a ha => alt
    (bnd (asSlice i) fun q hq =>
      (opt (intC q.1) fun lo h1 => opt (intC q.2.1) fun hi h2 => chk q.2.2.1.isNone fun h3 => some ⟨.slice a lo hi, hq ▸ .of (fun nd y => by
        rw [Option.isNone_iff_eq_none] at h3
        rw [h3]
        exact snd_slice (subOk ok.toStaOk ok.ko) h1 h2 (ha nd y).1) fun _ _ => rfl⟩))
    (chk (kindE i != 5) fun hk => bnd (f fn cs lam i) fun b hb => some ⟨.sub a b, .of (fun nd y => snd_sub (subOk ok.toStaOk ok.ko) (sub_kind (ne_of_chk hk)) (ha nd y).1 (hb nd y).1) fun _ _ => rfl⟩)
  | .Attribute o a p => bnd (asName o) fun q hq => alt
    (chk (decide (a = Str.ofString "scope")) fun he => opt (nameX (S.at fn cs lam) q.1) fun x h => some ⟨.scope x, hq ▸ .of (fun nd y => by
      have he := of_decide_eq_true he
      subst he
      exact snd_scope (subOk ok.toStaOk ok.ko) (snd_name ok.toStaOk2 h)) fun _ _ => rfl⟩)
    (opt (faultOf a) fun b h1 => opt (nmOf (S.at fn cs lam) q.1) fun m hm => match m, hm with
      | .v i, hi => some ⟨.fault i b, hq ▸ .of (fun nd y => snd_fault (subOk ok.toStaOk ok.ko) hi h1) fun _ _ => rfl⟩
      | _, _ => none)
  | .ListComp el gs sc p => match cs with
    | none => match lcOf f fn lam el gs sc with
      | some ⟨te, it, ifs, t, xe, xi, xc, he, h⟩ => some ⟨.comp (isMut S.cx p) xe t xi xc, he ▸ .comp ok.toStaOk h⟩
      | none => none
    | some _ => none
  | .Call g args kws p => bnd (nil? kws) fun _ h0 => alt
    (bnd (asName g) fun q hq => bnd (callX ok k2 f fn cs lam q.1 q.2 args p) fun x h => some ⟨x, h0 ▸ hq ▸ h⟩)
    (bnd (asAttr g) fun q hq => bnd (methX ok k2 f fn cs lam q.1 q.2.1 q.2.2 args p) fun x h => some ⟨x, h0 ▸ hq ▸ h⟩)
  | _ => none
noncomputable def toX : Nat → FX S
  | 0 => fun _ _ _ _ => none
  | n + 1 => stepX ok k2 (toX n)
end

/-! STATEMENTS -/
noncomputable def asRet (s : Stmt) : Option {p : PySem.Expr × Pos // s = .Return (some p.1) p.2} := match s with
  | .Return e p => match e with
    | some e => some ⟨(e, p), rfl⟩
    | none => none
  | _ => none
noncomputable def asAsg (s : Stmt) : Option {p : PySem.Expr × PySem.Expr × Pos // s = .Assign [p.1] p.2.1 p.2.2} := match s with
  | .Assign ts e p => bnd (one? ts) fun t ht => some ⟨(t, e, p), ht ▸ rfl⟩
  | _ => none
section
variable {S : Sta} (ok : StaOk3 S) (k2 : KOk2 S)
/-- what a handler's body is made of -/
noncomputable def simX (fn : Names) (lam : Bool) (e : PySem.Expr) : Option {x : X // ∀ nd, SndX S (callN S.tab S.gc nd) nd true (S.at fn none lam) e x} := alt
  (bnd (asConst e) fun p hp => opt (constX p.1) fun x h => some ⟨x, hp ▸ fun _ => snd_const h⟩)
  (bnd (asAttr e) fun a ha => bnd (asName a.1) fun q hq => opt (faultOf a.2.1) fun b h1 => opt (nmOf (S.at fn none lam) q.1) fun m hm => match m, hm with
    | .v i, hi => some ⟨.fault i b, by rw [ha, hq]; exact fun _ => snd_fault (subOk ok.toStaOk ok.ko) hi h1⟩
    | _, _ => none)
noncomputable def simXs (fn : Names) (lam : Bool) : ∀ es, Option {xs : List X // ∀ nd, SndXs S (callN S.tab S.gc nd) nd true (S.at fn none lam) es xs}
  | [] => some ⟨[], fun _ => snd_nil⟩
  | e :: r => chk (!isStar e) fun hs => bnd (simX ok fn lam e) fun x hx => bnd (simXs fn lam r) fun xs hr => some ⟨x :: xs, fun nd => snd_cons (hx nd) (hr nd) (not_t hs)⟩
noncomputable def bodyX (fn : Names) (lam : Bool) (b : Stmt) : Option {x : Mine.S // ∀ nd, SndSs S (callN S.tab S.gc nd) nd true fn lam [b] [x]} := alt
  (bnd (asRet b) fun p hp => bnd (asTup p.1) fun q hq => bnd (simXs ok fn lam q.1) fun xs hx => some ⟨.ret (.tup xs), by rw [hp, hq]; exact fun nd => ss_cons (s_ret (snd_tup (hx nd))) ss_nil⟩)
  (bnd (asAsg b) fun p hp => bnd (asName p.1) fun y hy => bnd (asTup p.2.1) fun q hq => opt (slotOf (S.at fn none lam) (.Name y.1 y.2)) fun i hi => bnd (simXs ok fn lam q.1) fun xs hx =>
    some ⟨.asg i (.tup xs), by rw [hp, hy, hq]; exact fun nd => ss_cons (s_asg (show (2 : Nat) ≠ 1 by decide) hi (snd_tup (hx nd))) ss_nil⟩)
noncomputable def limOf (x : Str) : Option {b : Bool // x = Str.ofString (if b then "LimitFault" else "EvalFault")} :=
  if h : x = Str.ofString "EvalFault" then some ⟨false, h⟩ else if h : x = Str.ofString "LimitFault" then some ⟨true, h⟩ else none
noncomputable def asOName (e : Option PySem.Expr) : Option {p : Str × Pos // e = some (.Name p.1 p.2)} := match e with
  | some e => bnd (asName e) fun p hp => some ⟨p, by rw [hp]⟩
  | none => none
noncomputable def asOCall (e : Option PySem.Expr) : Option {p : PySem.Expr × List PySem.Expr × Pos // e = some (.Call p.1 p.2.1 [] p.2.2)} := match e with
  | some e => bnd (asCall e) fun p hp => some ⟨p, by rw [hp]⟩
  | none => none
noncomputable def hsOf (fn : Names) (lam : Bool) : ∀ hs, Option {xs : List (Bool × Option Nat × List Mine.S) // ∀ nd, HsOk S (callN S.tab S.gc nd) nd fn lam hs xs}
  | [] => some ⟨[], fun _ => .nil⟩
  | .ExceptHandler t nm bs p :: r => bnd (hsOf fn lam r) fun xs hr => bnd (asOName t) fun y hy => bnd (one? bs) fun b hb => bnd (limOf y.1) fun lim hl => opt (nmOf (S.at fn none lam) y.1) fun m hm => chk (isG m) fun hg => bnd (bodyX ok fn lam b) fun xb hx => match nm with
    | none => some ⟨(lim, none, [xb]) :: xs, by rw [hy, hb]; exact fun nd => .no hl (isG_eq hg ▸ hm) (hx nd) (hr nd)⟩
    | some z => opt (idxOf fn z 0) fun k hk => match k, hk with
      | (i, .local), hk => some ⟨(lim, some i, [xb]) :: xs, by rw [hy, hb]; exact fun nd => .as hl (isG_eq hg ▸ hm) hk (hx nd) (hr nd)⟩
      | _, _ => none
noncomputable abbrev FS (S : Sta) := ∀ (names : Names) (lam : Bool) (s : Stmt), Option {x : Mine.S // GS S names lam s x}
noncomputable def ssOf (f : FS S) (names : Names) (lam : Bool) : ∀ b, Option {xs : List Mine.S // GSs S names lam b xs}
  | [] => some ⟨[], fun _ _ => ss_nil⟩
  | s :: r => bnd (ssOf f names lam r) fun xs hr => alt (bnd (f names lam s) fun x hx => some ⟨x :: xs, fun nd y => ss_cons (hx nd y) (hr nd y)⟩) (some ⟨.bad :: xs, fun nd y => ss_cons s_bad (hr nd y)⟩)
noncomputable def tryE (fx : FX S) (names : Names) (lam : Bool) (s : Stmt) : Option {x : Mine.S // ∀ nd, Hy S nd → SndE S (callN S.tab S.gc nd) nd names lam s x} := alt
  (bnd (asRet s) fun p hp => bnd (fx names none lam p.1) fun x hx => some ⟨.ret x, hp ▸ fun nd y => e_ret (hx nd y).1⟩)
  (bnd (asAsg s) fun p hp => bnd (asName p.1) fun q hq => chk (kindE p.2.1 != 1) fun hk => opt (slotOf (S.at names none lam) (.Name q.1 q.2)) fun i hi => bnd (fx names none lam p.2.1) fun x hx => some ⟨.asg i x, by rw [hp, hq]; exact fun nd y => e_asg (ne_of_chk hk) hi (hx nd y).1⟩)
noncomputable def asgX (fx : FX S) (names : Names) (lam : Bool) (t e : PySem.Expr) (p : Pos) : Option {x : Mine.S // GS S names lam (.Assign [t] e p) x} := alt
  (bnd (asName t) fun q hq => opt (slotOf (S.at names none lam) (.Name q.1 q.2)) fun i hi => alt
    (chk (kindE e != 1) fun hk => bnd (fx names none lam e) fun x hx => some ⟨.asg i x, hq ▸ fun nd y => s_asg (ne_of_chk hk) hi (hx nd y).1⟩)
    (bnd (asLC e) fun c hc => match lcOf fx names lam c.1 c.2.1 c.2.2.1 with
      | some ⟨te, it, ifs, t, xe, xi, xc, he, h⟩ => some ⟨.asg i (.comp (isMut S.cx c.2.2.2) xe t xi xc), by
          rw [hq, hc, he]
          exact fun nd y => s_asg_comp ok.toStaOk hi h.ok (fun ev w => fold_plain h.se ev w) h.tg (h.it nd y).1 (h.el nd y).1 (h.cc nd y)⟩
      | none => none))
  (alt (bnd (asTup t) fun q hq => opt (slotsOf (S.at names none lam) q.1) fun l hl => alt
    (bnd (asTup e) fun r hr => bnd (xsOf (fx names none lam) r.1) fun xs hx => chk (decide (l.length = r.1.length ∧ l.Nodup ∧ r.1.length ≤ 8 ∧ r.1.all (constantsAlone 8) = false)) fun hh => some ⟨.asgs l xs, by
      rw [hq, hr]
      have hh := of_decide_eq_true hh
      exact fun nd y => s_asgs hl hh.1 hh.2.1 hh.2.2.1 hh.2.2.2 (hx nd y).xs⟩)
    (chk (kindE e != 2) fun h2 => chk (kindE e != 1) fun h1 => bnd (fx names none lam e) fun x hx => some ⟨.unp l x, hq ▸ fun nd y => s_unp (ne_of_chk h2) (ne_of_chk h1) hl (hx nd y).1⟩))
  (bnd (asSub t) fun q hq => chk (kindE e != 1) fun hk => bnd (fx names none lam q.1) fun o ho => bnd (fx names none lam q.2.1) fun k hk' => bnd (fx names none lam e) fun x hx => some ⟨.seti o k x, hq ▸ fun nd y => s_seti ok.toStaOk (ne_of_chk hk) (ho nd y).1 (hk' nd y).1 (hx nd y).1⟩))
noncomputable def stepS (fx : FX S) (f : FS S) (names : Names) (lam : Bool) (s : Stmt) : Option {x : Mine.S // GS S names lam s x} := match s with
  | .Assign ts e p => bnd (one? ts) fun t ht => bnd (asgX ok fx names lam t e p) fun x hx => some ⟨x, ht ▸ hx⟩
  | .Expr e p => chk (kindE e != 1) fun hk => bnd (fx names none lam e) fun x hx => some ⟨.ex x, fun nd y => s_ex (ne_of_chk hk) (hx nd y).1⟩
  | .Return e p => match e with
    | some e => bnd (fx names none lam e) fun x hx => some ⟨.ret x, fun nd y => s_ret (hx nd y).1⟩
    | none => none
  | .If t a b p => bnd (fx names none lam t) fun x hx => bnd (ssOf f names lam a) fun xa ha => bnd (ssOf f names lam b) fun xb hb => some ⟨.ite x xa xb, fun nd y => s_ite (hx nd y).2 (ha nd y) (hb nd y)⟩
  | .For t it b e p => bnd (nil? e) fun _ h0 => bnd (tgX S names 9 t) fun tg htg => bnd (ssOf f names lam b) fun xb hb =>
    (chk (kindE it != 3) fun hk => bnd (fx names none lam it) fun x hx => some ⟨.for tg x xb, h0 ▸ fun nd y => s_for (fun ev w => fold_plain (ne_of_chk hk) ev w) htg (hx nd y).1 (hb nd y)⟩)
  | .Raise e c p => match c with
    | none => bnd (asOCall e) fun q hq => bnd (asName q.1) fun z hz => bnd (limOf z.1) fun lim hl => opt (nmOf (S.at names none lam) z.1) fun m hm => chk (isG m) fun hg => bnd (xsOf (fx names none lam) q.2.1) fun xs hx => some ⟨.raise lim xs, by
        rw [hq, hz]
        exact fun nd y => s_raise ok k2 y.xm hl (isG_eq hg ▸ hm) (hx nd y).plain.1 (hx nd y).xs (hx nd y).plain.2.1⟩
    | some _ => none
  | .Try b hs e g p => bnd (one? b) fun b hb => bnd (nil? e) fun _ h0 => bnd (nil? g) fun _ h1 => bnd (tryE fx names lam b) fun x hx => match hs with
    | [] => none
    | h :: hs => bnd (hsOf ok names lam (h :: hs)) fun xs ho => some ⟨.try [x] xs, by
        rw [hb, h0, h1]
        exact fun nd y => s_try ok k2 (hx nd y) (ho nd)⟩
  | _ => none
noncomputable def toS (fx : FX S) : Nat → FS S
  | 0 => fun _ _ _ => none
  | n + 1 => stepS ok k2 fx (toS fx n)
noncomputable def toSs (names : Names) (lam : Bool) (b : List Stmt) : Option {xs : List Mine.S // GSs S names lam b xs} := ssOf (toS ok k2 (toX ok k2 20) 12) names lam b
theorem of_toSs {names : Names} {lam : Bool} {b : List Stmt} {xs : List Mine.S} (h : (toSs ok k2 names lam b).map (·.1) = some xs) : GSs S names lam b xs := by
  obtain ⟨a, _, rfl⟩ := Option.map_eq_some_iff.mp h
  exact a.2
end

/-! A NEW EVALUATOR -/
section
variable {prog : Program} {w : World} {A : Around} {s : Shared} {K : Frag} {x C dx : Addr} {R : Result → Shared → Prop}
open PySem.Builtin PySem.Builtin.ObjectAttr
theorem osa_plain {ox od od' : Obj} {name : Str} {tk : Tok} {v : Value} {es : List DictEntry} {n : Nat} (X : K.In s.heap) (I : InstAt s.heap x ox C (some od)) (hd : ox.dict = some dx) (D : s.heap.get? dx = some od) (hp : plainOver K C = true) (ht : takerIn K C name = some none) (hh : (clsIn K C).any (·.hasDict) = true)
    (hl : (lookIn name od).isSome = true) (e : Obj.putName name (PyData.keyHash w.params name) (.str name s.toks) v od = od') (e' : od'.data = .dict es.toArray n) (hz : es.length ≤ 1000)
    (h : ∀ h', h'.get? dx = some od' → (∀ b, b ≠ dx → h'.get? b = s.heap.get? b) → R (.ok (.ret .none)) { s with heap := h', toks := s.toks + 1 }) :
    codeAny (model prog w) A (.call (.builtin "object.__setattr__") ⟨[.ref x, .str name tk, v], []⟩) R s := by
  refine osa_open X I hp ht fun b => ?_
  obtain ⟨cd, hc, hd'⟩ := any_some hh
  have D' : (s.heap.update dx (Obj.putName name (PyData.keyHash w.params name) (.str name s.toks) v)).get? dx = some od' := e ▸ Heap.get?_update_self _ D (by rw [e]; obtain ⟨_, _, dd, _⟩ := od'; cases e'; rfl)
  have U2 : ∀ b, b ≠ dx → (s.heap.update dx (Obj.putName name (PyData.keyHash w.params name) (.str name s.toks) v)).get? b = s.heap.get? b := fun b q => Heap.get?_update_ne _ _ _ _ q
  obtain ⟨hx, hcl, hn, -⟩ := I
  obtain ⟨oc, odi, oda, osl⟩ := ox
  dsimp only at hcl hd
  subst hcl hd
  refine wpAny_bind (wpAny_pure (wpAny_bind (wpAny_bind (wpAny_loadPart hx (wpAny_bind ((looks_clsIn X hc).here ?_))))))
  rw [hd']
  refine wpAny_pure (a := some dx) (wpAny_bind (wpAny_pure (wpAny_bind ?_)))
  unfold nsSet
  refine wpAny_bind (wpAny_bind (wpAny_askSetting (wpAny_pure (wpAny_bind (wpAny_mkText (wpAny_bind (wpAny_loadPart D ?_)))))))
  unfold lookIn at hl
  split at hl
  · rename_i es₀ n₀ q
    rw [q]
    dsimp only
    have c : (!es₀.any (·.key.isStr name) && es₀.any (·.refKey)) = false := by
      rw [← Array.any_toList, ← Array.any_toList]
      split at hl
      · rename_i en he
        rw [List.any_eq_true.mpr ⟨en, List.mem_of_find?_eq_some he, List.find?_some he⟩]; rfl
      · split at hl
        · cases hl
        · rename_i z; rw [Bool.not_eq_true] at z; rw [z, Bool.and_false]
    rw [aRefKeyMayBeTheName_at, c]
    refine wpAny_updatePart D ?_
    refine wpAny_bind (wpAny_lookBehind D' (by rw [e']; exact pastItsLine_dict (by rw [List.size_toArray, sizeLine_eq]; omega)) ?_)
    exact wpAny_pure (h _ D' U2)
  · cases hl
end
/-- what is to be seen of the class -/
inductive NewIn (S : Sta) : Prop
  | mk (f : Addr) (oc : Value) (od : Option Addr) (fd : FuncData) (osl : Array (Option Value)) (a b : Str) (q1 q2 q3 q4 : Pos) (h1 : makesIn S.K S.cev = true) (h2 : plainOver S.K S.cev = true) (h3 : (clsIn S.K S.cev).any (·.hasDict) = true) (h4 : takerIn S.K S.cev (Str.ofString "scope") = some none) (h5 : findIn S.K (.ref S.cev) "__setattr__" = some (some (.builtin "object.__setattr__")))
    (k1 : findIn S.K (.ref S.cev) "__init__" = some (some (.ref f))) (k2 : typeIn S.K (.ref f) = some (.type "function")) (k3 : S.K.lookup f = some ⟨oc, od, .func fd, osl⟩) (k4 : fd.scope.kind = .function) (k5 : fd.scope.isCoroutine = false) (k6 : fd.scope.isGenerator = false) (k7 : codeIn S.K fd.code fd.qualname = true)
    (k8 : plainPs fd.params = true) (k9 : fd.closure = []) (k10 : fd.defaults = .none) (k11 : fd.params.args.map (·.arg) = [a, b]) (k12 : fd.body = .stmts [.Assign [.Attribute (.Name a q1) (Str.ofString "scope") q2] (.Name b q3) q4]) (k13 : a ≠ b) (k14 : fd.scope.names.lookup a = some .local) (k15 : fd.scope.names.lookup b = some .local) (k16 : badN a = false) (k17 : badN b = false)
section
variable {S : Sta} {nd : Nat}
theorem under_make (A : Around) (C : Addr) (l : List Value) : A.under (.builtin "type.__call__" ⟨.ref C :: l, []⟩) = { A with depth := A.depth + 1, units := A.units + 1 } := by
  obtain ⟨a, b, c, d, e⟩ := A
  rfl
theorem new_ok (ok : StaOk S) (hn : NewIn S) : NewOk S nd := by
  obtain ⟨f, oc, od, fd, osl, na, nb, q1, q2, q3, q4, h1, h2, h3, h4, h5, k1, k2, k3, k4, k5, k6, k7, k8, k9, k10, k11, k12, k13, k14, k15, k16, k17⟩ := hn
  refine ⟨fun {A env outer L g σ s sc v Ev} c I r hk => ?_⟩
  have X := kIn ok I
  obtain ⟨h, gs, d, t, os⟩ := s
  refine wpAny_call ?_
  refine make_core (makes_of X h1) (looks_findIn X k1) (fun self => bind_fn X self k2) (.inl rfl) ?_
  rw [under_make]
  have kp0 : ∀ b o, h.get? b = some o → ((h.push emptyDict).push (instObj S.cev h.objs.size)).get? b = some o := fun b o e => Heap.get?_push_of_some _ (Heap.get?_push_of_some _ e)
  have gx : ((h.push emptyDict).push (instObj S.cev h.objs.size)).get? (h.objs.size + 1) = some (instObj S.cev h.objs.size) := by heap_get
  have gd : ((h.push emptyDict).push (instObj S.cev h.objs.size)).get? h.objs.size = some emptyDict := Heap.get?_push_of_some _ (Heap.get?_push_at rfl rfl)
  generalize hH : (h.push emptyDict).push (instObj S.cev h.objs.size) = H at kp0 gx gd ⊢
  have X1 : S.K.In H := fun b o e => kp0 b o (X b o e)
  have hlen : fd.params.args.length = 2 := by have := congrArg List.length k11; simpa using this
  have hbs : (fd.params.args.map (·.arg)).zip [Value.ref (h.objs.size + 1), v] = [(na, .ref (h.objs.size + 1)), (nb, v)] := by rw [k11]; rfl
  have hbind := bind_plain (vs := [.ref (h.objs.size + 1), v]) k8 k10 (by rw [k11]; simp [k13]) hlen
  rw [hbs] at hbind
  refine codeAny_call_cells (by have := c.depth; show A.depth + 1 < _; omega) (X1 _ _ k3) rfl (ok.nolimit.keeps fun b o e => kp0 _ _ (I.stays b o e)) (codeRec_of X1 k7) k12 hbind k9 (fun y hy => ?_) (fun s1 x => ?_) k5 k6 k4
  · simp only [List.mem_cons, List.not_mem_nil, or_false] at hy
    rcases hy with rfl | rfl
    · exact .inl k14
    · exact .inl k15
  generalize hE : callEnvC fd H.objs.size f = ev at x ⊢
  have ekf : ev.scope.kind = .function := by rw [← hE]; exact k4
  have ea : ev.kindOf na = some .local := by rw [← hE]; exact k14
  have eb : ev.kindOf nb = some .local := by rw [← hE]; exact k15
  have X2 : S.K.In s1.heap := fun b o e => x.toInCall.keep b o (X1 b o e)
  have va : bindL ev.kindOf [(na, .ref (h.objs.size + 1)), (nb, v)] (fun _ => none) na = some (.ref (h.objs.size + 1)) := by
    simp only [bindL, ea, eb, if_true]
    rw [if_neg k13]
  have vb : bindL ev.kindOf [(na, .ref (h.objs.size + 1)), (nb, v)] (fun _ => none) nb = some v := by
    simp only [bindL, ea, eb, if_true]
  refine wpAny_execs_cons (plainObj_wpAny_Assign_Attribute (NameLC x ekf eb vb (NameLC x ekf ea va ?_ (by unfold badN at k16; exact (Bool.or_eq_false_iff.mp k16).1)) (by unfold badN at k17; exact (Bool.or_eq_false_iff.mp k17).1)))
  have gx2 := x.toInCall.keep _ _ gx
  have gd2 := x.toInCall.keep _ _ gd
  have II : InstAt s1.heap (h.objs.size + 1) (instObj S.cev h.objs.size) S.cev (some emptyDict) := ⟨gx2, rfl, rfl, gd2⟩
  refine set_plain X2 II h5 (osa_plain (s := { s1 with toks := s1.toks + 1 }) (od' := dictOf [⟨PyData.keyHash S.w.params (Str.ofString "scope"), .str (Str.ofString "scope") (s1.toks + 1), v⟩] 1) X2 II rfl gd2 h2 h4 h3 rfl rfl rfl (by show 1 ≤ 1000; decide) fun h' g1 g2 => ?_)
  refine wpAny_execs_nil ⟨rfl, ?_⟩
  obtain ⟨hs, ts, es⟩ := x.toInCall.same
  have ndx : h.get? h.objs.size = none := Heap.get?_none_of_le (Nat.le_refl _)
  have nx : h.get? (h.objs.size + 1) = none := Heap.get?_none_of_le (Nat.le_succ _)
  have kp : ∀ b o, h.get? b = some o → h'.get? b = some o := fun b o e => (g2 b (Nat.ne_of_lt (Heap.lt_size e))).trans (x.toInCall.keep b o (kp0 b o e))
  obtain ⟨I1, E1⟩ := I.keeps kp
  obtain ⟨I2, E2, U2⟩ := Inv.seal (k := .fz) E1 I1 ndx (I.ot _ ndx) (fun _ _ _ e => e) g1
  have gx3 : h'.get? (h.objs.size + 1) = some (instObj S.cev h.objs.size) := (g2 _ (Nat.succ_ne_self _)).trans gx2
  obtain ⟨I3, E3, U3⟩ := Inv.seal (k := .fz) E2 I2 nx ((if_neg (Nat.succ_ne_self _)).trans (I.ot _ nx)) (fun _ _ _ e => e) gx3
  refine ⟨.evr sc, σ, _, ⟨rfl, rfl⟩, E3, I3, ?_, ?_⟩
  · exact .evr (if_pos rfl) ((if_neg (Nat.ne_of_lt (Nat.lt_succ_self _))).trans (if_pos rfl)) gx3 g1 rfl rfl (r.mono E3.up)
  · rw [es]; exact ⟨rfl, rfl, rfl⟩
end
end Mine
namespace Mine
open PySem PySem.W PyProof.Rows PySem.Calls PySem.SeqAt
set_option genSizeOf false
set_option genInjectivity false
set_option maxRecDepth 100000

/-! THE BUILT-IN __init__ OF AN EXCEPTION, BY super() -/
theorem slot_wd_get : Slot "wrapper_descriptor" "__get__" "wrapper_descriptor.__get__" := .of (owner := "wrapper_descriptor") (n := "__get__") (by rw [typeLookup_type, builtinLookup_eq_fast]; kernel_rfl) (by decide +kernel) (by decide +kernel) (by decide +kernel)
  (by first | exact .inl (by decide +kernel) | exact .inr (by decide +kernel)) (by rw [isSubtype_type]; kernel_rfl)
theorem entry_wd_get : entryFor table "wrapper_descriptor.__get__" = some Builtin.«wrapper_descriptor.__get__» := entryFor_of_tree (by kernel_rfl)
theorem args_wd_get (a b c : Value) : argsOk "wrapper_descriptor.__get__" ⟨[a, b, c], []⟩ := by unfold argsOk; kernel_rfl
theorem type_exc_init : typeOf (.builtin "Exception.__init__") = pure (.type "wrapper_descriptor") := by kernel_rfl
section
variable {prog : Program} {w : World} {A : Around} {E : Value → Shared → Prop} {h : Heap} {g : Array GenState} {d : Drawn} {t : Nat} {os : OsState}
theorem own_exc : ".".intercalate ("Exception.__init__".cutAt '.').dropLast = "Exception" := by decide +kernel
theorem wd_get {x C C' : Addr} {ox : Obj} {Q : Fin → Shared → Prop} (hx : h.get? x = some ox) (hc : ox.cls = .ref C) (hs : Looks (model prog w) h (isSubtype (.ref C) (.type "Exception")) true)
    (hq : Q (.done (.ret (.ref h.objs.size))) ⟨h.push { cls := .type "method-wrapper", data := .fields #[.builtin "Exception.__init__", .ref x] }, g, d, t, os⟩) :
    wpAny (model prog w) A (Builtin.«wrapper_descriptor.__get__» ⟨[.builtin "Exception.__init__", .ref x, .ref C'], []⟩) Q E ⟨h, g, d, t, os⟩ := by
  have e := own_exc
  unfold Builtin.«wrapper_descriptor.__get__»
  repeat (first | (with_reducible refine wpAny_loadPart_at hx ?_; rw [hc]) | (with_reducible refine Looks.at hs ?_) | rw [e] | wp_step)
  all_goals exact hq
theorem super_ga_exc {ox : Obj} {so D x C : Addr} {l₀ l : List Value} {K : Frag} {name : Str} {tk : Tok} {Q : Fin → Shared → Prop}
    (hso : h.get? so = some { cls := .type "super", dict := none, data := .fields #[.ref D, .ref x, .ref C], slots := #[] }) (hno : Looks (model prog w) h (opaqueClassAbove (.ref C)) none)
    (hC : Looks (model prog w) h (mroOf (.ref C)) l₀) (hl : (l₀.dropWhile (· != .ref D)).drop 1 = l) (X : K.In h)
    (hf : alongIn K name l = some (some (.builtin "Exception.__init__"))) (hx : h.get? x = some ox) (hc : ox.cls = .ref C) (hs : Looks (model prog w) h (isSubtype (.ref C) (.type "Exception")) true) (hxC : x ≠ C) (hn : (name == ("__class__" : Str)) = false)
    (hq : Q (.done (.ret (.ref h.objs.size))) ⟨h.push { cls := .type "method-wrapper", data := .fields #[.builtin "Exception.__init__", .ref x] }, g, d, t, os⟩) :
    wpAny (model prog w) A (Builtin.«super.__getattribute__» ⟨[.ref so, .str name tk], []⟩) Q E ⟨h, g, d, t, os⟩ := by
  have hlk := slot_wd_get.lookup
  have hty := type_exc_init
  have hne : (Value.ref x == Value.ref C) = false := by simp [hxC]
  have hT : (⟨h, g, d, t, os⟩ : Shared).TypeIs (.builtin "Exception.__init__") "wrapper_descriptor" := hty
  have hdt : ({ cls := .type "super", dict := none, data := .fields #[.ref D, .ref x, .ref C], slots := #[] } : Obj).data = .fields #[.ref D, .ref x, .ref C] := rfl
  have f0 : (#[.ref D, .ref x, .ref C] : Array Value)[0]? = some (.ref D) := rfl
  have f1 : (#[.ref D, .ref x, .ref C] : Array Value)[1]? = some (.ref x) := rfl
  have f2 : (#[.ref D, .ref x, .ref C] : Array Value)[2]? = some (.ref C) := rfl
  unfold Builtin.«super.__getattribute__»
  repeat (first
    | (with_reducible refine wpAny_field hso hdt f0 ?_) | (with_reducible refine wpAny_field hso hdt f1 ?_) | (with_reducible refine wpAny_field hso hdt f2 ?_)
    | (with_reducible refine ks_wpAny_notOpaque hno ?_)
    | (with_reducible refine Looks.at hC ?_; rw [hl])
    | (refine ks_forIn_along X (fun _ _ => rfl) rfl ?_ hf)
    | (with_reducible refine wpAny_typeOf hT ?_)
    | (with_reducible refine wpAny_call_entry slot_wd_get hT entry_wd_get ?_ (args_wd_get _ _ _))
    | (with_reducible refine ⟨_, rfl, ?_⟩)
    | (with_reducible refine wd_get hx hc hs ?_)
    | (simp only [hn, hne, Bool.or_false, Bool.false_eq_true, if_false])
    | wp_step
    | dsimp only)
  all_goals exact hq
end

section
variable {prog : Program} {w : World} {A : Around} {E : Value → Shared → Prop} {h : Heap} {g : Array GenState} {d : Drawn} {t : Nat} {os : OsState}
theorem getMethod_exc {ox : Obj} {so D x C : Addr} {l₀ l : List Value} {K : Frag} {name : Str} {pl : Sem Bool} {Q : Value × List Value → Shared → Prop}
    (hso : h.get? so = some { cls := .type "super", dict := none, data := .fields #[.ref D, .ref x, .ref C], slots := #[] }) (hno : Looks (model prog w) h (opaqueClassAbove (.ref C)) none)
    (hC : Looks (model prog w) h (mroOf (.ref C)) l₀) (hl : (l₀.dropWhile (· != .ref D)).drop 1 = l) (X : K.In h)
    (hf : alongIn K name l = some (some (.builtin "Exception.__init__"))) (hx : h.get? x = some ox) (hc : ox.cls = .ref C) (hs : Looks (model prog w) h (isSubtype (.ref C) (.type "Exception")) true) (hxC : x ≠ C) (hn : (name == ("__class__" : Str)) = false)
    (hq : Q (.ref h.objs.size, []) ⟨h.push { cls := .type "method-wrapper", data := .fields #[.builtin "Exception.__init__", .ref x] }, g, d, t + 1, os⟩) :
    wpAny (model prog w) A (getMethod (.ref so) name pl) Q E ⟨h, g, d, t, os⟩ := by
  have hlk := F.ks_slot_super_ga.lookup
  have hcan := F.ks_canon_super_ga
  have hT : ∀ t', (⟨h, g, d, t', os⟩ : Shared).TypeIs (.ref so) "super" := fun _ => ⟨_, hso, rfl⟩
  unfold getMethod
  refine wpAny_bind (wpAny_specialOf (hT _) hlk ?_)
  show wpAny _ _ (if (Manifest.canonical "super.__getattribute__" != "object.__getattribute__") = true then _ else _) _ _ _
  rw [if_pos hcan]
  unfold getAttr getAttrBy
  refine wpAny_bind (wpAny_bind (wpAny_mkText (wpAny_holding (wpAny_bind (wpAny_typeOf (hT _) (wpAny_bind (wpAny_of_eq hlk ?_)))))))
  show wpAny _ _ (getAttrByItsOwn (.ref so) (.str name t) (.type "super") (.builtin "super.__getattribute__") true false) _ _ _
  unfold getAttrByItsOwn hookBefore callGetattribute boundAndCalled
  refine wpAny_bind (wpAny_of_eq (show (if onTheHeap (.type "super") then typeLookup (.type "super") "__getattr__" else pure none) = pure none from rfl) ?_)
  refine wpAny_bind (wpAny_attempt (wpAny_holding ?_))
  show wpAny _ _ (bindSpecial (.builtin "super.__getattribute__") (.ref so) >>= _) _ _ _
  refine wpAny_bind (wpAny_of_eq (F.ks_slot_super_ga.bind _) ?_)
  refine wpAny_mono (Q := fun v s' => v = .ref h.objs.size ∧ s' = ⟨h.push { cls := .type "method-wrapper", data := .fields #[.builtin "Exception.__init__", .ref x] }, g, d, t + 1, os⟩) (E := fun _ _ => False)
    (wpAny_call_entry F.ks_slot_super_ga (hT _) F.ks_entry_super_ga (super_ga_exc hso hno hC hl X hf hx hc hs hxC hn ⟨_, rfl, rfl, rfl⟩) (F.ks_gaArgs_super _ _)) (fun v s' hv => ?_) fun _ _ z => z.elim
  obtain ⟨rfl, rfl⟩ := hv
  exact wpAny_pure (wpAny_pure hq)
theorem bound_exc {M : Model} {x C : Addr} {b : Value} {ox oC : Obj} {cd : ClassData} {Q : Unit → Shared → Prop} (hx : h.get? x = some ox) (hc : ox.cls = .ref C) (hC : h.get? C = some oC) (hcd : oC.data = .cls cd) (hq : Q () ⟨h, g, d, t, os⟩) : wpAny M A (checkBoundCall "Exception.__init__" ⟨[.ref x, b], []⟩) Q E ⟨h, g, d, t, os⟩ := by
  have F := PySem.F.excCall_Exception
  obtain ⟨oc, od, oda, osl⟩ := oC
  dsimp only at hcd
  subst hcd
  simp only [checkBoundCall, F.initKind, F.initRow]
  repeat (first | (with_reducible refine wpAny_loadPart_at hx ?_; rw [hc]) | (with_reducible refine wpAny_loadPart_at hC ?_) | wp_step)
  all_goals exact hq
/-- the arguments are written into the exception -/
theorem exc_put {x t0 : Addr} {ox : Obj} {vs : Array Value} {v : Value} {Q : Fin → Shared → Prop} (hx : h.get? x = some ox) (hd : ox.data = .fields vs) (h0 : vs[0]? = some (.ref t0))
    (hq : ∀ h', h'.get? x = some { ox with data := .fields (vs.setIfInBounds 0 (.ref h.objs.size)) } → (∀ b o, b ≠ x → h.get? b = some o → h'.get? b = some o) → Q (.done (.ret .none)) ⟨h', g, d, t, os⟩) :
    wpAny (model prog w) A (Builtin.«BaseException.__init__» ⟨[.ref x, v], []⟩) Q E ⟨h, g, d, t, os⟩ := by
  unfold Builtin.«BaseException.__init__»
  dsimp only
  rw [if_neg (by simp)]
  unfold newTuple Builtin.BaseException.bexcPut
  have hsz : 0 < vs.size := (Array.getElem?_eq_some_iff.mp h0).1
  have hx₁ := Heap.get?_push_of_some (h := h) { cls := .type "tuple", data := .seq #[v] } hx
  refine wpAny_bind (wpAny_newObj_type (wpAny_bind (wpAny_bind (wpAny_field hx₁ hd h0 (wpAny_bind (wpAny_setField hx₁ hd hsz ?_))))) (by size_fits))
  refine wpAny_letGo (wpAny_pure (hq _ ?_ fun b o hb e => ?_))
  · rw [Heap.get?_update_self _ hx₁ (Obj.isFreed_of_fields (Obj.data_mapFields hd _)), mapFields_eq hd]
  · rw [Heap.get?_update_other _ _ (Ne.symm hb)]
    exact Heap.get?_push_of_some _ e
/-- the bound built-in is called -/
theorem call_exc {x t0 m C : Addr} {ox oC : Obj} {cd : ClassData} {vs : Array Value} {v : Value} {Q : Value → Shared → Prop} (hm : h.get? m = some { cls := .type "method-wrapper", data := .fields #[.builtin "Exception.__init__", .ref x] }) (hx : h.get? x = some ox) (hc : ox.cls = .ref C) (hC : h.get? C = some oC) (hcd : oC.data = .cls cd) (hd : ox.data = .fields vs) (h0 : vs[0]? = some (.ref t0))
    (hq : ∀ h', h'.get? x = some { ox with data := .fields (vs.setIfInBounds 0 (.ref h.objs.size)) } → (∀ b o, b ≠ x → h.get? b = some o → h'.get? b = some o) → Q .none ⟨h', g, d, t, os⟩) :
    wpAny (model prog w) A (call (.ref m) [v]) Q E ⟨h, g, d, t, os⟩ := by
  have F := PySem.F.excCall_Exception
  refine wpAny_call (codeAny_of_tree ?_)
  show wpAny _ _ (callAny (.ref m) ⟨[v], []⟩) _ _ _
  unfold callAny
  refine wpAny_bind (wpAny_load hm ?_)
  dsimp only
  rw [if_pos (by decide)]
  refine wpAny_bind (bound_exc hx hc hC hcd (wpAny_pure ⟨Code.quiet_builtin _ (by decide +kernel), ?_⟩))
  exact codeAny_builtin F.initEntry (exc_put hx hd h0 hq)
theorem keeper_exc {M : Model} {m x : Addr} (hm : h.get? m = some { cls := .type "method-wrapper", data := .fields #[.builtin "Exception.__init__", .ref x] }) : Looks M h (keeperOf (.ref m)) .machine := by
  unfold keeperOf
  exact (Looks.ld hm).andThen .now
end

/-! AN EXCEPTION'S OWN ATTRIBUTES ARE WRITTEN -/
noncomputable def refB : Value → Bool
  | .ref _ => true
  | _ => false
noncomputable def excTail : List Value → Bool
  | [] => false
  | v :: r => if refB v then excTail r else decide (v :: r = [.type "Exception", .type "BaseException", .type "object"])
theorem excTail_ind {P : List Value → Prop} (h0 : P [.type "Exception", .type "BaseException", .type "object"]) (hs : ∀ c r, P r → P (.ref c :: r)) {l : List Value} (e : excTail l = true) : P l := by
  induction l with
  | nil => cases e
  | cons v r ih =>
    cases q : refB v with
    | true => cases v <;> first | (cases q; done) | exact hs _ _ (ih e)
    | false => exact (of_decide_eq_true ((if_neg (by rw [q]; decide)).symm.trans e)) ▸ h0
theorem exc_refuse (self : Value) {l : List Value} (h : excTail l = true) : refuseLoop self "__setattr__" l = pure () ∧ l.contains (.type "object") = true ∧ l.contains (.type "Exception") = true ∧ l.isEmpty = false :=
  excTail_ind (P := fun l => refuseLoop self "__setattr__" l = pure () ∧ l.contains (.type "object") = true ∧ l.contains (.type "Exception") = true ∧ l.isEmpty = false)
    ⟨PySem.F.store_Exception.passes self, by decide, by decide, rfl⟩
    (fun c r ⟨h1, h2, h3, h4⟩ => ⟨(refuseLoop_ref _ _ _ _).trans h1, by rw [List.contains_cons, h2, Bool.or_true], by rw [List.contains_cons, h3, Bool.or_true], rfl⟩) h
section
variable {prog : Program} {w : World} {A : Around} {s : Shared} {K : Frag} {x C dx : Addr} {R : Result → Shared → Prop}
open PySem.Builtin PySem.Builtin.ObjectAttr
theorem osa_open_exc {ox : Obj} {name : Str} {tk : Tok} {v : Value} {cd : ClassData} (X : K.In s.heap) (hx : s.heap.get? x = some ox) (hcl : ox.cls = .ref C) (hc : clsIn K C = some cd) (hp : excTail cd.mro = true) (ht : takerIn K C name = some none)
    (h : ∀ b, wpAny (model prog w) A.in1 (storeInOwnDict (.ref x) (.ref C) (.str name tk) name v b)
      (fun fin s' => match fin with | .done f => R (.ok f) s' | .again c' => c'.quiet = true ∧ codeAny (model prog w) A c' R s') (fun e s' => R (.error e) s') s) :
    codeAny (model prog w) A (.call (.builtin "object.__setattr__") ⟨[.ref x, .str name tk, v], []⟩) R s := by
  have SF := PySem.F.store_object
  obtain ⟨ho, ho2, _, ne⟩ := exc_refuse (.ref x) hp
  have ty : Looks (model prog w) s.heap (typeOf (.ref x)) (.ref C) := hcl ▸ (Looks.ld hx).andThen .now
  have sub : Looks (model prog w) s.heap (isInstance (.ref x) (.type "object")) true := ty.andThen (looks_mroIn X (by unfold mroIn; rw [hc, Option.bind_some, if_neg (by rw [ne]; decide), ho2]))
  refine codeAny_call_builtin SF.slot.plain SF.entry (@check_slot (model prog w) _ _ s "object.__setattr__" "object" "__setattr__" (.ref x) [.str name tk, v] [] _ SF.kind SF.split sub (SF.args (.ref x) (.str name tk) v) ?_)
  obtain ⟨attr, ha, hr⟩ := Option.bind_eq_some_iff.mp ht
  have hm : Looks (model prog w) s.heap (mroOf (.ref C)) cd.mro := (looks_clsIn X hc).andThen .now
  have L3 : Looks (model prog w) s.heap (storeTaker? attr) none := by
    cases attr with
    | none => cases hr; exact .now
    | some a =>
      obtain ⟨b, hb, hr⟩ := Option.map_eq_some_iff.mp hr
      refine (looks_takesIn X hb).andThen ?_
      cases b <;> first | exact .now | cases hr
  rw [osa_eq, refuse_eq]
  refine wpAny_bind (wpAny_bind (ty.here (wpAny_bind (hm.here ?_))))
  rw [ho]
  refine wpAny_pure (wpAny_bind (ty.here (wpAny_bind ((looks_findIn X ha).here (wpAny_bind (L3.here ?_))))))
  exact h _
theorem put_dict {A : Around} {E : Value → Shared → Prop} {od od' : Obj} {name : Str} {tk : Tok} {v : Value} {es : List DictEntry} {n : Nat} {Q : Fin → Shared → Prop} (D : s.heap.get? dx = some od) (hl : (lookIn name od).isSome = true) (e : Obj.putName name (PyData.keyHash w.params name) (.str name s.toks) v od = od') (e' : od'.data = .dict es.toArray n) (hz : es.length ≤ 1000)
    (h : ∀ h', h'.get? dx = some od' → (∀ b, b ≠ dx → h'.get? b = s.heap.get? b) → Q (.done (.ret .none)) { s with heap := h', toks := s.toks + 1 }) : wpAny (model prog w) A (storeInDict dx (.str name tk) name v) Q E s := by
  have D' : (s.heap.update dx (Obj.putName name (PyData.keyHash w.params name) (.str name s.toks) v)).get? dx = some od' := e ▸ Heap.get?_update_self _ D (by rw [e]; obtain ⟨_, _, dd, _⟩ := od'; cases e'; rfl)
  have U2 : ∀ b, b ≠ dx → (s.heap.update dx (Obj.putName name (PyData.keyHash w.params name) (.str name s.toks) v)).get? b = s.heap.get? b := fun b q => Heap.get?_update_ne _ _ _ _ q
  refine wpAny_bind (wpAny_pure (wpAny_bind ?_))
  unfold nsSet
  refine wpAny_bind (wpAny_bind (wpAny_askSetting (wpAny_pure (wpAny_bind (wpAny_mkText (wpAny_bind (wpAny_loadPart D ?_)))))))
  unfold lookIn at hl
  split at hl
  · rename_i es₀ n₀ q
    rw [q]
    dsimp only
    have c : (!es₀.any (·.key.isStr name) && es₀.any (·.refKey)) = false := by
      rw [← Array.any_toList, ← Array.any_toList]
      split at hl
      · rename_i en he
        rw [List.any_eq_true.mpr ⟨en, List.mem_of_find?_eq_some he, List.find?_some he⟩]; rfl
      · split at hl
        · cases hl
        · rename_i z; rw [Bool.not_eq_true] at z; rw [z, Bool.and_false]
    rw [aRefKeyMayBeTheName_at, c]
    refine wpAny_updatePart D ?_
    refine wpAny_bind (wpAny_lookBehind D' (by rw [e']; exact pastItsLine_dict (by rw [List.size_toArray, sizeLine_eq]; omega)) ?_)
    exact wpAny_pure (h _ D' U2)
  · cases hl
/-- the first attribute: the dict is made -/
theorem osa_first {vs : Array Value} {name : Str} {tk : Tok} {v : Value} {cd : ClassData} {od' : Obj} {es : List DictEntry} {n : Nat} (X : K.In s.heap) (hx : s.heap.get? x = some { cls := .ref C, data := .fields vs }) (hc : clsIn K C = some cd) (hp : excTail cd.mro = true) (ht : takerIn K C name = some none) (hh : cd.hasDict = true)
    (e : Obj.putName name (PyData.keyHash w.params name) (.str name s.toks) v emptyDict = od') (e' : od'.data = .dict es.toArray n) (hz : es.length ≤ 1000)
    (h : ∀ h', h'.get? x = some { cls := .ref C, dict := some s.heap.objs.size, data := .fields vs } → h'.get? s.heap.objs.size = some od' → (∀ b o, b ≠ x → s.heap.get? b = some o → h'.get? b = some o) → R (.ok (.ret .none)) { s with heap := h', toks := s.toks + 1 }) :
    codeAny (model prog w) A (.call (.builtin "object.__setattr__") ⟨[.ref x, .str name tk, v], []⟩) R s := by
  refine osa_open_exc X hx rfl hc hp ht fun b => ?_
  have hx₁ : (s.heap.push emptyDict).get? x = some { cls := .ref C, data := .fields vs } := Heap.get?_push_of_some _ hx
  have hxs : x ≠ s.heap.objs.size := Nat.ne_of_lt (Heap.lt_size hx)
  refine wpAny_bind (wpAny_pure (wpAny_bind (wpAny_bind (wpAny_loadPart hx (wpAny_bind ((looks_clsIn X hc).here ?_))))))
  rw [hh]
  show wpAny _ _ ((alloc emptyDict >>= fun d => update x (fun o => { cls := o.cls, dict := some d, data := o.data, slots := o.slots }) >>= fun _ => pure (some d) : Sem (Option Addr))) _ _ _
  refine wpAny_bind (wpAny_alloc' (wpAny_bind (wpAny_update' hx₁ (wpAny_pure ?_))))
  refine wpAny_bind (wpAny_pure ?_)
  have gx : ((s.heap.push emptyDict).update x fun o => { cls := o.cls, dict := some s.heap.objs.size, data := o.data, slots := o.slots }).get? x = some { cls := .ref C, dict := some s.heap.objs.size, data := .fields vs } := Heap.get?_update_self _ hx₁ rfl
  have gd : ((s.heap.push emptyDict).update x fun o => { cls := o.cls, dict := some s.heap.objs.size, data := o.data, slots := o.slots }).get? s.heap.objs.size = some emptyDict := (Heap.get?_update_ne _ _ _ _ hxs.symm).trans (Heap.get?_push_at rfl rfl)
  refine put_dict (tk := tk) (s := { s with heap := _ }) gd rfl e e' hz fun h' g1 g2 => ?_
  exact h h' ((g2 x hxs).trans gx) g1 fun b o hb eo => (g2 b (Nat.ne_of_lt (Heap.lt_size eo))).trans ((Heap.get?_update_ne _ _ _ _ hb).trans (Heap.get?_push_of_some _ eo))
/-- the next one: the dict grows -/
theorem osa_next {ox od od' : Obj} {name : Str} {tk : Tok} {v : Value} {cd : ClassData} {es : List DictEntry} {n : Nat} (X : K.In s.heap) (hx : s.heap.get? x = some ox) (hcl : ox.cls = .ref C) (hd : ox.dict = some dx) (D : s.heap.get? dx = some od) (hc : clsIn K C = some cd) (hp : excTail cd.mro = true) (ht : takerIn K C name = some none) (hh : cd.hasDict = true)
    (hl : (lookIn name od).isSome = true) (e : Obj.putName name (PyData.keyHash w.params name) (.str name s.toks) v od = od') (e' : od'.data = .dict es.toArray n) (hz : es.length ≤ 1000)
    (h : ∀ h', h'.get? dx = some od' → (∀ b, b ≠ dx → h'.get? b = s.heap.get? b) → R (.ok (.ret .none)) { s with heap := h', toks := s.toks + 1 }) :
    codeAny (model prog w) A (.call (.builtin "object.__setattr__") ⟨[.ref x, .str name tk, v], []⟩) R s := by
  refine osa_open_exc X hx hcl hc hp ht fun b => ?_
  obtain ⟨oc, odi, oda, osl⟩ := ox
  dsimp only at hcl hd
  subst hcl hd
  refine wpAny_bind (wpAny_pure (wpAny_bind (wpAny_bind (wpAny_loadPart hx (wpAny_bind ((looks_clsIn X hc).here ?_))))))
  rw [hh]
  refine wpAny_pure (a := some dx) (wpAny_bind (wpAny_pure ?_))
  exact put_dict (tk := tk) D hl e e' hz h
end

/-! THE __init__ OF THE PROGRAM'S OWN EXCEPTIONS -/
theorem loadName_glob {M : Model} {A : Around} {E : Value → Shared → Prop} {s : Shared} {env : Env} {x : Str} {Q : Value → Shared → Prop} (hk : env.scope.kind = .function) (hx : env.kindOf x = some .globalImplicit) (h : wpAny M A (loadGlobal env x) Q E s) : wpAny M A (loadName env x) Q E s := by
  unfold loadName
  simp only [Env.blockKind, hk, hx, ScopeKind.isAnnotationScope, Bool.false_and, Bool.false_eq_true, if_false]
  exact h
inductive InitFn (S : Sta) (f D : Addr) (ps : List Str) (body : List Stmt) : Prop
  | mk (od : Option Addr) (fd : FuncData) (osl : Array (Option Value)) (cc : Addr) (oc1 : Value) (od1 : Option Addr) (osl1 : Array (Option Value)) (co : Addr) (oc2 : Value) (od2 : Option Addr) (osl2 : Array (Option Value)) (vs : Array Value) (file : Str) (tf : Tok)
    (k1 : S.K.lookup f = some ⟨.type "function", od, .func fd, osl⟩) (k2 : fd.scope.kind = .function) (k3 : fd.scope.isCoroutine = false) (k4 : fd.scope.isGenerator = false) (k5 : codeIn S.K fd.code fd.qualname = true) (k6 : plainPs fd.params = true) (k7 : fd.defaults = .none)
    (k8 : fd.params.args.map (·.arg) = ps) (k9 : fd.body = .stmts body) (k10 : fd.globals = mainGlobals) (k11 : fd.builtins = builtinsNs) (k12 : ∀ p ∈ fd.scope.names, p.2 ≠ .cell) (k13 : ∀ p ∈ ps, fd.scope.names.lookup p = some .local ∧ badN p = false) (k14 : fd.scope.names.lookup (Str.ofString "super") = some .globalImplicit) (k15 : fd.scope.names.lookup (Str.ofString "__class__") = some .free)
    (k16 : fd.closure.lookup (Str.ofString "__class__") = some cc) (k17 : S.K.lookup cc = some ⟨oc1, od1, .cell (some (.ref D)), osl1⟩) (k18 : fd.code = .ref co) (k19 : S.K.lookup co = some ⟨oc2, od2, .fields vs, osl2⟩) (k20 : vs[2]? = some (.str file tf)) (k21 : (S.prog.main.file == file) = true)
structure SupIn (S : Sta) : Prop where
  g : S.mg "super" = none
  t : (S.prog.main.scope.names.lookup ("super" : Str)).isSome = false
noncomputable def initBody (a b z u : Str) (p0 p1 p2 p3 p4 p5 p6 p7 p8 p9 : Pos) : List Stmt := [.Expr (.Call (.Attribute (.Call (.Name "super" p0) [] [] p1) "__init__" p2) [.Name b p3] [] p4) p5, .Assign [.Attribute (.Name a p6) z p7] (.Name u p8) p9]
/-- old things stay, but x -/
noncomputable def But (x : Addr) (s s' : Shared) : Prop := (∀ b o, b ≠ x → s.heap.get? b = some o → s'.heap.get? b = some o) ∧ ∃ hp tk, s' = { s with heap := hp, toks := tk }
theorem But.trans {x : Addr} {s s' s'' : Shared} (a : But x s s') (b : But x s' s'') : But x s s'' := by
  obtain ⟨a1, h1, t1, rfl⟩ := a
  obtain ⟨b1, h2, t2, rfl⟩ := b
  exact ⟨fun c o n e => b1 c o n (a1 c o n e), h2, t2, rfl⟩
theorem But.kin {x : Addr} {s s' : Shared} {K : Frag} (a : But x s s') (X : K.In s.heap) (k : K.lookup x = none) : K.In s'.heap := fun b o e => a.1 b o (fun q => by rw [q, k] at e; cases e) (X b o e)
theorem eval_sup {o : PySem.Expr} {name : Str} {ap pos : Pos} {args : List PySem.Expr} {env : Env} (hs : args.all (fun e => !isStar e) = true) (hl : args.length < 20) (hp : (ap.endLine == pos.line) = true) :
    eval (.Call (.Attribute o name ap) args [] pos) env = (do
      let ov ← attributeBase o name env (eval o env)
      standAt ap.atName
      let fx ← holding [ov] (getMethod ov name (do return (← importBound o env).getD true))
      callWith pos fx.1 fx.2 (backTo pos (starEach args env)) []) := by
  have hf : methodCallForm (args.length + ([] : List Keyword).length) (backTo pos (starEach args env)) (backToKw pos (keywordEach [] env)) = true := by
    unfold methodCallForm
    have h1 := star_plain (pos := pos) (ev := env) hs
    have h2 : (backTo pos (starEach args env)).all (fun p => !p.1) = true := by
      rw [List.all_eq_true]
      intro p hp
      have := List.any_eq_false.mp h1 p hp
      simpa using this
    have h3 : (backToKw pos (keywordEach [] env)) = [] := rfl
    rw [h2, h3]
    simp
    omega
  rw [arm_eval_Call]
  unfold methodCall calleeOf methodCallPos
  rw [hf, hp]
  rfl
section
variable {S : Sta} {A : Around} {E : Value → Shared → Prop} {s : Shared} {f D x C : Addr}
theorem init_core (ok : StaOk S) (si : SupIn S) {a b z u : Str} {ps : List Str} {vals : List Value} {v vz : Value} {p0 p1 p2 p3 p4 p5 p6 p7 p8 p9 : Pos} (hpp : (p2.endLine == p4.line) = true) (hi : InitFn S f D ps (initBody a b z u p0 p1 p2 p3 p4 p5 p6 p7 p8 p9)) (hps : ∃ r, ps = a :: r) (hpb : b ∈ ps) (hpu : u ∈ ps) (hnd : ps.Nodup) (hlen : ps.length = vals.length)
    (ha : (ps.zip vals).reverse.lookup a = some (.ref x)) (hb : (ps.zip vals).reverse.lookup b = some v) (hu : (ps.zip vals).reverse.lookup u = some vz)
    (room : A.depth < recursionLimit) (st : S.B.StaysIn s.heap) {ox : Obj} (hx : s.heap.get? x = some ox) (hxc : ox.cls = .ref C) (hnc : ∀ c, ox.data ≠ .cls c) (kx : S.K.lookup x = none) (nx : S.B.get? x = none) {oD : Obj} {cdD : ClassData} (hD : S.K.lookup D = some oD) (hDt : oD.data = .cls cdD)
    (hsub : ∀ h, S.K.In h → Looks S.M h (isSubtype (.ref C) (.ref D)) true) {Mid : Shared → Prop} {R : Result → Shared → Prop}
    (hsup : ∀ ev s1 so pl, But x s s1 → s1.heap.get? x = some ox → s1.heap.get? so = some { cls := .type "super", dict := none, data := .fields #[.ref D, .ref x, .ref C], slots := #[] } → (∀ {Q : Value → Shared → Prop} {s2}, But x s1 s2 → Q v s2 → wpAny S.M (A.deeper ev) (eval (.Name b p3) ev) Q (fun _ _ => False) s2) →
      wpAny S.M (A.deeper ev) (getMethod (.ref so) "__init__" pl) (fun fx s₂ => wpAny S.M (A.deeper ev) (callWith p4 fx.1 fx.2 (backTo p4 (starEach [.Name b p3] ev)) []) (fun _ s3 => But x s1 s3 ∧ Mid s3) (fun _ _ => False) s₂) (fun _ _ => False) s1)
    (hset : ∀ A' s3, But x s s3 → Mid s3 → wpAny S.M A' (setAttr (.ref x) z vz) (fun _ s4 => R (.ok (.ret .none)) s4) (fun _ _ => False) s3) :
    codeAny S.M A (.call (.ref f) ⟨vals, []⟩) R s := by
  obtain ⟨od, fd, osl, cc, oc1, od1, osl1, co, oc2, od2, osl2, vs, file, tf, k1, k2, k3, k4, k5, k6, k7, k8, k9, k10, k11, k12, k13, k14, k15, k16, k17, k18, k19, k20, k21⟩ := hi
  have X : S.K.In s.heap := fun b o e => st _ _ (ok.K b o e)
  have hbind := bind_plain (vs := vals) k6 k7 (by rw [k8]; exact hnd) (by have := congrArg List.length k8; simp at this; omega)
  rw [k8] at hbind
  refine ks_codeAny_call_defAt room (X _ _ k1) rfl (ok.nolimit.keeps fun b o e => st b o e) (codeRec_of X k5) k9 (BindsTo.of_eq hbind) k12 (fun y hy => (k13 y.1 (List.of_mem_zip hy).1).1) (fun h0 hns kp0 => ?_) k3 k4 k2
  generalize hE : callEnv fd s.heap.objs.size f = ev
  have ekf : ev.scope.kind = .function := by rw [← hE]; exact k2
  have eg : ev.globals = mainGlobals := by rw [← hE]; exact k10
  have eb : ev.builtins = builtinsNs := by rw [← hE]; exact k11
  have el : ev.locals = s.heap.objs.size := by rw [← hE]; rfl
  have ecl : ev.cells = fd.closure := by rw [← hE]; rfl
  have ek : ∀ y, ev.kindOf y = fd.scope.names.lookup y := fun y => by rw [← hE]; rfl
  obtain ⟨rr, hps⟩ := hps
  have hp : (fd.params.posonlyargs ++ fd.params.args).head?.map (·.arg) = some a := by
    have h0 : fd.params.posonlyargs = [] := congrArg (·.posonlyargs) (plainPs_eq k6)
    rw [h0, List.nil_append, ← List.head?_map, k8, hps]; rfl
  obtain ⟨ar, hp', rfl⟩ := Option.map_eq_some_iff.mp hp
  have loc : ∀ {y w} {A' : Around} {Q : Value → Shared → Prop} {Ev : Value → Shared → Prop} {s2 : Shared}, y ∈ ps → (ps.zip vals).reverse.lookup y = some w → (∀ b o, b ≠ x → h0.get? b = some o → s2.heap.get? b = some o) → Q w s2 → wpAny S.M A' (loadName ev y) Q Ev s2 := by
    intro y w A' Q Ev s2 hy hw hk hq
    obtain ⟨oL, es, ep, hoL, r⟩ := hns
    have ne : s.heap.objs.size ≠ x := Nat.ne_of_gt (Heap.lt_size hx)
    have hns2 : s2.heap.Ns s.heap.objs.size (fun y => (ps.zip vals).reverse.lookup y) := ⟨oL, es, ep, hk _ _ ne hoL, r⟩
    rw [← el] at hns2
    exact wpAny_loadName_local ekf ((ek y).trans (k13 y hy).1) hns2 hw hq
  have bad : ∀ y ∈ ps, (y == ("__debug__" : Str)) = false := fun y hy => by have := (k13 y hy).2; unfold badN at this; exact (Bool.or_eq_false_iff.mp this).1
  have X0 : S.K.In h0 := fun b o e => kp0 b o (X b o e)
  refine ks_wpAt_mono (Q := fun f s' => R (.ok (.ret (match f with | .ret v => v | _ => .none))) s') (E := fun _ _ => False) ?_ (fun _ _ h => h) (fun _ _ h => h.elim)
  refine ks_wpAt_execs_cons (ks_wpAt_Expr_any (ks_wpAt_MethodCall (ks_wpAt_super_base (f := f) (cc := co) ((ek _).trans k14) ((ek _).trans k15) (by decide) (by rw [← hE]; rfl) (X0 _ _ k1) rfl hp' (by rw [← hE]; exact k18) (X0 _ _ k19) rfl k20 k21 si.t ?_) (eval_sup rfl (by show 1 < 20; decide) hpp)) (by unfold interactive; rw [ekf]; rfl))
  have gns : h0.Ns ev.globals S.mg := eg ▸ ns_of (fun o e => kp0 _ _ (st _ _ e)) ok.g
  have bns : h0.Ns ev.builtins S.mb := eb ▸ ns_of (fun o e => kp0 _ _ (st _ _ e)) ok.b
  refine loadName_glob ekf ((ek _).trans k14) ?_
  refine loadGlobal_builtin gns si.g bns (v := .type "super") ((ok.builtins _ (by decide)).trans (by decide +kernel)) ⟨rfl, ?_⟩
  have kcell := X0 _ _ k17
  have hcell : h0.IsCell cc (some (.ref D)) := ⟨_, kcell, rfl⟩
  refine wpAny_loadName_free (s := { s with heap := h0, toks := s.toks + (ps.zip vals).length }) ekf ((ek _).trans k15) (ecl ▸ k16) hcell ?_ (by decide)
  have hD0 := X0 _ _ hD
  have hx0 := kp0 _ _ hx
  refine loc (hps ▸ .head _) ha (fun b o _ e => e) ?_
  refine ks_wpAny_isType_cls hD0 hDt ⟨rfl, ?_⟩
  refine ks_wpAny_call_super hD0 hDt hx0 hxc hnc (hsub _ X0) fun h1 hso kp1 => ?_
  have b1 : But x s { s with heap := h1, toks := s.toks + (ps.zip vals).length } := ⟨fun b o _ e => kp1 b o (kp0 b o e), _, _, rfl⟩
  have hx1 := kp1 _ _ hx0
  refine wpAny_mono (hsup ev { s with heap := h1, toks := s.toks + (ps.zip vals).length } h0.objs.size _ b1 hx1 hso fun {Q s2} b2 hq => wpAny_Name (loc hpb hb (fun c o n e => b2.1 c o n (kp1 c o e)) hq) (bad _ hpb)) (fun fx s2 h2 => wpAny_mono h2 (fun _ s3 ⟨b3, m3⟩ => ?_) fun _ _ h => h.elim) fun _ _ h => h.elim
  refine wpAt_of_wpAny (wpAny_execs_cons (plainObj_wpAny_Assign_Attribute (wpAny_Name (loc hpu hu (fun c o n e => b3.1 c o n (kp1 c o e)) (wpAny_Name (loc (hps ▸ .head _) ha (fun c o n e => b3.1 c o n (kp1 c o e)) ?_) (bad _ (hps ▸ .head _)))) (bad _ hpu))))
  exact wpAny_mono (hset _ _ (b1.trans b3) m3) (fun _ s4 h4 => wpAny_execs_nil h4) fun _ _ h => h.elim
end

theorem args_one {M : Model} {A : Around} {E : Value → Shared → Prop} {s : Shared} {f : Value} {pos : Pos} {ev : Env} {e : PySem.Expr} {Q : Args → Shared → Prop} (hs : isStar e = false) (h : wpAny M A (eval e ev) (fun v s1 => Q ⟨[v], []⟩ s1) E s) :
    wpAny M A (evalArgs f true (backTo pos (starEach [e] ev)) []) Q E s := by
  have hq : wpAny M A (spliced (backTo pos (starEach [e] ev))) (fun vs s' => Q ⟨vs, []⟩ s') E s := spliced_more (wpAny_mono h (fun v s1 h1 => spliced_none h1) fun _ _ x => x) (by cases e <;> first | rfl | cases hs)
  rw [star_cons hs] at hq ⊢
  exact evalArgs_plain hq
theorem keeper_bound {M : Model} {h : Heap} {m x f : Addr} {of : Obj} {fd : FuncData} (hm : h.get? m = some { cls := .type "method", data := .fields #[.ref f, .ref x] }) (hf : h.get? f = some of) (hd : of.data = .func fd) : Looks M h (keeperOf (.ref m)) .boundFrame := by
  obtain ⟨oc, od, oda, osl⟩ := of
  dsimp only at hd
  subst hd
  unfold keeperOf
  exact (Looks.ld hm).andThen ((Looks.ld hf).andThen .now)
section
variable {S : Sta} {A : Around} {s : Shared} {f x C D : Addr}
theorem looks_mro {M : Model} {h : Heap} {K : Frag} {C : Addr} {cd : ClassData} (X : K.In h) (hc : clsIn K C = some cd) : Looks M h (mroOf (.ref C)) cd.mro := (looks_clsIn X hc).andThen .now
/-- the state of an exception whose text is known -/
noncomputable def FdDone (S : Sta) (C x : Addr) (vs : Array Value) (v : Value) (s s' : Shared) : Prop :=
  But x s s' ∧ ∃ T dx tk, s'.heap.get? x = some { cls := .ref C, dict := some dx, data := .fields (vs.setIfInBounds 0 (.ref T)) } ∧ s.heap.get? dx = none ∧ dx ≠ x ∧ s'.heap.get? dx = some (dictOf [⟨PyData.keyHash S.w.params (Str.ofString "what"), .str (Str.ofString "what") tk, v⟩] 1)
theorem fd_init (ok : StaOk S) (si : SupIn S) {a b : Str} {v : Value} {p0 p1 p2 p3 p4 p5 p6 p7 p8 p9 : Pos} (hpp : (p2.endLine == p4.line) = true) (hab : a ≠ b) (hi : InitFn S f D [a, b] (initBody a b (Str.ofString "what") b p0 p1 p2 p3 p4 p5 p6 p7 p8 p9))
    (room : A.depth < recursionLimit) (st : S.B.StaysIn s.heap) {vs : Array Value} {t0 : Addr} (hx : s.heap.get? x = some { cls := .ref C, data := .fields vs }) (h0 : vs[0]? = some (.ref t0)) (nx : S.B.get? x = none)
    {oD oC : Obj} {cdD cd : ClassData} (hD : S.K.lookup D = some oD) (hDt : oD.data = .cls cdD) (hC : S.K.lookup C = some oC) (hCt : oC.data = .cls cd) (hD2 : mroIn S.K C (.ref D) = some true) (ht : excTail cd.mro = true) (hd : cd.hasDict = true) (hno : nsIn S.K cStatics "thirdparty.any" = some none)
    (hal : alongIn S.K "__init__" ((cd.mro.dropWhile (· != .ref D)).drop 1) = some (some (.builtin "Exception.__init__"))) (hsa : findIn S.K (.ref C) "__setattr__" = some (some (.builtin "object.__setattr__"))) (htk : takerIn S.K C (Str.ofString "what") = some none) {R : Result → Shared → Prop}
    (hR : ∀ s', FdDone S C x vs v s s' → R (.ok (.ret .none)) s') : codeAny S.M A (.call (.ref f) ⟨[.ref x, v], []⟩) R s := by
  have kx : S.K.lookup x = none := by
    cases q : S.K.lookup x with
    | none => rfl
    | some o => have := ok.K _ _ q; rw [nx] at this; cases this
  have hc : clsIn S.K C = some cd := by unfold clsIn; rw [hC]; obtain ⟨_, _, _, _⟩ := oC; cases hCt; rfl
  have xC : x ≠ C := fun q => by rw [q, hC] at kx; cases kx
  obtain ⟨_, _, hE, ne⟩ := exc_refuse (.ref x) ht
  have hExc : ∀ h, S.K.In h → Looks S.M h (isSubtype (.ref C) (.type "Exception")) true := fun h X => looks_mroIn X (by unfold mroIn; rw [hc, Option.bind_some, if_neg (by rw [ne]; decide), hE])
  have X : S.K.In s.heap := fun b o e => st _ _ (ok.K b o e)
  have ha : ([a, b].zip [Value.ref x, v]).reverse.lookup a = some (.ref x) := by
    show List.lookup a [(b, v), (a, .ref x)] = _
    rw [List.lookup_cons, show (a == b) = false from beq_eq_false_iff_ne.mpr hab, List.lookup_cons, beq_self_eq_true]
  have hb : ([a, b].zip [Value.ref x, v]).reverse.lookup b = some v := by
    show List.lookup b [(b, v), (a, .ref x)] = _
    rw [List.lookup_cons, beq_self_eq_true]
  refine init_core (Mid := fun s3 => ∃ T, s3.heap.get? x = some { cls := .ref C, data := .fields (vs.setIfInBounds 0 (.ref T)) }) ok si hpp hi ⟨_, rfl⟩ (.tail _ (.head _)) (.tail _ (.head _)) (by simp [hab]) rfl ha hb hb room st hx rfl (by nofun) kx nx hD hDt (fun h X => looks_mroIn X hD2) ?_ ?_
  · intro ev s1 so pl b1 hx1 hso hload
    have X1 : S.K.In s1.heap := b1.kin X kx
    obtain ⟨h1, g1, d1, t1, os1⟩ := s1
    refine getMethod_exc hso (looks_opaque X1 hno) (looks_mro X1 hc) rfl X1 hal hx1 rfl (hExc _ X1) xC (by decide) ?_
    have up : ∀ c o, h1.get? c = some o → (h1.push { cls := .type "method-wrapper", data := .fields #[.builtin "Exception.__init__", .ref x] }).get? c = some o := fun c o e => Heap.get?_push_of_some _ e
    have hbm : (h1.push { cls := .type "method-wrapper", data := .fields #[.builtin "Exception.__init__", .ref x] }).get? h1.objs.size = some { cls := .type "method-wrapper", data := .fields #[.builtin "Exception.__init__", .ref x] } := Heap.get?_push_at rfl rfl
    refine callWith_of (P := fun h => h.get? h1.objs.size = some { cls := .type "method-wrapper", data := .fields #[.builtin "Exception.__init__", .ref x] }) rfl (fun h hm => ⟨.machine, .inr (.inl rfl), keeper_exc hm⟩) (args_one rfl ?_)
    refine hload ⟨fun c o _ e => up c o e, _, _, rfl⟩ ⟨hbm, ?_⟩
    refine call_exc hbm (up _ _ hx1) rfl (up _ _ (X1 _ _ hC)) hCt rfl h0 fun h2 hx2 kp2 => ?_
    exact ⟨⟨fun c o n e => kp2 c o n (up c o e), _, _, rfl⟩, _, hx2⟩
  · intro A' s3 b3 hT
    obtain ⟨T, hx3⟩ := hT
    have X3 : S.K.In s3.heap := b3.kin X kx
    refine set_plain X3 (od := none) ⟨hx3, rfl, rfl, trivial⟩ hsa (osa_first (s := { s3 with toks := s3.toks + 1 }) (od' := dictOf [⟨PyData.keyHash S.w.params (Str.ofString "what"), .str (Str.ofString "what") (s3.toks + 1), v⟩] 1) X3 hx3 hc ht htk hd rfl rfl (by show 1 ≤ 1000; decide) fun h' g1 g2 g3 => hR _ ⟨b3.trans ⟨g3, _, _, rfl⟩, T, s3.heap.objs.size, s3.toks + 1, g1, ?_, Nat.ne_of_gt (Heap.lt_size hx3), g2⟩)
    cases q : s.heap.get? s3.heap.objs.size with
    | none => rfl
    | some o =>
      have := Heap.lt_size (b3.1 _ _ (Nat.ne_of_gt (Heap.lt_size hx3)) q)
      exact absurd this (Nat.lt_irrefl _)
theorem FdDone.pre {vs : Array Value} {v : Value} {s1 s' : Shared} (d : FdDone S C x vs v s1 s') (b : But x s s1) : FdDone S C x vs v s s' := by
  obtain ⟨b2, T, dx, tk, h1, h2, h3, h4⟩ := d
  refine ⟨b.trans b2, T, dx, tk, h1, ?_, h3, h4⟩
  cases q : s.heap.get? dx with
  | none => rfl
  | some o => have := b.1 _ _ h3 q; rw [h2] at this; cases this
/-- the same, with the place -/
noncomputable def SpDone (S : Sta) (C x : Addr) (vs : Array Value) (v u : Value) (s s' : Shared) : Prop :=
  But x s s' ∧ ∃ T dx tk tk2, s'.heap.get? x = some { cls := .ref C, dict := some dx, data := .fields (vs.setIfInBounds 0 (.ref T)) } ∧ s.heap.get? dx = none ∧ dx ≠ x ∧
    s'.heap.get? dx = some (dictOf [⟨PyData.keyHash S.w.params (Str.ofString "what"), .str (Str.ofString "what") tk, v⟩, ⟨PyData.keyHash S.w.params (Str.ofString "spot"), .str (Str.ofString "spot") tk2, u⟩] 2)
theorem sp_init (ok : StaOk S) (si : SupIn S) {a b c : Str} {v u : Value} {p0 p1 p2 p3 p4 p5 p6 p7 p8 p9 : Pos} (hpp : (p2.endLine == p4.line) = true) (hab : a ≠ b) (hac : a ≠ c) (hbc : b ≠ c) (hi : InitFn S f D [a, b, c] (initBody a b (Str.ofString "spot") c p0 p1 p2 p3 p4 p5 p6 p7 p8 p9))
    (room : A.depth + 1 < recursionLimit) (st : S.B.StaysIn s.heap) {vs : Array Value} {t0 : Addr} (hx : s.heap.get? x = some { cls := .ref C, data := .fields vs }) (h0 : vs[0]? = some (.ref t0)) (nx : S.B.get? x = none)
    {oD oC of : Obj} {cdD cd : ClassData} {f2 : Addr} {fd : FuncData} (hD : S.K.lookup D = some oD) (hDt : oD.data = .cls cdD) (hC : S.K.lookup C = some oC) (hCt : oC.data = .cls cd) (hD2 : mroIn S.K C (.ref D) = some true) (ht : excTail cd.mro = true) (hd : cd.hasDict = true) (hno : nsIn S.K cStatics "thirdparty.any" = some none)
    (hal : alongIn S.K "__init__" ((cd.mro.dropWhile (· != .ref D)).drop 1) = some (some (.ref f2))) (hf2 : S.K.lookup f2 = some of) (hft : of.cls = .type "function") (hfd : of.data = .func fd) (hsa : findIn S.K (.ref C) "__setattr__" = some (some (.builtin "object.__setattr__"))) (htk : takerIn S.K C (Str.ofString "spot") = some none) {R : Result → Shared → Prop}
    (hrec : ∀ {A' s1} {R' : Result → Shared → Prop}, A'.depth ≤ A.depth + 1 → S.B.StaysIn s1.heap → s1.heap.get? x = some { cls := .ref C, data := .fields vs } → (∀ s', FdDone S C x vs v s1 s' → R' (.ok (.ret .none)) s') → codeAny S.M A' (.call (.ref f2) ⟨[.ref x, v], []⟩) R' s1)
    (hR : ∀ s', SpDone S C x vs v u s s' → R (.ok (.ret .none)) s') : codeAny S.M A (.call (.ref f) ⟨[.ref x, v, u], []⟩) R s := by
  have kx : S.K.lookup x = none := by
    cases q : S.K.lookup x with
    | none => rfl
    | some o => have := ok.K _ _ q; rw [nx] at this; cases this
  have hc : clsIn S.K C = some cd := by unfold clsIn; rw [hC]; obtain ⟨_, _, _, _⟩ := oC; cases hCt; rfl
  have xC : x ≠ C := fun q => by rw [q, hC] at kx; cases kx
  have X : S.K.In s.heap := fun b o e => st _ _ (ok.K b o e)
  have ha : ([a, b, c].zip [Value.ref x, v, u]).reverse.lookup a = some (.ref x) := by
    show List.lookup a [(c, u), (b, v), (a, .ref x)] = _
    rw [List.lookup_cons, show (a == c) = false from beq_eq_false_iff_ne.mpr hac, List.lookup_cons, show (a == b) = false from beq_eq_false_iff_ne.mpr hab, List.lookup_cons, beq_self_eq_true]
  have hb : ([a, b, c].zip [Value.ref x, v, u]).reverse.lookup b = some v := by
    show List.lookup b [(c, u), (b, v), (a, .ref x)] = _
    rw [List.lookup_cons, show (b == c) = false from beq_eq_false_iff_ne.mpr hbc, List.lookup_cons, beq_self_eq_true]
  have hu : ([a, b, c].zip [Value.ref x, v, u]).reverse.lookup c = some u := by
    show List.lookup c [(c, u), (b, v), (a, .ref x)] = _
    rw [List.lookup_cons, beq_self_eq_true]
  refine init_core (Mid := fun s3 => FdDone S C x vs v s s3) ok si hpp hi ⟨_, rfl⟩ (.tail _ (.head _)) (.tail _ (.tail _ (.head _))) (by simp [hab, hac, hbc]) rfl ha hb hu (by omega) st hx rfl (by nofun) kx nx hD hDt (fun h X => looks_mroIn X hD2) ?_ ?_
  · intro ev s1 so pl b1 hx1 hso hload
    have X1 : S.K.In s1.heap := b1.kin X kx
    obtain ⟨h1, g1, d1, t1, os1⟩ := s1
    refine ks_wpAny_getMethod_super hso (looks_opaque X1 hno) (looks_mro X1 hc) rfl X1 hal (X1 _ _ hf2) hft xC (by decide) ?_
    have up : ∀ c o, h1.get? c = some o → (h1.push { cls := .type "method", data := .fields #[.ref f2, .ref x] }).get? c = some o := fun c o e => Heap.get?_push_of_some _ e
    have hbm : (h1.push { cls := .type "method", data := .fields #[.ref f2, .ref x] }).get? h1.objs.size = some { cls := .type "method", data := .fields #[.ref f2, .ref x] } := Heap.get?_push_at rfl rfl
    have ne : h1.objs.size ≠ x := Nat.ne_of_gt (Heap.lt_size hx1)
    refine callWith_of (P := fun h => h.get? h1.objs.size = some { cls := .type "method", data := .fields #[.ref f2, .ref x] } ∧ h.get? f2 = some of) rfl (fun h hm => ⟨.boundFrame, .inr (.inr rfl), keeper_bound hm.1 hm.2 hfd⟩) (args_one rfl ?_)
    refine hload ⟨fun c o _ e => up c o e, _, _, rfl⟩ ⟨⟨hbm, up _ _ (X1 _ _ hf2)⟩, ?_⟩
    refine wpAny_call (ks_codeAny_call_bound hbm ?_)
    have stx : S.B.StaysIn h1 := fun b o e => b1.1 b o (fun q => by rw [q, nx] at e; cases e) (st b o e)
    refine hrec (by show A.depth + 1 ≤ _; omega) (fun b o e => up _ _ (stx b o e)) (up _ _ hx1) fun s' hs' => ?_
    have b2 : But x ⟨h1, g1, d1, t1, os1⟩ ⟨h1.push { cls := .type "method", data := .fields #[.ref f2, .ref x] }, g1, d1, t1 + 1, os1⟩ := ⟨fun c o _ e => up c o e, _, _, rfl⟩
    exact ⟨b2.trans hs'.1, hs'.pre (b1.trans b2)⟩
  · intro A' s3 b3 hm
    have X3 : S.K.In s3.heap := b3.kin X kx
    obtain ⟨_, T, dx, tk, hx3, hn, ne, hd3⟩ := hm
    refine set_plain X3 (od := some (dictOf [⟨PyData.keyHash S.w.params (Str.ofString "what"), .str (Str.ofString "what") tk, v⟩] 1)) ⟨hx3, rfl, rfl, hd3⟩ hsa (osa_next (s := { s3 with toks := s3.toks + 1 }) (od' := dictOf [⟨PyData.keyHash S.w.params (Str.ofString "what"), .str (Str.ofString "what") tk, v⟩, ⟨PyData.keyHash S.w.params (Str.ofString "spot"), .str (Str.ofString "spot") (s3.toks + 1), u⟩] 2) X3 hx3 rfl rfl hd3 hc ht htk hd rfl rfl rfl (by show 2 ≤ 1000; decide) fun h' g1 g2 => hR _ ?_)
    refine ⟨⟨fun b o q e => ?_, by obtain ⟨_, _, rfl⟩ := b3.2; exact ⟨_, _, rfl⟩⟩, T, dx, tk, s3.toks + 1, (g2 x ne.symm).trans hx3, hn, ne, g1⟩
    have nd : b ≠ dx := fun q => by rw [q, hn] at e; cases e
    exact (g2 b nd).trans (b3.1 b o q e)
end
end Mine
namespace Mine
open PySem PySem.W PySem.Calls
set_option genSizeOf false
set_option genInjectivity false
set_option maxRecDepth 100000

/-! A NEW EXCEPTION -/
theorem exc_not {l : List Value} (h : excTail l = true) : l.contains (.type "AttributeError") = false ∧ l.contains (.type "NameError") = false :=
  excTail_ind (P := fun l => l.contains (.type "AttributeError") = false ∧ l.contains (.type "NameError") = false) ⟨by decide, by decide⟩
    (fun c r ⟨h1, h2⟩ => ⟨by rw [List.contains_cons, h1]; rfl, by rw [List.contains_cons, h2]; rfl⟩) h
section
variable {prog : Program} {w : World} {A : Around} {h : Heap} {g : Array GenState} {d : Drawn} {t : Nat} {os : OsState}
variable {nm q : Str} {C N : Addr} {bs bm : List Value} {hdct : Bool} {sn : List Str} {sub : List Value} {ab : Bool} {col : Option Bool} {dd : Option Addr} {k0 k1 k2 k3 k5 : Option Value}
theorem check_new_exc {M : Model} {E : Value → Shared → Prop} (ht : excTail (.ref C :: bm) = true) {rest : List Value} {Q : Unit → Shared → Prop} (hC : h.get? C = some (excClassObj nm q C N bs bm hdct sn sub ab col dd k0 k1 k2 k3 k5 "Exception.__new__"))
    (hq : Q () ⟨h, g, d, t, os⟩) : wpAny M A (checkBuiltinCall "Exception.__new__" ⟨.ref C :: rest, []⟩) Q E ⟨h, g, d, t, os⟩ := by
  have Fn := PySem.F.excBase_Exception
  have hcont := (exc_refuse (.ref C) ht).2.2.1
  have hstar := Fn.noStar
  simp only [checkBuiltinCall, Fn.newKind, Fn.newSplit, Fn.newRow]
  repeat (first | refine wpAny_loadPart_at hC ?_ | (refine wpAny_isSubtype_exc hC ?_; rw [hcont]) | refine wpAny_staticBase_exc hC ?_ | refine wpAny_madeBy_exc hC ?_ | simp only [bne_self_eq_false, Bool.false_eq_true, if_false] | wp_step)
  exact hq
theorem new_exc {R : Result → Shared → Prop} (ht : excTail (.ref C :: bm) = true) {rest : List Value} (hC : h.get? C = some (excClassObj nm q C N bs bm hdct sn sub ab col dd k0 k1 k2 k3 k5 "Exception.__new__"))
    (hq : R (.ok (.ret (.ref (h.objs.size + 1)))) ⟨(h.push { cls := .type "tuple", data := .seq rest.toArray }).push { cls := .ref C, data := .fields #[.ref h.objs.size, .none, .none, .none, .bool false, .none] }, g, d, t, os⟩) (hrest : rest.length ≤ sizeLine) :
    codeAny (model prog w) A (.builtin "Exception.__new__" ⟨.ref C :: rest, []⟩) R ⟨h, g, d, t, os⟩ := by
  have Fn := PySem.F.excBase_Exception
  have hends := Fn.ends
  have hcB := (exc_refuse (.ref C) ht).2.2.1
  obtain ⟨hcA, hcN⟩ := exc_not ht
  refine codeAny_builtinAt Fn.entry ?_
  unfold Builtin.«BaseException.__new__»
  refine wpAt_bind ?_
  show wpAt _ _ _ (stack >>= _) _ _ _
  refine wpAt_bind (wpAt_stack fun p below => wpAt_of_wpAny ?_)
  wp_walk
  refine wpAt_of_wpAny ?_
  rw [Fn.owner]
  repeat (first | with_reducible refine wpAny_madeHere_exc Fn.canon hC ?_ | with_reducible refine wpAny_loadPart_at hC ?_ | (with_reducible refine wpAny_isSubtype_exc hC ?_; first | rw [hcB] | rw [hcA] | rw [hcN]) | wp_step)
  show R _ _
  rw [Heap.size_push]
  exact hq
theorem type_call_exc {E : Value → Shared → Prop} {K : Frag} {f : Addr} (ht : excTail (.ref C :: bm) = true) {rest : List Value} {Q : Fin → Shared → Prop} (hC : h.get? C = some (excClassObj nm q C N bs bm hdct sn sub ab col dd k0 k1 k2 k3 k5 "Exception.__new__")) (X : K.In h) (hf : findIn K (.ref C) "__init__" = some (some (.ref f))) (hft : typeIn K (.ref f) = some (.type "function")) (hrest : rest.length ≤ sizeLine)
    (hq : codeAny (model prog w) A (.call (.ref f) ⟨.ref (h.objs.size + 1) :: rest, []⟩) (fun r s' => r = .ok (.ret .none) ∧ Q (.done (.ret (.ref (h.objs.size + 1)))) s') ⟨(h.push { cls := .type "tuple", data := .seq rest.toArray }).push { cls := .ref C, data := .fields #[.ref h.objs.size, .none, .none, .none, .bool false, .none] }, g, d, t, os⟩) :
    wpAny (model prog w) A (Builtin.«type.__call__» ⟨.ref C :: rest, []⟩) Q E ⟨h, g, d, t, os⟩ := by
  have Fn := PySem.F.excBase_Exception
  repeat (first | with_reducible refine wpAny_loadPart_at hC ?_ | with_reducible refine wpAny_madeBy_exc hC ?_ | wp_step)
  refine codeAny_call_builtin_code (Code.quiet_builtin _ Fn.quiet) (check_new_exc ht hC ?_)
  refine new_exc ht hC ?_ hrest
  show wpAny _ _ _ _ _ _
  have up : ∀ b o, h.get? b = some o → ((h.push { cls := .type "tuple", data := .seq rest.toArray }).push { cls := .ref C, data := .fields #[.ref h.objs.size, .none, .none, .none, .bool false, .none] }).get? b = some o := fun b o e => Heap.get?_push_of_some _ (Heap.get?_push_of_some _ e)
  have hC₁ := up _ _ hC
  have hget : ((h.push { cls := .type "tuple", data := .seq rest.toArray }).push
      { cls := .ref C, data := .fields #[.ref h.objs.size, .none, .none, .none, .bool false, .none] }).get? (h.objs.size + 1) = some
      { cls := .ref C, data := .fields #[.ref h.objs.size, .none, .none, .none, .bool false, .none] } := by heap_get
  have hcC : (Value.ref C :: bm).contains (.ref C) = true := by simp
  have X1 : K.In ((h.push { cls := .type "tuple", data := .seq rest.toArray }).push { cls := .ref C, data := .fields #[.ref h.objs.size, .none, .none, .none, .bool false, .none] }) := fun b o e => up _ _ (X b o e)
  unfold isInstance
  repeat (first | with_reducible refine wpAny_loadPart_at hget ?_ | (with_reducible refine wpAny_isSubtype_exc hC₁ ?_; rw [hcC]) | wp_step)
  show wpAny _ _ (typeLookup (.ref C) _) _ _ _
  refine Looks.at (looks_findIn X1 hf) ?_
  refine wpAny_holding (wpAny_bind (Looks.at (bind_fn X1 _ hft) ?_))
  refine wpAny_bind (wpAny_call (codeAny_mono hq fun r s' hr => ?_))
  obtain ⟨rfl, hr⟩ := hr
  wp_walk
  exact hr
theorem call_exc_own {E : Value → Shared → Prop} {K : Frag} {f : Addr} (ht : excTail (.ref C :: bm) = true) {rest : List Value} {Q : Value → Shared → Prop} (hC : h.get? C = some (excClassObj nm q C N bs bm hdct sn sub ab col dd k0 k1 k2 k3 k5 "Exception.__new__")) (X : K.In h) (hf : findIn K (.ref C) "__init__" = some (some (.ref f))) (hft : typeIn K (.ref f) = some (.type "function")) (hrest : rest.length ≤ sizeLine)
    (hq : ∀ A', A'.depth ≤ A.depth + 1 → codeAny (model prog w) A' (.call (.ref f) ⟨.ref (h.objs.size + 1) :: rest, []⟩) (fun r s' => r = .ok (.ret .none) ∧ Q (.ref (h.objs.size + 1)) s') ⟨(h.push { cls := .type "tuple", data := .seq rest.toArray }).push { cls := .ref C, data := .fields #[.ref h.objs.size, .none, .none, .none, .bool false, .none] }, g, d, t, os⟩) :
    wpAny (model prog w) A (call (.ref C) rest) Q E ⟨h, g, d, t, os⟩ := by
  have f1 := tc_lookup
  have f2 := tc_bind (.ref C)
  have hT : (⟨h, g, d, t, os⟩ : Shared).TypeIs (.ref C) "type" := ⟨_, hC, rfl⟩
  refine wpAny_call (codeAny_of_tree ?_)
  show wpAny _ _ (callAny (.ref C) _) _ _ _
  repeat (any_goals (first | assumption | with_reducible refine wpAny_loadPart_at hC ?_ | wp_step))
  refine ⟨rfl, ?_⟩
  refine codeAny_call_builtin_at (Code.quiet_builtin _ (by decide +kernel)) entry_typeCall (wpAny_check_type_call_sub hC (type_call_exc ht hC X hf hft hrest (hq _ ?_)))
  exact Nat.le_refl _
end
end Mine
namespace Mine
open PySem PySem.W PySem.Calls PySem.SeqAt
set_option genSizeOf false
set_option genInjectivity false
set_option maxRecDepth 100000

/-! WHAT IS TO BE SEEN OF THE CLASSES OF EXCEPTIONS -/
inductive IniD (S : Sta) (f D : Addr) : Prop
  | mk (a b : Str) (p0 p1 p2 p3 p4 p5 p6 p7 p8 p9 : Pos) (hab : a ≠ b) (hpp : (p2.endLine == p4.line) = true) (hi : InitFn S f D [a, b] (initBody a b (Str.ofString "what") b p0 p1 p2 p3 p4 p5 p6 p7 p8 p9))
inductive IniP (S : Sta) (f D : Addr) : Prop
  | mk (a b c : Str) (p0 p1 p2 p3 p4 p5 p6 p7 p8 p9 : Pos) (hab : a ≠ b) (hac : a ≠ c) (hbc : b ≠ c) (hpp : (p2.endLine == p4.line) = true) (hi : InitFn S f D [a, b, c] (initBody a b (Str.ofString "spot") c p0 p1 p2 p3 p4 p5 p6 p7 p8 p9))
inductive ClsExc (S : Sta) (C : Addr) : Prop
  | mk (nm q : Str) (N : Addr) (bs bm : List Value) (sn : List Str) (sub : List Value) (ab : Bool) (col : Option Bool) (dd : Option Addr) (k0 k1 k2 k3 k5 : Option Value) (h : S.K.lookup C = some (excClassObj nm q C N bs bm true sn sub ab col dd k0 k1 k2 k3 k5 "Exception.__new__")) (t : excTail (.ref C :: bm) = true)
inductive ClsAt (K : Frag) (C : Addr) : Prop
  | mk (o : Obj) (cd : ClassData) (h : K.lookup C = some o) (d : o.data = .cls cd)
structure ExcK (S : Sta) (D P fD fP : Addr) : Prop where
  si : SupIn S
  cls : ∀ b, ClsExc S (S.ec b)
  f0 : findIn S.K (.ref (S.ec false)) "__init__" = some (some (.ref fP))
  f1 : findIn S.K (.ref (S.ec true)) "__init__" = some (some (.ref fD))
  tP : typeIn S.K (.ref fP) = some (.type "function")
  tD : typeIn S.K (.ref fD) = some (.type "function")
  iD : IniD S fD D
  iP : IniP S fP P
  cD : ClsAt S.K D
  cP : ClsAt S.K P
  mD : ∀ b, mroIn S.K (S.ec b) (.ref D) = some true
  mP : mroIn S.K (S.ec false) (.ref P) = some true
  aD : ∀ b, (clsIn S.K (S.ec b)).bind (fun cd => alongIn S.K "__init__" ((cd.mro.dropWhile (· != .ref D)).drop 1)) = some (some (.builtin "Exception.__init__"))
  aP : (clsIn S.K (S.ec false)).bind (fun cd => alongIn S.K "__init__" ((cd.mro.dropWhile (· != .ref P)).drop 1)) = some (some (.ref fD))
  no : nsIn S.K cStatics "thirdparty.any" = some none
  sa : ∀ b, findIn S.K (.ref (S.ec b)) "__setattr__" = some (some (.builtin "object.__setattr__"))
  tw : ∀ b, takerIn S.K (S.ec b) (Str.ofString "what") = some none
  ts : takerIn S.K (S.ec false) (Str.ofString "spot") = some none
section
variable {S : Sta} {nd : Nat} {D P fD fP : Addr}
theorem exc_cases {P : Prop} {lim : Bool} {ds : List V} {exc : Exc} (he : excOf lim ds = some exc) (k1 : ∀ a w, ds = [a] → a = .pd (.str w) → lim = true → exc = ⟨true, w, .none⟩ → P) (k2 : ∀ a b w d, ds = [a, b] → a = .pd (.str w) → b = .pd d → lim = false → exc = ⟨false, w, d⟩ → P) : P := by
  cases ds with
  | nil => cases he
  | cons a r =>
    cases r with
    | nil => exact bd_e he fun w hw he => gd_e he fun hl e => k1 a w rfl (strV_e hw) hl e.symm
    | cons b r =>
      cases r with
      | nil => exact bd_e he fun w hw he => bd_e he fun d hd he => gd_e he fun hl e => k2 a b w d rfl (strV_e hw) (pdV_e hd) hl e.symm
      | cons => cases he
theorem exc_one {h : Heap} {g : Gh} {vs : List Value} {ds : List V} {exc : Exc} (he : excOf true ds = some exc) (r : VRs S h g vs ds) : ∃ v w, vs = [v] ∧ exc = ⟨true, w, .none⟩ ∧ PV S.w.params h g.κ v (.str w) := by
  refine exc_cases he (fun a w e1 e2 _ e => ?_) fun a b w d _ _ _ q => by cases q
  obtain ⟨v, q, r1⟩ := vrs1 (e1 ▸ r)
  exact ⟨v, w, q, e, vr_pd (e2 ▸ r1)⟩
theorem exc_two {h : Heap} {g : Gh} {vs : List Value} {ds : List V} {exc : Exc} (he : excOf false ds = some exc) (r : VRs S h g vs ds) : ∃ v u w d, vs = [v, u] ∧ exc = ⟨false, w, d⟩ ∧ PV S.w.params h g.κ v (.str w) ∧ PV S.w.params h g.κ u d := by
  refine exc_cases he (fun a w _ _ q => by cases q) fun a b w d e1 e2 e3 _ e => ?_
  obtain ⟨v, u, q, r1, r2⟩ := vrs2 (e1 ▸ r)
  exact ⟨v, u, w, d, q, e, vr_pd (e2 ▸ r1), vr_pd (e3 ▸ r2)⟩
/-- the end of the way: an exception stands, all else as before -/
theorem exc_made {fr : List Env} {g : Gh} {σ : Hp} {s s0 s' : Shared} {x T dx : Addr} {exc : Exc} {es : List DictEntry} {n : Nat} {mp : Str → Option Value} (I : Inv S fr g σ s.heap) (up : ∀ b o, s.heap.get? b = some o → s0.heap.get? b = some o) (b : But x s0 s') (r0 : Rest s s0)
    (nx : s.heap.get? x = none) (hdn : s0.heap.get? dx = none) (ne : dx ≠ x) (hx : s'.heap.get? x = some { cls := .ref (S.ec exc.lim), dict := some dx, data := .fields #[.ref T, .none, .none, .none, .bool false, .none] }) (hd : s'.heap.get? dx = some (dictOf es n)) (hns : s'.heap.Ns dx mp)
    (hw : ∃ v, mp (Str.ofString "what") = some v ∧ PV S.w.params s.heap g.κ v (.str exc.what)) (hsp : exc.lim = false → ∃ v, mp (Str.ofString "spot") = some v ∧ PV S.w.params s.heap g.κ v exc.spot) :
    ExcNew S fr g σ s exc (.ref x) s' := by
  have kp : ∀ c o, s.heap.get? c = some o → s'.heap.get? c = some o := fun c o e => b.1 c o (fun z => by rw [z, nx] at e; cases e) (up _ _ e)
  have ndx : s.heap.get? dx = none := by
    cases z : s.heap.get? dx with
    | none => rfl
    | some o => rw [up _ _ z] at hdn; cases hdn
  obtain ⟨I1, E1⟩ := I.keeps kp
  obtain ⟨I2, E2, U2⟩ := Inv.seal (k := .fz) E1 I1 ndx (I.ot _ ndx) (fun _ _ _ e => e) hd
  obtain ⟨I3, E3, U3⟩ := Inv.seal (k := .ex) E2 I2 nx ((if_neg ne.symm).trans (I.ot _ nx)) (fun _ _ _ e => e) hx
  refine ⟨x, _, rfl, E3, I3, ⟨if_pos rfl, _, _, dx, mp, hx, rfl, rfl, rfl, (by show 1 < 6; decide), (if_neg ne).trans (if_pos rfl), hns, ?_, fun q => ?_, .inl ⟨rfl, rfl⟩⟩, ?_⟩
  · obtain ⟨v, h1, h2⟩ := hw; exact ⟨v, h1, h2.mono E3.fz⟩
  · obtain ⟨v, h1, h2⟩ := hsp q; exact ⟨v, h1, h2.mono E3.fz⟩
  · obtain ⟨_, _, _, rfl⟩ := b; exact r0.trans ⟨rfl, rfl, rfl⟩
theorem ns_what {h : Heap} {dx : Addr} {hs : Int} {tk : Tok} {v : Value} (e : h.get? dx = some (dictOf [⟨hs, .str (Str.ofString "what") tk, v⟩] 1)) : ∃ mp, h.Ns dx mp ∧ mp (Str.ofString "what") = some v :=
  ⟨_, ⟨_, _, _, e, rfl, fun a ha => by simp at ha; subst ha; exact ⟨_, _, rfl⟩, fun _ => rfl⟩, rfl⟩
theorem ns_both {h : Heap} {dx : Addr} {hs hs2 : Int} {tk tk2 : Tok} {v u : Value} (e : h.get? dx = some (dictOf [⟨hs, .str (Str.ofString "what") tk, v⟩, ⟨hs2, .str (Str.ofString "spot") tk2, u⟩] 2)) : ∃ mp, h.Ns dx mp ∧ mp (Str.ofString "what") = some v ∧ mp (Str.ofString "spot") = some u :=
  ⟨_, ⟨_, _, _, e, rfl, fun a ha => by simp at ha; rcases ha with rfl | rfl <;> exact ⟨_, _, rfl⟩, fun _ => rfl⟩, rfl, rfl⟩
/-- the heap with a new exception of the class C -/
noncomputable abbrev newX (h : Heap) (C : Addr) (vs : List Value) : Heap := (h.push { cls := .type "tuple", data := .seq vs.toArray }).push { cls := .ref C, data := .fields #[.ref h.objs.size, .none, .none, .none, .bool false, .none] }
theorem exc_mk (ok : StaOk S) (k : ExcK S D P fD fP) : ExcMk S nd := by
  refine ⟨fun {A env outer L g σ s vs ds lim exc Ev} c I r he => ?_⟩
  have X := kIn ok I
  obtain ⟨nm, q, N, bs, bm, sn, sub, ab, col, dd, k0, k1, k2, k3, k5, hC, ht⟩ := k.cls lim
  obtain ⟨oD, cdD, hD, hDt⟩ := k.cD
  obtain ⟨a, b, p0, p1, p2, p3, p4, p5, p6, p7, p8, p9, hab, hpp, hi⟩ := k.iD
  obtain ⟨h, gs, d, t, os⟩ := s
  have nx0 : h.get? (h.objs.size + 1) = none := Heap.get?_none_of_le (Nat.le_succ _)
  have nB : S.B.get? (h.objs.size + 1) = none := by
    cases z : S.B.get? (h.objs.size + 1) with
    | none => rfl
    | some o => have := I.stays _ _ z; rw [nx0] at this; cases this
  have up : ∀ b o, h.get? b = some o → (newX h (S.ec lim) vs).get? b = some o := fun b o e => Heap.get?_push_of_some _ (Heap.get?_push_of_some _ e)
  have hget : (newX h (S.ec lim) vs).get? (h.objs.size + 1) = some { cls := .ref (S.ec lim), data := .fields #[.ref h.objs.size, .none, .none, .none, .bool false, .none] } := by heap_get
  have st : S.B.StaysIn (newX h (S.ec lim) vs) := fun b o e => up _ _ (I.stays b o e)
  have dp := c.depth
  have hC1 := X _ _ hC
  obtain ⟨cd, oC, hc, hm, hh, hC', hCt⟩ : ∃ cd oC, clsIn S.K (S.ec lim) = some cd ∧ cd.mro = .ref (S.ec lim) :: bm ∧ cd.hasDict = true ∧ S.K.lookup (S.ec lim) = some oC ∧ oC.data = .cls cd := ⟨_, _, by unfold clsIn; rw [hC], rfl, rfl, hC, rfl⟩
  have ht' : excTail cd.mro = true := by rw [hm]; exact ht
  have hal := k.aD lim
  rw [hc, Option.bind_some] at hal
  cases lim with
  | true =>
    obtain ⟨v, w0, rfl, rfl, rv⟩ := exc_one he r
    refine call_exc_own ht hC1 X k.f1 k.tD (by show 1 ≤ sizeLine; rw [sizeLine_eq]; omega) fun A' hA => ?_
    refine fd_init ok k.si hpp hab hi (by omega) st hget rfl nB hD hDt hC' hCt (k.mD true) ht' hh k.no hal (k.sa true) (k.tw true) fun s' hs' => ⟨rfl, ?_⟩
    obtain ⟨b1, T, dx, tk, q1, q2, q3, q4⟩ := hs'
    obtain ⟨mp, n1, n2⟩ := ns_what q4
    exact exc_made I up b1 ⟨rfl, rfl, rfl⟩ nx0 q2 q3 q1 q4 n1 ⟨_, n2, rv⟩ nofun
  | false =>
    obtain ⟨v, u, w0, d0, rfl, rfl, rv, ru⟩ := exc_two he r
    obtain ⟨oP, cdP, hP, hPt⟩ := k.cP
    have hal2 := k.aP
    rw [hc, Option.bind_some] at hal2
    obtain ⟨a', b', c', p0', p1', p2', p3', p4', p5', p6', p7', p8', p9', hab', hac', hbc', hpp', hi'⟩ := k.iP
    obtain ⟨od, fd, osl, cc, oc1, od1, osl1, co, oc2, od2, osl2, vs2, file, tf, z1⟩ := id hi
    refine call_exc_own ht hC1 X k.f0 k.tP (by show 2 ≤ sizeLine; rw [sizeLine_eq]; omega) fun A' hA => ?_
    refine sp_init ok k.si hpp' hab' hac' hbc' hi' (by omega) st hget rfl nB hP hPt hC' hCt k.mP ht' hh k.no hal2 z1 rfl rfl (k.sa false) k.ts (fun {A2 s1 R'} hA2 st1 hx1 hR1 => ?_) fun s' hs' => ⟨rfl, ?_⟩
    · exact fd_init ok k.si hpp hab hi (by omega) st1 hx1 rfl nB hD hDt hC' hCt (k.mD false) ht' hh k.no hal (k.sa false) (k.tw false) hR1
    · obtain ⟨b1, T, dx, tk, tk2, q1, q2, q3, q4⟩ := hs'
      obtain ⟨mp, n1, n2, n3⟩ := ns_both q4
      exact exc_made I up b1 ⟨rfl, rfl, rfl⟩ nx0 q2 q3 q1 q4 n1 ⟨_, n2, rv⟩ fun _ => ⟨_, n3, ru⟩
end
end Mine
namespace Mine
open PySem PySem.W PyProof.Rows PySem.Calls PySem.SeqAt
set_option genSizeOf false
set_option genInjectivity false

/-! ALL CALLS -/
theorem call_ok {S : Sta} {D P fD fP : Addr} (ok : StaOk3 S) (k2 : KOk2 S) (hn : NewIn S) (xk : ExcK S D P fD fP) (tabs : ∀ f fn, S.tab f = some fn → FnOk S f fn) : ∀ nd, CallOk S (callN S.tab S.gc nd) nd
  | 0 => ⟨fun _ _ _ _ h => False.elim h, fun _ _ _ h => False.elim h⟩
  | nd + 1 => ⟨fun c I r f0 h => call_fn ok tabs ⟨call_ok ok k2 hn xk tabs nd, new_ok ok.toStaOk hn, exc_mk ok.toStaOk xk⟩ c I r f0 h, fun c I r h => call_lam ok k2 ⟨call_ok ok k2 hn xk tabs nd, new_ok ok.toStaOk hn, exc_mk ok.toStaOk xk⟩ c I r h⟩

/-! WHAT IS TO BE SEEN OF A FUNCTION -/
noncomputable def fnChk (S : Sta) (fd : FuncData) (fn : Fn) (lam : Bool) : Bool := decide (fd.globals = mainGlobals) && decide (fd.builtins = builtinsNs) && fd.closure.isEmpty && (fd.scope.kind == .function) && !fd.scope.isCoroutine && !fd.scope.isGenerator && codeIn S.K fd.code fd.qualname && plainPs fd.params && (match fd.defaults with | .none => true | _ => false) &&
  decide ((fd.params.args.map (·.arg)).Nodup) && (psOf fd.scope.names (fd.params.args.map (·.arg)) == some fn.ps) && decide (fn.size = fd.scope.names.length) && fd.scope.names.all (fun p => p.2 != .free) && (!lam || ((match fd.code with | .ref c => decide (c = S.lc) | _ => false) && decide ((fd.qualname ++ ".<locals>.") ++ "<lambda>" = S.lq)))
noncomputable def bodyOf (fd : FuncData) : List Stmt := match fd.body with | .stmts b => b | _ => []
noncomputable def fnIn (S : Sta) (f : Nat) (fn : Fn) (lam : Bool) : Bool := match S.K.lookup (S.fa f) with
  | some ⟨_, _, .func fd, _⟩ => (match fd.body with | .stmts _ => true | _ => false) && fnChk S fd fn lam
  | _ => false
noncomputable def fdOf (S : Sta) (f : Nat) : Option FuncData := match S.K.lookup (S.fa f) with
  | some ⟨_, _, .func fd, _⟩ => some fd
  | _ => none
theorem fn_ok {S : Sta} (ok : StaOk S) {f : Nat} {fn : Fn} {lam : Bool} {fd : FuncData} (h : fnIn S f fn lam = true) (hd : fdOf S f = some fd) (hc : GSs S fd.scope.names lam (bodyOf fd) fn.body) : FnOk S f fn := by
  unfold fnIn at h
  unfold fdOf at hd
  split at h
  · rename_i oc od fd' osl hl
    rw [hl] at hd
    cases hd
    simp only [Bool.and_eq_true] at h
    obtain ⟨h1, h⟩ := h
    unfold fnChk at h
    simp only [Bool.and_eq_true, beq_iff_eq, Bool.not_eq_true', decide_eq_true_eq, List.isEmpty_iff] at h
    obtain ⟨⟨⟨⟨⟨⟨⟨⟨⟨⟨⟨⟨⟨k1, k2⟩, k3⟩, k4⟩, k5⟩, k6⟩, k7⟩, k8⟩, k9⟩, k10⟩, k11⟩, k12⟩, k13⟩, k14⟩ := h
    have hb : fd.body = .stmts (bodyOf fd) := by
      unfold bodyOf
      split at h1
      · rename_i q; rw [q]
      · cases h1
    refine ⟨oc, od, fd, osl, bodyOf fd, lam, ok.K _ _ hl, hb, ⟨k1, k2, k3, by revert k4; cases fd.scope.kind <;> decide, k5, k6, codeRec_of ok.K k7, k8, ?_, k10, k11, k12, fun x i q => ?_, fun hlam => ?_⟩, hc⟩
    · split at k9
      · assumption
      · cases k9
    · have := List.all_eq_true.mp k13 _ (idxOf_mem q)
      exact absurd (show (NameKind.free != NameKind.free) = true from this) (by decide)
    · rw [hlam] at k14
      simp only [Bool.not_true, Bool.false_or, Bool.and_eq_true, decide_eq_true_eq] at k14
      obtain ⟨m1, m2⟩ := k14
      refine ⟨?_, m2⟩
      split at m1
      · rename_i c hc; rw [hc, of_decide_eq_true m1]
      · cases m1
  · cases h

/-! WHAT IS TO BE SEEN OF THE NAMES -/
theorem mg_not {K : Frag} {h : Heap} {mg : Str → Option Value} {n : Str} (X : K.In h) (G : h.Ns mainGlobals mg) (e : nsIn K mainGlobals n = some none) : mg n = none := by
  obtain ⟨o, es, ep, ho, hd, _, hf⟩ := G
  unfold nsIn at e
  split at e
  · rename_i c d es' n' sl q
    have := X _ _ q
    rw [ho] at this
    cases this
    cases hd
    split at e
    · cases e
    · rename_i hn
      rw [← hf]
      simp only [nsFind, findBy, Option.map_eq_none_iff]
      rw [← Array.find?_toList]
      exact hn
  · cases e
noncomputable def funsIn (S : Sta) : Bool := S.cx.funs.all fun p => (p.2 != 0) && keepIn S.K (.ref (S.fa p.2)) && (nsIn S.K mainGlobals p.1 == some (some (.ref (S.fa p.2))))
noncomputable def methsIn (S : Sta) : Bool := S.cx.meths.all fun p => (p.2 != 0) && keepIn S.K (.ref (S.fa p.2)) && decide (p.1 ≠ Str.ofString "scope") && (findIn S.K (.ref S.cev) p.1 == some (some (.ref (S.fa p.2)))) && (typeIn S.K (.ref (S.fa p.2)) == some (.type "function"))
structure KSeen (S : Sta) : Prop where
  fu : funsIn S = true
  me : methsIn S = true
  ek : keepIn S.K (.ref S.cev) = true
  eg : nsIn S.K mainGlobals (Str.ofString "Evaluator") = some (some (.ref S.cev))
  xCl : ∀ b, isClsIn S.K (S.ec b) = true
  xTy : ∀ b, typeIn S.K (.ref (S.ec b)) = some (.type "type")
  xTu : ∀ b, instIn S.K (.ref (S.ec b)) (.type "tuple") = some false
  xEq : ∀ a b, mroIn S.K (S.ec a) (.ref (S.ec b)) = some (a == b)
  xKp : ∀ b, keepIn S.K (.ref (S.ec b)) = true
  xF : nsIn S.K mainGlobals (Str.ofString "EvalFault") = some (some (.ref (S.ec false)))
  xL : nsIn S.K mainGlobals (Str.ofString "LimitFault") = some (some (.ref (S.ec true)))
  fr : ownNames.all (fun x => nsIn S.K mainGlobals x == some none) = true
theorem k_ok2 {S : Sta} (ok : StaOk S) (k : KSeen S) : KOk2 S where
  fk := fun x f h => by
    have := List.all_eq_true.mp k.fu _ (lookT_mem h)
    simp only [Bool.and_eq_true, bne_iff_ne, ne_eq] at this
    exact ⟨this.1.1, this.1.2⟩
  mt := fun x f h => by
    have := List.all_eq_true.mp k.me _ (lookT_mem h)
    simp only [Bool.and_eq_true, bne_iff_ne, ne_eq, decide_eq_true_eq, beq_iff_eq] at this
    obtain ⟨⟨⟨⟨h1, h2⟩, h3⟩, h4⟩, h5⟩ := this
    exact ⟨h1, h2, h3, h4, h5⟩
  ek := k.ek
  eg := mg_of ok.K ok.g k.eg
  xCl := k.xCl
  xTy := k.xTy
  xTu := k.xTu
  xEq := k.xEq
  xKp := k.xKp
  xF := mg_of ok.K ok.g k.xF
  xL := mg_of ok.K ok.g k.xL
theorem sta3 {S : Sta} (ok : StaOk S) (k : KSeen S) (ko : KOk S) (cons : ∀ x i, lookT S.cx.cons x = some i → ∃ v, S.mg x = some v ∧ PV S.w.params S.B (fun _ => .fz) v (S.gc i)) : StaOk3 S where
  toStaOk := ok
  cons := cons
  funs := fun x f h => by
    have := List.all_eq_true.mp k.fu _ (lookT_mem h)
    simp only [Bool.and_eq_true, beq_iff_eq] at this
    exact mg_of ok.K ok.g this.2
  free := fun x hx => mg_not ok.K ok.g (beq_iff_eq.mp (List.all_eq_true.mp k.fr x hx))
  ko := ko
end Mine
namespace Mine
open PySem PySem.W PyProof.Rows
set_option genSizeOf false
set_option genInjectivity false
set_option maxRecDepth 100000
set_option maxHeartbeats 0
noncomputable def fn1 : Fn := ⟨2, [0, 1], [
  (.ret (.ite (.op .le (.v 0) (.v 1)) (.tup [(.tup [(.v 0), (.v 1)])]) (.tup [])))]⟩
noncomputable def fn2 : Fn := ⟨5, [0, 1], [
  (.for (.t [(.n 2), (.n 3)]) (.v 0) [(.ite (.op .le (.v 1) (.v 3)) [(.ret (.prim .max [(.v 2), (.v 1)]))] [])]), (.ret (.c .none))]⟩
noncomputable def fn3 : Fn := ⟨3, [0, 1], [
  (.ret (.op .eq (.call 2 [(.v 0), (.v 1)]) (.v 1)))]⟩
noncomputable def fn4 : Fn := ⟨5, [0], [
  (.ret (.and (.prim .isi [(.v 0), (.ty "tuple")]) (.and (.op .eq (.prim .len [(.v 0)]) (.c (.int 2))) (.prim .isi [(.sub (.v 0) (.c (.int 1))), (.ty "list")]))))]⟩
noncomputable def fn5 : Fn := ⟨4, [0], [
  (.ret (.and (.prim .isi [(.v 0), (.ty "tuple")]) (.not (.call 4 [(.v 0)]))))]⟩
noncomputable def fn6 : Fn := ⟨5, [0, 1], [
  (.ite (.prim .isi [(.v 0), (.ty "int")]) [(.ret (.prim .int [(.v 0)]))] []), (.raise false [(.c (.str ⟨#[97,32,110,117,109,98,101,114,32,105,115,32,119,97,110,116,101,100]⟩)), (.v 1)])]⟩
noncomputable def fn7 : Fn := ⟨5, [0, 1], [
  (.ite (.prim .isi [(.v 0), (.ty "bool")]) [(.ret (.v 0))] []), (.raise false [(.c (.str ⟨#[116,114,117,101,32,111,114,32,102,97,108,115,101,32,105,115,32,119,97,110,116,101,100]⟩)), (.v 1)])]⟩
noncomputable def fn8 : Fn := ⟨4, [0, 1], [
  (.ite (.call 5 [(.v 0)]) [(.ret (.v 0))] []), (.raise false [(.c (.str ⟨#[97,32,115,101,116,32,105,115,32,119,97,110,116,101,100]⟩)), (.v 1)])]⟩
noncomputable def fn9 : Fn := ⟨6, [0, 1], [
  (.ite (.op .ge (.op .sub (.v 1) (.v 0)) (.g 0)) [(.raise true [(.fstr [(.c (.str ⟨#[97,32,115,101,116,32,104,97,115,32,97,116,32,109,111,115,116,32]⟩)), (.g 0), (.c (.str ⟨#[32,110,117,109,98,101,114,115]⟩))])])] []), (.ret (.prim .tuple [(.prim .range [(.v 0), (.op .add (.v 1) (.c (.int 1)))])]))]⟩
noncomputable def fn10 : Fn := ⟨4, [0], [
  (.ite (.op .ge (.prim .abs [(.v 0)]) (.op .pow (.c (.int 10)) (.g 1))) [(.raise true [(.fstr [(.c (.str ⟨#[97,32,110,117,109,98,101,114,32,104,97,115,32,97,116,32,109,111,115,116,32]⟩)), (.g 1), (.c (.str ⟨#[32,102,105,103,117,114,101,115]⟩))])])] []), (.ret (.v 0))]⟩
noncomputable def fn11 : Fn := ⟨9, [0, 1, 2], [
  (.asgs [3, 4] [(.prim .set [(.v 1)]), (.prim .set [(.v 2)])]), (.ite (.op .eq (.v 0) (.c (.str ⟨#[117,110,105,111,110]⟩))) [(.ret (.prim .tuple [(.prim .sorted [(.op .add (.v 1) (.prim .tuple [(.comp false (.w 1) (.n 1) (.v 2) (some (.op .notin (.w 1) (.v 3))))]))])]))] []), (.ite (.op .eq (.v 0) (.c (.str ⟨#[105,110,116,101,114,115,101,99,116]⟩))) [(.ret (.prim .tuple [(.comp false (.w 1) (.n 1) (.v 1) (some (.op .isin (.w 1) (.v 4))))]))] []), (.asg 5 (.comp false (.w 1) (.n 1) (.v 1) (some (.op .notin (.w 1) (.v 4))))), (.ret (.ite (.op .eq (.v 0) (.c (.str ⟨#[115,121,109,100,105,102,102]⟩))) (.prim .tuple [(.prim .sorted [(.op .add (.v 5) (.comp false (.w 1) (.n 1) (.v 2) (some (.op .notin (.w 1) (.v 3)))))])]) (.prim .tuple [(.v 5)])))]⟩
noncomputable def fn12 : Fn := ⟨7, [0, 1, 2, 3], [
  (.ite (.op .eq (.v 0) (.c (.str ⟨#[43]⟩))) [(.ret (.call 10 [(.op .add (.v 1) (.v 2))]))] []), (.ite (.op .eq (.v 0) (.c (.str ⟨#[45]⟩))) [(.ret (.call 10 [(.op .sub (.v 1) (.v 2))]))] []), (.ite (.op .eq (.v 0) (.c (.str ⟨#[42]⟩))) [(.ret (.call 10 [(.op .mul (.v 1) (.v 2))]))] []), (.ite (.op .eq (.v 0) (.c (.str ⟨#[100,105,118]⟩))) [.bad] []), (.ite (.op .eq (.v 0) (.c (.str ⟨#[109,111,100]⟩))) [.bad] []), .bad]⟩
noncomputable def fn13 : Fn := ⟨4, [0, 1], [
  (.asg 2 (.sub (.v 0) (.c (.str ⟨#[107]⟩)))), (.seti (.v 0) (.c (.str ⟨#[107]⟩)) (.op .add (.v 2) (.c (.int 1)))), (.ite (.op .lt (.v 2) (.prim .len [(.sub (.v 0) (.c (.str ⟨#[99,101,108,108,115]⟩)))])) [(.ret (.op .mod (.sub (.sub (.v 0) (.c (.str ⟨#[99,101,108,108,115]⟩))) (.v 2)) (.v 1)))] []), (.ret (.op .mod (.op .mod (.op .add (.op .add (.op .add (.op .mul (.op .mul (.c (.int 3)) (.v 2)) (.v 2)) (.op .mul (.c (.int 7)) (.v 2))) (.op .mul (.c (.int 5)) (.prim .len [(.sub (.v 0) (.c (.str ⟨#[99,101,108,108,115]⟩)))]))) (.c (.int 1))) (.c (.int 97))) (.v 1)))]⟩
noncomputable def fn14 : Fn := ⟨1, [0], [
  (.seti (.v 0) (.c (.str ⟨#[115,112,111,116]⟩)) (.op .add (.sub (.v 0) (.c (.str ⟨#[115,112,111,116]⟩))) (.c (.int 1)))), (.ret (.sub (.v 0) (.c (.str ⟨#[115,112,111,116]⟩))))]⟩
noncomputable def fn15 : Fn := ⟨4, [0], [
  (.asg 1 (.ite (.op .eq (.call 13 [(.v 0), (.c (.int 2))]) (.c (.int 1))) (.sub (.sub (.v 0) (.c (.str ⟨#[114,111,119]⟩))) (.neg (.c (.int 1)))) (.c (.int 0)))), (.asg 2 (.op .sub (.op .add (.op .pow (.c (.int 10)) (.call 13 [(.v 0), (.c (.int 41))])) (.call 13 [(.v 0), (.c (.int 4))])) (.c (.int 2)))), (.ex (.lm .append (.sub (.v 0) (.c (.str ⟨#[114,111,119]⟩))) [(.ite (.op .eq (.call 13 [(.v 0), (.c (.int 3))]) (.c (.int 2))) (.op .sub (.v 1) (.v 2)) (.op .add (.v 1) (.v 2)))])), (.ret (.sub (.sub (.v 0) (.c (.str ⟨#[114,111,119]⟩))) (.neg (.c (.int 1)))))]⟩
noncomputable def fn16 : Fn := ⟨3, [0], [
  (.ret (.sub (.tup [(.tup [(.c (.str ⟨#[110,97,109,101]⟩)), (.call 14 [(.v 0)]), (.c (.str ⟨#[122]⟩))]), (.tup [(.c (.str ⟨#[110,97,109,101]⟩)), (.call 14 [(.v 0)]), (.c (.str ⟨#[115]⟩))]), (.tup [(.c (.str ⟨#[115,116,114]⟩)), (.call 14 [(.v 0)]), (.c (.str ⟨#[119]⟩))]), (.tup [(.c (.str ⟨#[110,97,109,101]⟩)), (.call 14 [(.v 0)]), (.c (.str ⟨#[114]⟩))])]) (.call 13 [(.v 0), (.c (.int 4))])))]⟩
noncomputable def fn17 : Fn := ⟨7, [0], [
  (.asgs [1, 2] [(.call 13 [(.v 0), (.c (.int 14))]), (.call 14 [(.v 0)])]), (.ite (.op .lt (.v 1) (.c (.int 6))) [(.ret (.tup [(.c (.str ⟨#[105,110,116]⟩)), (.v 2), (.call 15 [(.v 0)])]))] []), (.ite (.op .lt (.v 1) (.c (.int 8))) [(.ret (.tup [(.c (.str ⟨#[98,105,110]⟩)), (.v 2), (.c (.str ⟨#[43]⟩)), (.tup [(.c (.str ⟨#[105,110,116]⟩)), (.call 14 [(.v 0)]), (.call 15 [(.v 0)])]), (.tup [(.c (.str ⟨#[105,110,116]⟩)), (.call 14 [(.v 0)]), (.op .sub (.call 13 [(.v 0), (.c (.int 3))]) (.c (.int 1)))])]))] []), (.ite (.op .eq (.v 1) (.c (.int 8))) [(.ret (.tup [(.c (.str ⟨#[117,110]⟩)), (.v 2), (.c (.str ⟨#[45]⟩)), (.tup [(.c (.str ⟨#[105,110,116]⟩)), (.call 14 [(.v 0)]), (.call 15 [(.v 0)])])]))] []), (.ite (.op .eq (.v 1) (.c (.int 9))) [(.ret (.tup [(.c (.str ⟨#[98,105,110]⟩)), (.v 2), (.c (.str ⟨#[43]⟩)), (.tup [(.c (.str ⟨#[110,97,109,101]⟩)), (.call 14 [(.v 0)]), (.c (.str ⟨#[119]⟩))]), (.tup [(.c (.str ⟨#[98,111,111,108]⟩)), (.call 14 [(.v 0)]), (.c (.bool true))])]))] []), (.ite (.op .eq (.v 1) (.c (.int 10))) [(.ret (.tup [(.c (.str ⟨#[98,105,110]⟩)), (.v 2), (.c (.str ⟨#[43]⟩)), (.tup [(.c (.str ⟨#[110,97,109,101]⟩)), (.call 14 [(.v 0)]), (.c (.str ⟨#[98]⟩))]), (.call 16 [(.v 0)])]))] []), (.ite (.op .lt (.v 1) (.c (.int 13))) [(.ret (.ite (.op .eq (.v 1) (.c (.int 11))) (.tup [(.c (.str ⟨#[110,97,109,101]⟩)), (.v 2), (.c (.str ⟨#[119]⟩))]) (.tup [(.c (.str ⟨#[98,111,111,108]⟩)), (.v 2), (.op .eq (.call 13 [(.v 0), (.c (.int 2))]) (.c (.int 0)))])))] []), (.ret (.call 16 [(.v 0)]))]⟩
noncomputable def fn18 : Fn := ⟨8, [0], [
  (.asgs [1, 2] [(.call 13 [(.v 0), (.c (.int 8))]), (.call 14 [(.v 0)])]), (.ite (.op .lt (.v 1) (.c (.int 4))) [(.asg 3 (.op .sub (.call 13 [(.v 0), (.c (.int 9))]) (.c (.int 4)))), (.ex (.lm .append (.sub (.v 0) (.c (.str ⟨#[114,111,119]⟩))) [(.op .sub (.op .add (.v 3) (.call 13 [(.v 0), (.c (.int 6))])) (.c (.int 1)))])), (.ret (.tup [(.c (.str ⟨#[114,97,110,103,101]⟩)), (.v 2), (.tup [(.c (.str ⟨#[105,110,116]⟩)), (.call 14 [(.v 0)]), (.v 3)]), (.tup [(.c (.str ⟨#[105,110,116]⟩)), (.call 14 [(.v 0)]), (.sub (.sub (.v 0) (.c (.str ⟨#[114,111,119]⟩))) (.neg (.c (.int 1))))])]))] []), (.ite (.op .eq (.v 1) (.c (.int 4))) [(.ret (.tup [(.c (.str ⟨#[110,97,109,101]⟩)), (.v 2), (.c (.str ⟨#[115]⟩))]))] []), (.ite (.op .eq (.v 1) (.c (.int 5))) [(.ret (.tup [(.c (.str ⟨#[110,97,109,101]⟩)), (.v 2), (.sub (.tup [(.c (.str ⟨#[115]⟩)), (.c (.str ⟨#[119]⟩)), (.c (.str ⟨#[122]⟩)), (.c (.str ⟨#[114]⟩))]) (.call 13 [(.v 0), (.c (.int 4))]))]))] []), (.ret (.tup [(.c (.str ⟨#[115,101,116]⟩)), (.v 2), (.prim .tuple [(.comp false (.call 17 [(.v 0)]) (.n 1) (.prim .range [(.call 13 [(.v 0), (.c (.int 4))])]) none)])]))]⟩
noncomputable def fn19 : Fn := ⟨11, [0], [
  (.asgs [1, 2] [(.call 13 [(.v 0), (.c (.int 10))]), (.call 14 [(.v 0)])]), (.ite (.op .lt (.v 1) (.c (.int 5))) [(.asg 3 (.call 17 [(.v 0)])), (.ret (.tup [(.c (.str ⟨#[114,97,110,103,101]⟩)), (.v 2), (.v 3), (.call 17 [(.v 0)])]))] []), (.ite (.op .lt (.v 1) (.c (.int 8))) [(.asg 4 (.sub (.tup [(.c (.str ⟨#[117,110,105,111,110]⟩)), (.c (.str ⟨#[100,105,102,102]⟩)), (.c (.str ⟨#[115,121,109,100,105,102,102]⟩)), (.c (.str ⟨#[105,110,116,101,114,115,101,99,116]⟩))]) (.call 13 [(.v 0), (.c (.int 4))]))), (.asg 5 (.call 18 [(.v 0)])), (.ret (.tup [(.c (.str ⟨#[98,105,110]⟩)), (.v 2), (.v 4), (.v 5), (.call 18 [(.v 0)])]))] []), (.ret (.ite (.op .eq (.v 1) (.c (.int 8))) (.call 18 [(.v 0)]) (.call 16 [(.v 0)])))]⟩
noncomputable def fn20 : Fn := ⟨10, [0], [
  (.asgs [1, 2, 3] [(.call 13 [(.v 0), (.c (.int 10))]), (.call 14 [(.v 0)]), (.sub (.v 0) (.c (.str ⟨#[114,111,119]⟩)))]), (.asg 4 (.op .sub (.op .add (.sub (.v 3) (.op .sub (.op .sub (.prim .len [(.v 3)]) (.c (.int 1))) (.call 13 [(.v 0), (.prim .min [(.c (.int 4)), (.prim .len [(.v 3)])])]))) (.call 13 [(.v 0), (.c (.int 3))])) (.c (.int 1)))), (.ite (.op .lt (.v 1) (.c (.int 7))) [(.ret (.tup [(.c (.str ⟨#[105,110,116]⟩)), (.v 2), (.v 4)]))] []), (.ite (.op .eq (.v 1) (.c (.int 7))) [(.ret (.tup [(.c (.str ⟨#[98,105,110]⟩)), (.v 2), (.c (.str ⟨#[43]⟩)), (.tup [(.c (.str ⟨#[105,110,116]⟩)), (.call 14 [(.v 0)]), (.op .sub (.v 4) (.c (.int 1)))]), (.tup [(.c (.str ⟨#[110,97,109,101]⟩)), (.call 14 [(.v 0)]), (.c (.str ⟨#[98]⟩))])]))] []), (.ret (.ite (.op .eq (.v 1) (.c (.int 8))) (.tup [(.c (.str ⟨#[110,97,109,101]⟩)), (.v 2), (.sub (.tup [(.c (.str ⟨#[98]⟩)), (.c (.str ⟨#[119]⟩))]) (.call 13 [(.v 0), (.c (.int 2))]))]) (.call 16 [(.v 0)])))]⟩
noncomputable def fn21 : Fn := ⟨2, [0, 1], [
  (.ite (.op .eq (.sub (.v 0) (.c (.int 0))) (.c (.str ⟨#[116,114,117,116,104]⟩))) [(.ret (.tup [(.c (.str ⟨#[110,117,109,98,101,114]⟩)), (.ite (.sub (.v 0) (.c (.int 1))) (.c (.int 1)) (.c (.int 0)))]))] []), (.ret (.ite (.op .isin (.sub (.v 0) (.c (.int 0))) (.tup [(.c (.str ⟨#[110,117,109,98,101,114]⟩)), (.c (.str ⟨#[98,97,100]⟩))])) (.v 0) (.tup [(.c (.str ⟨#[98,97,100]⟩)), (.c (.str ⟨#[97,32,110,117,109,98,101,114,32,105,115,32,119,97,110,116,101,100]⟩)), (.v 1)])))]⟩
noncomputable def fn22 : Fn := ⟨8, [0, 1], [
  (.asgs [2, 3] [(.sub (.v 0) (.c (.int 0))), (.sub (.v 0) (.c (.int 1)))]), (.ite (.op .isin (.v 2) (.tup [(.c (.str ⟨#[105,110,116]⟩)), (.c (.str ⟨#[98,111,111,108]⟩)), (.c (.str ⟨#[115,116,114]⟩))])) [(.ret (.tup [(.sub (.dct false [(⟨#[105,110,116]⟩, (.c (.str ⟨#[110,117,109,98,101,114]⟩))), (⟨#[98,111,111,108]⟩, (.c (.str ⟨#[116,114,117,116,104]⟩))), (⟨#[115,116,114]⟩, (.c (.str ⟨#[116,101,120,116]⟩)))]) (.v 2)), (.sub (.v 0) (.c (.int 2)))]))] []), (.ite (.op .eq (.v 2) (.c (.str ⟨#[110,97,109,101]⟩))) [(.ret (.ite (.op .isin (.sub (.v 0) (.c (.int 2))) (.v 1)) (.sub (.v 1) (.sub (.v 0) (.c (.int 2)))) (.tup [(.c (.str ⟨#[98,97,100]⟩)), (.op .add (.sub (.v 0) (.c (.int 2))) (.c (.str ⟨#[32,104,97,115,32,110,111,32,118,97,108,117,101]⟩))), (.v 3)])))] []), (.asg 4 (.ite (.op .eq (.v 2) (.c (.str ⟨#[115,101,116]⟩))) (.sub (.v 0) (.c (.int 2))) (.ite (.op .eq (.v 2) (.c (.str ⟨#[114,97,110,103,101]⟩))) (.slice (.v 0) (some 2) (some 4)) (.slice (.v 0) (some 3) none)))), (.asg 5 (.comp false (.call 22 [(.w 1), (.v 1)]) (.n 1) (.v 4) none)), (.asg 6 (.comp false (.w 1) (.n 1) (.v 5) (some (.op .eq (.sub (.w 1) (.c (.int 0))) (.c (.str ⟨#[98,97,100]⟩)))))), (.ite (.op .ne (.v 6) (.lst false [])) [(.ret (.sub (.v 6) (.c (.int 0))))] []), (.ite (.and (.op .eq (.v 2) (.c (.str ⟨#[98,105,110]⟩))) (.op .ne (.sub (.v 0) (.c (.int 2))) (.c (.str ⟨#[43]⟩)))) [(.ite (.op .ne (.comp false (.w 1) (.n 1) (.v 5) (some (.op .ne (.sub (.w 1) (.c (.int 0))) (.c (.str ⟨#[115,101,116]⟩))))) (.lst false [])) [(.ret (.tup [(.c (.str ⟨#[98,97,100]⟩)), (.c (.str ⟨#[97,32,115,101,116,32,105,115,32,119,97,110,116,101,100]⟩)), (.v 3)]))] []), (.ret (.tup [(.c (.str ⟨#[115,101,116]⟩)), (.tup [(.sub (.v 0) (.c (.int 2))), (.sub (.sub (.v 5) (.c (.int 0))) (.c (.int 1))), (.sub (.sub (.v 5) (.c (.int 1))) (.c (.int 1)))])]))] []), (.asg 5 (.comp false (.call 21 [(.w 1), (.v 3)]) (.n 1) (.v 5) none)), (.asg 6 (.comp false (.w 1) (.n 1) (.v 5) (some (.op .eq (.sub (.w 1) (.c (.int 0))) (.c (.str ⟨#[98,97,100]⟩)))))), (.ite (.op .ne (.v 6) (.lst false [])) [(.ret (.sub (.v 6) (.c (.int 0))))] []), (.asg 7 (.comp false (.sub (.w 1) (.c (.int 1))) (.n 1) (.v 5) none)), (.ite (.or (.op .eq (.v 2) (.c (.str ⟨#[115,101,116]⟩))) (.op .eq (.v 2) (.c (.str ⟨#[114,97,110,103,101]⟩)))) [(.ret (.tup [(.c (.str ⟨#[115,101,116]⟩)), (.ite (.op .eq (.v 2) (.c (.str ⟨#[115,101,116]⟩))) (.v 7) (.tup [(.c (.str ⟨#[101,110,100,115]⟩)), (.sub (.v 7) (.c (.int 0))), (.sub (.v 7) (.c (.int 1)))]))]))] []), (.ret (.tup [(.c (.str ⟨#[110,117,109,98,101,114]⟩)), (.ite (.op .eq (.v 2) (.c (.str ⟨#[98,105,110]⟩))) (.op .add (.sub (.v 7) (.c (.int 0))) (.sub (.v 7) (.c (.int 1)))) (.op .sub (.c (.int 0)) (.sub (.v 7) (.c (.int 0)))))]))]⟩
noncomputable def fn23 : Fn := ⟨11, [0, 1], [
  (.ite (.prim .isi [(.v 1), (.ty "list")]) [(.ret (.op .ne (.comp false (.w 1) (.n 1) (.v 1) (some (.op .eq (.w 1) (.v 0)))) (.lst false [])))] []), (.unp [3, 2, 4] (.v 1)), (.ite (.op .eq (.v 3) (.c (.str ⟨#[101,110,100,115]⟩))) [(.ret (.op .eq (.prim .sorted [(.lst false [(.v 2), (.v 0), (.v 4)])]) (.lst false [(.v 2), (.v 0), (.v 4)])))] []), (.asgs [5, 6] [(.call 23 [(.v 0), (.v 2)]), (.call 23 [(.v 0), (.v 4)])]), (.ite (.op .eq (.v 3) (.c (.str ⟨#[117,110,105,111,110]⟩))) [(.ret (.or (.v 5) (.v 6)))] []), (.ite (.op .eq (.v 3) (.c (.str ⟨#[115,121,109,100,105,102,102]⟩))) [(.ret (.op .ne (.v 5) (.v 6)))] []), (.ret (.and (.v 5) (.op .eq (.v 6) (.op .eq (.v 3) (.c (.str ⟨#[105,110,116,101,114,115,101,99,116]⟩))))))]⟩
noncomputable def fn24 : Fn := ⟨9, [0, 1, 2, 3], [
  (.asgs [4, 5] [(.call 22 [(.v 0), (.v 2)]), (.call 22 [(.v 1), (.v 2)])]), (.ite (.or (.op .eq (.sub (.v 4) (.c (.int 0))) (.c (.str ⟨#[98,97,100]⟩))) (.op .eq (.sub (.v 5) (.c (.int 0))) (.c (.str ⟨#[98,97,100]⟩)))) [(.ret (.ite (.op .eq (.sub (.v 4) (.c (.int 0))) (.c (.str ⟨#[98,97,100]⟩))) (.v 4) (.v 5)))] []), (.asg 4 (.call 21 [(.v 4), (.v 3)])), (.ite (.op .eq (.sub (.v 4) (.c (.int 0))) (.c (.str ⟨#[98,97,100]⟩))) [(.ret (.v 4))] []), (.ret (.ite (.op .eq (.sub (.v 5) (.c (.int 0))) (.c (.str ⟨#[115,101,116]⟩))) (.tup [(.c (.str ⟨#[116,111,108,100]⟩)), (.call 23 [(.sub (.v 4) (.c (.int 1))), (.sub (.v 5) (.c (.int 1)))])]) (.tup [(.c (.str ⟨#[98,97,100]⟩)), (.c (.str ⟨#[97,32,115,101,116,32,105,115,32,119,97,110,116,101,100]⟩)), (.v 3)])))]⟩
noncomputable def fn25 : Fn := ⟨4, [0], [
  (.try [(.ret (.tup [(.c (.str ⟨#[116,111,108,100]⟩)), (.lcall 0)]))] [(false, ((some 1), [(.ret (.tup [(.c (.str ⟨#[98,97,100]⟩)), (.fault 1 false), (.fault 1 true)]))])), (true, (none, [(.ret (.tup [(.c (.str ⟨#[108,105,109,105,116]⟩)), (.c (.int 0))]))]))])]⟩
noncomputable def fn26 : Fn := ⟨26, [0], [
  (.asg 1 (.dct true [(⟨#[99,101,108,108,115]⟩, (.comp false (.op .mod (.prim .int [(.w 1)]) (.c (.int 1000003))) (.n 1) (.slice (.v 0) none (some 60)) none)), (⟨#[107]⟩, (.c (.int 0))), (⟨#[115,112,111,116]⟩, (.c (.int 0))), (⟨#[114,111,119]⟩, (.lst true [(.c (.int 0))]))])), (.asg 2 (.comp false (.w 1) (.n 1) (.prim .range [(.neg (.c (.int 2))), (.c (.int 4))]) (some (.op .eq (.call 13 [(.v 1), (.c (.int 2))]) (.c (.int 0)))))), (.asg 3 (.call 15 [(.v 1)])), (.asg 10 (.dct false [(⟨#[119]⟩, (.v 3)), (⟨#[98]⟩, (.c (.bool true))), (⟨#[115]⟩, (.prim .tuple [(.v 2)])), (⟨#[114]⟩, (.tup [(.tup [(.tup [(.c (.int 1)), (.c (.int 2))])]), (.lst false [(.c (.int 1)), (.c (.int 2))])]))])), (.asg 4 (.dct false [(⟨#[119]⟩, (.tup [(.c (.str ⟨#[110,117,109,98,101,114]⟩)), (.v 3)])), (⟨#[98]⟩, (.tup [(.c (.str ⟨#[116,114,117,116,104]⟩)), (.c (.bool true))])), (⟨#[115]⟩, (.tup [(.c (.str ⟨#[115,101,116]⟩)), (.v 2)])), (⟨#[114]⟩, (.tup [(.c (.str ⟨#[97,114,114,97,121]⟩)), (.c (.int 0))]))])), (.asg 5 (.prim .repr [(.v 10)])), (.for (.n 6) (.prim .range [(.c (.int 10))]) [(.asg 12 (.call 19 [(.v 1)])), (.asg 11 (.call 20 [(.v 1)])), (.asg 13 (.call 14 [(.v 1)])), (.asg 7 (.call 24 [(.v 11), (.v 12), (.v 4), (.v 13)])), (.try [(.asg 8 (.tup [(.c (.str ⟨#[116,111,108,100]⟩)), (.meth 31 (.new (.v 10)) [(.c (.str ⟨#[105,110]⟩)), (.v 11), (.v 12), (.v 13)])]))] [(false, ((some 9), [(.asg 8 (.tup [(.c (.str ⟨#[98,97,100]⟩)), (.fault 9 false), (.fault 9 true)]))])), (true, (none, [(.asg 8 (.tup [(.c (.str ⟨#[108,105,109,105,116]⟩)), (.c (.int 0))]))]))]), (.ite (.op .ne (.prim .repr [(.v 8)]) (.prim .repr [(.v 7)])) [(.ret (.c (.bool false)))] []), (.asg 8 (.call 25 [(.lam (.meth 27 (.new (.v 10)) [(.tup [(.c (.str ⟨#[117,110]⟩)), (.c (.int 0)), (.c (.str ⟨#[110,111,116]⟩)), (.tup [(.c (.str ⟨#[98,105,110]⟩)), (.v 13), (.c (.str ⟨#[105,110]⟩)), (.v 11), (.v 12)])])]) [10, 11, 12, 13])])), (.ite (.or (.op .ne (.prim .repr [(.v 8)]) (.prim .repr [(.ite (.op .eq (.sub (.v 7) (.c (.int 0))) (.c (.str ⟨#[116,111,108,100]⟩))) (.tup [(.c (.str ⟨#[116,111,108,100]⟩)), (.not (.sub (.v 7) (.c (.int 1))))]) (.v 7))])) (.op .ne (.prim .repr [(.v 10)]) (.v 5))) [(.ret (.c (.bool false)))] [])]), (.ret (.c (.bool true)))]⟩
noncomputable def fn27 : Fn := ⟨7, [0, 1], [
  (.asgs [2, 3] [(.sub (.v 1) (.c (.int 0))), (.sub (.v 1) (.c (.int 1)))]), (.ite (.op .isin (.v 2) (.tup [(.c (.str ⟨#[105,110,116]⟩)), (.c (.str ⟨#[98,111,111,108]⟩)), (.c (.str ⟨#[115,116,114]⟩))])) [(.ret (.sub (.v 1) (.c (.int 2))))] []), (.ite (.op .eq (.v 2) (.c (.str ⟨#[110,97,109,101]⟩))) [(.ite (.op .notin (.sub (.v 1) (.c (.int 2))) (.scope (.v 0))) [(.raise false [(.fstr [(.sub (.v 1) (.c (.int 2))), (.c (.str ⟨#[32,104,97,115,32,110,111,32,118,97,108,117,101]⟩))]), (.v 3)])] []), (.ret (.sub (.scope (.v 0)) (.sub (.v 1) (.c (.int 2)))))] []), (.ite (.op .eq (.v 2) (.c (.str ⟨#[98,105,110]⟩))) [(.ret (.meth 31 (.v 0) [(.sub (.v 1) (.c (.int 2))), (.sub (.v 1) (.c (.int 3))), (.sub (.v 1) (.c (.int 4))), (.v 3)]))] []), (.ite (.op .eq (.v 2) (.c (.str ⟨#[117,110]⟩))) [(.ret (.meth 30 (.v 0) [(.sub (.v 1) (.c (.int 2))), (.sub (.v 1) (.c (.int 3))), (.v 3)]))] []), (.ite (.and (.op .eq (.v 2) (.c (.str ⟨#[99,97,108,108]⟩))) (.and (.op .eq (.sub (.v 1) (.c (.int 2))) (.c (.str ⟨#[97,115,115,101,114,116]⟩))) (.op .isin (.prim .len [(.sub (.v 1) (.c (.int 3)))]) (.tup [(.c (.int 2)), (.c (.int 3))])))) [.bad] []), (.ite (.op .eq (.v 2) (.c (.str ⟨#[99,97,108,108]⟩))) [.bad] []), (.ite (.op .eq (.v 2) (.c (.str ⟨#[103,101,110]⟩))) [.bad] []), (.ite (.op .eq (.v 2) (.c (.str ⟨#[105,110,100,101,120]⟩))) [.bad] []), (.ite (.op .eq (.v 2) (.c (.str ⟨#[105,102]⟩))) [.bad] []), (.ite (.op .eq (.v 2) (.c (.str ⟨#[108,101,116]⟩))) [.bad] []), (.ret (.meth 29 (.v 0) [(.v 2), (.v 1), (.v 3)]))]⟩
noncomputable def fn28 : Fn := ⟨2, [0, 1], [
  (.ret (.comp false (.meth 27 (.v 0) [(.w 1)]) (.n 1) (.v 1) none))]⟩
noncomputable def fn29 : Fn := ⟨18, [0, 1, 2, 3], [
  (.ite (.op .eq (.v 1) (.c (.str ⟨#[97,114,114,97,121]⟩))) [.bad] []), (.ite (.op .eq (.v 1) (.c (.str ⟨#[97,114,114,97,121,50]⟩))) [(.asg 4 (.comp false (.meth 28 (.v 0) [(.w 1)]) (.n 1) (.sub (.v 2) (.c (.int 2))) none)), (.asg 5 (.ite (.op .gt (.prim .len [(.v 4)]) (.c (.int 0))) (.prim .len [(.sub (.v 4) (.c (.int 0)))]) (.c (.int 0)))), (.ite (.op .ne (.comp false (.w 1) (.n 1) (.v 4) (some (.op .ne (.prim .len [(.w 1)]) (.v 5)))) (.lst false [])) [(.raise false [(.c (.str ⟨#[116,104,101,32,114,111,119,115,32,111,102,32,97,110,32,97,114,114,97,121,32,97,114,101,32,111,102,32,117,110,108,105,107,101,32,108,101,110,103,116,104,115]⟩)), (.v 3)])] []), .bad] []), (.ite (.op .eq (.v 1) (.c (.str ⟨#[114,97,110,103,101]⟩))) [(.unp [6, 7] (.meth 28 (.v 0) [(.slice (.v 2) (some 2) (some 4))])), (.ret (.call 9 [(.call 6 [(.v 6), (.v 3)]), (.call 6 [(.v 7), (.v 3)])]))] []), (.ite (.op .eq (.v 1) (.c (.str ⟨#[115,101,116]⟩))) [(.ret (.prim .tuple [(.prim .sorted [(.prim .set [(.comp false (.call 6 [(.w 1), (.v 3)]) (.n 1) (.meth 28 (.v 0) [(.sub (.v 2) (.c (.int 2)))]) none)])])]))] []), (.ite (.op .ne (.v 1) (.c (.str ⟨#[99,111,109,112]⟩))) [(.raise false [(.fstr [(.c (.str ⟨#[97,32]⟩)), (.v 1), (.c (.str ⟨#[32,104,97,115,32,110,111,32,118,97,108,117,101]⟩))]), (.v 3)])] []), .bad, (.ite (.op .eq (.sub (.v 2) (.c (.int 2))) (.c (.str ⟨#[97,114,114,97,121]⟩))) [.bad] []), (.ret (.prim .tuple [(.prim .sorted [(.prim .set [(.comp false (.call 6 [(.w 1), (.v 3)]) (.n 1) (.v 8) none)])])]))]⟩
noncomputable def fn30 : Fn := ⟨8, [0, 1, 2, 3], [
  (.asg 4 (.meth 27 (.v 0) [(.v 2)])), (.ite (.op .eq (.v 1) (.c (.str ⟨#[110,111,116]⟩))) [(.ret (.not (.call 7 [(.v 4), (.v 3)])))] []), (.ret (.call 10 [(.ite (.op .eq (.v 1) (.c (.str ⟨#[45]⟩))) (.neg (.call 6 [(.v 4), (.v 3)])) (.call 6 [(.v 4), (.v 3)]))]))]⟩
noncomputable def fn31 : Fn := ⟨23, [0, 1, 2, 3, 4], [
  (.asg 5 (.meth 27 (.v 0) [(.v 2)])), (.ite (.op .isin (.v 1) (.tup [(.c (.str ⟨#[47,92]⟩)), (.c (.str ⟨#[92,47]⟩)), (.c (.str ⟨#[45,62]⟩))])) [(.ite (.op .eq (.call 7 [(.v 5), (.v 4)]) (.op .eq (.v 1) (.c (.str ⟨#[92,47]⟩)))) [(.ret (.op .ne (.v 1) (.c (.str ⟨#[47,92]⟩))))] []), (.ret (.call 7 [(.meth 27 (.v 0) [(.v 3)]), (.v 4)]))] []), (.ite (.and (.op .eq (.v 1) (.c (.str ⟨#[105,110]⟩))) (.op .eq (.sub (.v 3) (.c (.int 0))) (.c (.str ⟨#[114,97,110,103,101]⟩)))) [(.ret (.call 3 [(.meth 32 (.v 0) [(.v 3)]), (.call 6 [(.v 5), (.v 4)])]))] []), (.asg 6 (.meth 27 (.v 0) [(.v 3)])), (.ite (.op .isin (.v 1) (.tup [(.c (.str ⟨#[60]⟩)), (.c (.str ⟨#[60,61]⟩)), (.c (.str ⟨#[62]⟩)), (.c (.str ⟨#[62,61]⟩)), (.c (.str ⟨#[61]⟩)), (.c (.str ⟨#[61,61]⟩)), (.c (.str ⟨#[33,61]⟩))])) [.bad] []), (.ite (.op .isin (.v 1) (.tup [(.c (.str ⟨#[60,45,62]⟩)), (.c (.str ⟨#[120,111,114]⟩))])) [(.ret (.op .eq (.op .eq (.call 7 [(.v 5), (.v 4)]) (.call 7 [(.v 6), (.v 4)])) (.op .eq (.v 1) (.c (.str ⟨#[60,45,62]⟩)))))] []), (.ite (.op .eq (.v 1) (.c (.str ⟨#[60,45]⟩))) [(.ret (.or (.call 7 [(.v 5), (.v 4)]) (.not (.call 7 [(.v 6), (.v 4)]))))] []), (.ite (.op .eq (.v 1) (.c (.str ⟨#[105,110]⟩))) [(.ret (.op .isin (.call 6 [(.v 5), (.v 4)]) (.call 8 [(.v 6), (.v 4)])))] []), (.ite (.op .isin (.v 1) (.tup [(.c (.str ⟨#[115,117,98,115,101,116]⟩)), (.c (.str ⟨#[115,117,112,101,114,115,101,116]⟩))])) [(.unp [7, 8] (.ite (.op .eq (.v 1) (.c (.str ⟨#[115,117,98,115,101,116]⟩))) (.tup [(.v 5), (.v 6)]) (.tup [(.v 6), (.v 5)]))), (.ret (.op .eq (.prim .len [(.call 11 [(.c (.str ⟨#[100,105,102,102]⟩)), (.call 8 [(.v 7), (.v 4)]), (.call 8 [(.v 8), (.v 4)])])]) (.c (.int 0))))] []), (.ite (.op .isin (.v 1) (.tup [(.c (.str ⟨#[117,110,105,111,110]⟩)), (.c (.str ⟨#[100,105,102,102]⟩)), (.c (.str ⟨#[115,121,109,100,105,102,102]⟩)), (.c (.str ⟨#[105,110,116,101,114,115,101,99,116]⟩))])) [(.ret (.call 11 [(.v 1), (.call 8 [(.v 5), (.v 4)]), (.call 8 [(.v 6), (.v 4)])]))] []), (.ite (.op .eq (.v 1) (.c (.str ⟨#[43,43]⟩))) [.bad] []), (.ite (.op .notin (.v 1) (.tup [(.c (.str ⟨#[43]⟩)), (.c (.str ⟨#[45]⟩)), (.c (.str ⟨#[42]⟩)), (.c (.str ⟨#[100,105,118]⟩)), (.c (.str ⟨#[109,111,100]⟩)), (.c (.str ⟨#[94]⟩))])) [(.raise false [(.fstr [(.v 1), (.c (.str ⟨#[32,104,97,115,32,110,111,32,118,97,108,117,101,32,104,101,114,101]⟩))]), (.v 4)])] []), (.ret (.call 12 [(.v 1), (.call 6 [(.v 5), (.v 4)]), (.call 6 [(.v 6), (.v 4)]), (.v 4)]))]⟩
noncomputable def fn32 : Fn := ⟨8, [0, 1], [
  (.ite (.op .eq (.sub (.v 1) (.c (.int 0))) (.c (.str ⟨#[114,97,110,103,101]⟩))) [(.unp [2, 3] (.meth 28 (.v 0) [(.slice (.v 1) (some 2) (some 4))])), (.ret (.call 1 [(.call 6 [(.v 2), (.sub (.v 1) (.c (.int 1)))]), (.call 6 [(.v 3), (.sub (.v 1) (.c (.int 1)))])]))] []), .bad]⟩
noncomputable def tabL1 : List Fn := [fn1, fn2, fn3, fn4, fn5, fn6, fn7, fn8, fn9, fn10, fn11, fn12, fn13, fn14, fn15, fn16, fn17, fn18, fn19, fn20, fn21, fn22, fn23, fn24, fn25, fn26, fn27, fn28, fn29, fn30, fn31, fn32]
noncomputable def tab1 (f : Nat) : Option Fn := Nat.casesOn f none fun n => tabL1[n]?
noncomputable def gc1 : Nat → PyData
  | 0 => .int 100000
  | 1 => .int 1000
  | _ => .none
noncomputable def funsL : List (PySem.Str × Nat) := [(Str.ofString "range_of", 1), (Str.ofString "next_from", 2), (Str.ofString "has", 3), (Str.ofString "is_array", 4), (Str.ofString "is_set", 5), (Str.ofString "number_of", 6), (Str.ofString "truth_of", 7), (Str.ofString "set_of", 8), (Str.ofString "span", 9), (Str.ofString "within_figures", 10), (Str.ofString "joined_sets", 11), (Str.ofString "reckoned", 12), (Str.ofString "_law_draw", 13), (Str.ofString "_law_spot", 14), (Str.ofString "_law_number", 15), (Str.ofString "_law_wrong", 16), (Str.ofString "_law_end", 17), (Str.ofString "_law_lot", 18), (Str.ofString "_law_right", 19), (Str.ofString "_law_left", 20), (Str.ofString "_law_counted", 21), (Str.ofString "_law_told", 22), (Str.ofString "_law_holds", 23), (Str.ofString "_law_due", 24), (Str.ofString "_law_heard", 25), (Str.ofString "law", 26)]
noncomputable def methsL : List (PySem.Str × Nat) := [(Str.ofString "value_of", 27), (Str.ofString "values_of", 28), (Str.ofString "built", 29), (Str.ofString "of_one", 30), (Str.ofString "of_two", 31), (Str.ofString "domain_of", 32)]
noncomputable def consL : List (PySem.Str × Nat) := [(Str.ofString "MOST_VALUES", 0), (Str.ofString "MOST_SHOWN", 1)]
noncomputable def mutsL : List (Nat × Nat) := [(548, 11), (548, 94)]
noncomputable def cx1 : Cx := ⟨[], none, funsL, methsL, consL, mutsL, false⟩
noncomputable def fa1 : Nat → Addr
  | 1 => 21
  | 2 => 42
  | 3 => 49
  | 4 => 137
  | 5 => 144
  | 6 => 151
  | 7 => 158
  | 8 => 172
  | 9 => 200
  | 10 => 214
  | 11 => 238
  | 12 => 245
  | 13 => 415
  | 14 => 422
  | 15 => 429
  | 16 => 436
  | 17 => 443
  | 18 => 448
  | 19 => 455
  | 20 => 462
  | 21 => 469
  | 22 => 474
  | 23 => 479
  | 24 => 486
  | 25 => 493
  | 26 => 498
  | 27 => 282
  | 28 => 287
  | 29 => 292
  | 30 => 306
  | 31 => 313
  | 32 => 355
  | _ => 0
noncomputable abbrev mkS (w : World) (s0 : Shared) (mg mb : Str → Option Value) : Sta :=
  { prog := pw, w := w, s0 := s0, K := K w.params, mg := mg, mb := mb, cev := 363, ec := fun b => if b then 128 else 116, fa := fa1, cx := cx1, gc := gc1, tab := tab1, lc := 497, tp := 495, lq := Str.ofString "law.<locals>.<lambda>" }
section
variable (w : World) (s0 : Shared) (mg mb : Str → Option Value)
theorem i1 : fnIn (mkS w s0 mg mb) 1 fn1 false = true := by kernel_rfl
theorem c1 (ok : StaOk3 (mkS w s0 mg mb)) (k2 : KOk2 (mkS w s0 mg mb)) : (toSs ok k2 (fs (st 1)).names false (fb (st 1))).map (·.1) = some fn1.body := by kernel_rfl
theorem i2 : fnIn (mkS w s0 mg mb) 2 fn2 false = true := by kernel_rfl
theorem c2 (ok : StaOk3 (mkS w s0 mg mb)) (k2 : KOk2 (mkS w s0 mg mb)) : (toSs ok k2 (fs (st 4)).names false (fb (st 4))).map (·.1) = some fn2.body := by kernel_rfl
theorem i3 : fnIn (mkS w s0 mg mb) 3 fn3 false = true := by kernel_rfl
theorem c3 (ok : StaOk3 (mkS w s0 mg mb)) (k2 : KOk2 (mkS w s0 mg mb)) : (toSs ok k2 (fs (st 5)).names false (fb (st 5))).map (·.1) = some fn3.body := by kernel_rfl
theorem i4 : fnIn (mkS w s0 mg mb) 4 fn4 false = true := by kernel_rfl
theorem c4 (ok : StaOk3 (mkS w s0 mg mb)) (k2 : KOk2 (mkS w s0 mg mb)) : (toSs ok k2 (fs (st 15)).names false (fb (st 15))).map (·.1) = some fn4.body := by kernel_rfl
theorem i5 : fnIn (mkS w s0 mg mb) 5 fn5 false = true := by kernel_rfl
theorem c5 (ok : StaOk3 (mkS w s0 mg mb)) (k2 : KOk2 (mkS w s0 mg mb)) : (toSs ok k2 (fs (st 16)).names false (fb (st 16))).map (·.1) = some fn5.body := by kernel_rfl
theorem i6 : fnIn (mkS w s0 mg mb) 6 fn6 false = true := by kernel_rfl
theorem c6 (ok : StaOk3 (mkS w s0 mg mb)) (k2 : KOk2 (mkS w s0 mg mb)) : (toSs ok k2 (fs (st 17)).names false (fb (st 17))).map (·.1) = some fn6.body := by kernel_rfl
theorem i7 : fnIn (mkS w s0 mg mb) 7 fn7 false = true := by kernel_rfl
theorem c7 (ok : StaOk3 (mkS w s0 mg mb)) (k2 : KOk2 (mkS w s0 mg mb)) : (toSs ok k2 (fs (st 18)).names false (fb (st 18))).map (·.1) = some fn7.body := by kernel_rfl
theorem i8 : fnIn (mkS w s0 mg mb) 8 fn8 false = true := by kernel_rfl
theorem c8 (ok : StaOk3 (mkS w s0 mg mb)) (k2 : KOk2 (mkS w s0 mg mb)) : (toSs ok k2 (fs (st 20)).names false (fb (st 20))).map (·.1) = some fn8.body := by kernel_rfl
theorem i9 : fnIn (mkS w s0 mg mb) 9 fn9 false = true := by kernel_rfl
theorem c9 (ok : StaOk3 (mkS w s0 mg mb)) (k2 : KOk2 (mkS w s0 mg mb)) : (toSs ok k2 (fs (st 24)).names false (fb (st 24))).map (·.1) = some fn9.body := by kernel_rfl
theorem i10 : fnIn (mkS w s0 mg mb) 10 fn10 false = true := by kernel_rfl
theorem c10 (ok : StaOk3 (mkS w s0 mg mb)) (k2 : KOk2 (mkS w s0 mg mb)) : (toSs ok k2 (fs (st 26)).names false (fb (st 26))).map (·.1) = some fn10.body := by kernel_rfl
theorem i11 : fnIn (mkS w s0 mg mb) 11 fn11 false = true := by kernel_rfl
theorem c11 (ok : StaOk3 (mkS w s0 mg mb)) (k2 : KOk2 (mkS w s0 mg mb)) : (toSs ok k2 (fs (st 30)).names false (fb (st 30))).map (·.1) = some fn11.body := by kernel_rfl
theorem i12 : fnIn (mkS w s0 mg mb) 12 fn12 false = true := by kernel_rfl
theorem c12 (ok : StaOk3 (mkS w s0 mg mb)) (k2 : KOk2 (mkS w s0 mg mb)) : (toSs ok k2 (fs (st 31)).names false (fb (st 31))).map (·.1) = some fn12.body := by kernel_rfl
theorem i13 : fnIn (mkS w s0 mg mb) 13 fn13 false = true := by kernel_rfl
theorem c13 (ok : StaOk3 (mkS w s0 mg mb)) (k2 : KOk2 (mkS w s0 mg mb)) : (toSs ok k2 (fs (st 45)).names false (fb (st 45))).map (·.1) = some fn13.body := by kernel_rfl
theorem i14 : fnIn (mkS w s0 mg mb) 14 fn14 false = true := by kernel_rfl
theorem c14 (ok : StaOk3 (mkS w s0 mg mb)) (k2 : KOk2 (mkS w s0 mg mb)) : (toSs ok k2 (fs (st 46)).names false (fb (st 46))).map (·.1) = some fn14.body := by kernel_rfl
theorem i15 : fnIn (mkS w s0 mg mb) 15 fn15 false = true := by kernel_rfl
theorem c15 (ok : StaOk3 (mkS w s0 mg mb)) (k2 : KOk2 (mkS w s0 mg mb)) : (toSs ok k2 (fs (st 47)).names false (fb (st 47))).map (·.1) = some fn15.body := by kernel_rfl
theorem i16 : fnIn (mkS w s0 mg mb) 16 fn16 false = true := by kernel_rfl
theorem c16 (ok : StaOk3 (mkS w s0 mg mb)) (k2 : KOk2 (mkS w s0 mg mb)) : (toSs ok k2 (fs (st 48)).names false (fb (st 48))).map (·.1) = some fn16.body := by kernel_rfl
theorem i17 : fnIn (mkS w s0 mg mb) 17 fn17 false = true := by kernel_rfl
theorem c17 (ok : StaOk3 (mkS w s0 mg mb)) (k2 : KOk2 (mkS w s0 mg mb)) : (toSs ok k2 (fs (st 49)).names false (fb (st 49))).map (·.1) = some fn17.body := by kernel_rfl
theorem i18 : fnIn (mkS w s0 mg mb) 18 fn18 false = true := by kernel_rfl
theorem c18 (ok : StaOk3 (mkS w s0 mg mb)) (k2 : KOk2 (mkS w s0 mg mb)) : (toSs ok k2 (fs (st 50)).names false (fb (st 50))).map (·.1) = some fn18.body := by kernel_rfl
theorem i19 : fnIn (mkS w s0 mg mb) 19 fn19 false = true := by kernel_rfl
theorem c19 (ok : StaOk3 (mkS w s0 mg mb)) (k2 : KOk2 (mkS w s0 mg mb)) : (toSs ok k2 (fs (st 51)).names false (fb (st 51))).map (·.1) = some fn19.body := by kernel_rfl
theorem i20 : fnIn (mkS w s0 mg mb) 20 fn20 false = true := by kernel_rfl
theorem c20 (ok : StaOk3 (mkS w s0 mg mb)) (k2 : KOk2 (mkS w s0 mg mb)) : (toSs ok k2 (fs (st 52)).names false (fb (st 52))).map (·.1) = some fn20.body := by kernel_rfl
theorem i21 : fnIn (mkS w s0 mg mb) 21 fn21 false = true := by kernel_rfl
theorem c21 (ok : StaOk3 (mkS w s0 mg mb)) (k2 : KOk2 (mkS w s0 mg mb)) : (toSs ok k2 (fs (st 53)).names false (fb (st 53))).map (·.1) = some fn21.body := by kernel_rfl
theorem i22 : fnIn (mkS w s0 mg mb) 22 fn22 false = true := by kernel_rfl
theorem c22 (ok : StaOk3 (mkS w s0 mg mb)) (k2 : KOk2 (mkS w s0 mg mb)) : (toSs ok k2 (fs (st 54)).names false (fb (st 54))).map (·.1) = some fn22.body := by kernel_rfl
theorem i23 : fnIn (mkS w s0 mg mb) 23 fn23 false = true := by kernel_rfl
theorem c23 (ok : StaOk3 (mkS w s0 mg mb)) (k2 : KOk2 (mkS w s0 mg mb)) : (toSs ok k2 (fs (st 55)).names false (fb (st 55))).map (·.1) = some fn23.body := by kernel_rfl
theorem i24 : fnIn (mkS w s0 mg mb) 24 fn24 false = true := by kernel_rfl
theorem c24 (ok : StaOk3 (mkS w s0 mg mb)) (k2 : KOk2 (mkS w s0 mg mb)) : (toSs ok k2 (fs (st 56)).names false (fb (st 56))).map (·.1) = some fn24.body := by kernel_rfl
theorem i25 : fnIn (mkS w s0 mg mb) 25 fn25 false = true := by kernel_rfl
theorem c25 (ok : StaOk3 (mkS w s0 mg mb)) (k2 : KOk2 (mkS w s0 mg mb)) : (toSs ok k2 (fs (st 57)).names false (fb (st 57))).map (·.1) = some fn25.body := by kernel_rfl
theorem i26 : fnIn (mkS w s0 mg mb) 26 fn26 true = true := by kernel_rfl
theorem c26 (ok : StaOk3 (mkS w s0 mg mb)) (k2 : KOk2 (mkS w s0 mg mb)) : (toSs ok k2 (fs (st 58)).names true (fb (st 58))).map (·.1) = some fn26.body := by kernel_rfl
theorem i27 : fnIn (mkS w s0 mg mb) 27 fn27 false = true := by kernel_rfl
theorem c27 (ok : StaOk3 (mkS w s0 mg mb)) (k2 : KOk2 (mkS w s0 mg mb)) : (toSs ok k2 (fs (ms 36 1)).names false (fb (ms 36 1))).map (·.1) = some fn27.body := by kernel_rfl
theorem i28 : fnIn (mkS w s0 mg mb) 28 fn28 false = true := by kernel_rfl
theorem c28 (ok : StaOk3 (mkS w s0 mg mb)) (k2 : KOk2 (mkS w s0 mg mb)) : (toSs ok k2 (fs (ms 36 2)).names false (fb (ms 36 2))).map (·.1) = some fn28.body := by kernel_rfl
theorem i29 : fnIn (mkS w s0 mg mb) 29 fn29 false = true := by kernel_rfl
theorem c29 (ok : StaOk3 (mkS w s0 mg mb)) (k2 : KOk2 (mkS w s0 mg mb)) : (toSs ok k2 (fs (ms 36 3)).names false (fb (ms 36 3))).map (·.1) = some fn29.body := by kernel_rfl
theorem i30 : fnIn (mkS w s0 mg mb) 30 fn30 false = true := by kernel_rfl
theorem c30 (ok : StaOk3 (mkS w s0 mg mb)) (k2 : KOk2 (mkS w s0 mg mb)) : (toSs ok k2 (fs (ms 36 5)).names false (fb (ms 36 5))).map (·.1) = some fn30.body := by kernel_rfl
theorem i31 : fnIn (mkS w s0 mg mb) 31 fn31 false = true := by kernel_rfl
theorem c31 (ok : StaOk3 (mkS w s0 mg mb)) (k2 : KOk2 (mkS w s0 mg mb)) : (toSs ok k2 (fs (ms 36 6)).names false (fb (ms 36 6))).map (·.1) = some fn31.body := by kernel_rfl
theorem i32 : fnIn (mkS w s0 mg mb) 32 fn32 false = true := by kernel_rfl
theorem c32 (ok : StaOk3 (mkS w s0 mg mb)) (k2 : KOk2 (mkS w s0 mg mb)) : (toSs ok k2 (fs (ms 36 12)).names false (fb (ms 36 12))).map (·.1) = some fn32.body := by kernel_rfl
theorem j_new : NewIn (mkS w s0 mg mb) := ⟨_, _, _, _, _, Str.ofString "self", Str.ofString "scope", _, _, _, _, by kernel_rfl, by kernel_rfl, by kernel_rfl, by kernel_rfl, by kernel_rfl, (by kernel_rfl : findIn (K w.params) (.ref 363) "__init__" = some (some (.ref 275))), by kernel_rfl, rfl, by kernel_rfl, by kernel_rfl, by kernel_rfl, by kernel_rfl, by kernel_rfl, by kernel_rfl, by kernel_rfl, by kernel_rfl, rfl, by decide, by kernel_rfl, by kernel_rfl, by kernel_rfl, by kernel_rfl⟩
theorem af_cons {P : Nat → Fn → Prop} {k : Nat} {f : Fn} {l : List Fn} (h : P k f) (t : ∀ n fn, l[n]? = some fn → P (k + 1 + n) fn) : ∀ n fn, (f :: l)[n]? = some fn → P (k + n) fn
  | 0, _, e => Option.some.inj e ▸ h
  | n + 1, fn, e => (by rw [show k + (n + 1) = k + 1 + n by rw [Nat.add_right_comm]; rfl]; exact t n fn e)
theorem tabs1 (ok : StaOk3 (mkS w s0 mg mb)) (k2 : KOk2 (mkS w s0 mg mb)) : ∀ f fn, (mkS w s0 mg mb).tab f = some fn → FnOk (mkS w s0 mg mb) f fn
  | 0, _, h => nomatch (h : none = some _)
  | n + 1, fn, h => Nat.add_comm 1 n ▸ ((af_cons (k := 1) (f := fn1) (fn_ok ok.toStaOk (i1 w s0 mg mb) rfl (of_toSs ok k2 (c1 w s0 mg mb ok k2))) (af_cons (k := 2) (f := fn2) (fn_ok ok.toStaOk (i2 w s0 mg mb) rfl (of_toSs ok k2 (c2 w s0 mg mb ok k2))) (af_cons (k := 3) (f := fn3) (fn_ok ok.toStaOk (i3 w s0 mg mb) rfl (of_toSs ok k2 (c3 w s0 mg mb ok k2))) (af_cons (k := 4) (f := fn4) (fn_ok ok.toStaOk (i4 w s0 mg mb) rfl (of_toSs ok k2 (c4 w s0 mg mb ok k2))) (af_cons (k := 5) (f := fn5) (fn_ok ok.toStaOk (i5 w s0 mg mb) rfl (of_toSs ok k2 (c5 w s0 mg mb ok k2))) (af_cons (k := 6) (f := fn6) (fn_ok ok.toStaOk (i6 w s0 mg mb) rfl (of_toSs ok k2 (c6 w s0 mg mb ok k2))) (af_cons (k := 7) (f := fn7) (fn_ok ok.toStaOk (i7 w s0 mg mb) rfl (of_toSs ok k2 (c7 w s0 mg mb ok k2))) (af_cons (k := 8) (f := fn8) (fn_ok ok.toStaOk (i8 w s0 mg mb) rfl (of_toSs ok k2 (c8 w s0 mg mb ok k2))) (af_cons (k := 9) (f := fn9) (fn_ok ok.toStaOk (i9 w s0 mg mb) rfl (of_toSs ok k2 (c9 w s0 mg mb ok k2))) (af_cons (k := 10) (f := fn10) (fn_ok ok.toStaOk (i10 w s0 mg mb) rfl (of_toSs ok k2 (c10 w s0 mg mb ok k2))) (af_cons (k := 11) (f := fn11) (fn_ok ok.toStaOk (i11 w s0 mg mb) rfl (of_toSs ok k2 (c11 w s0 mg mb ok k2))) (af_cons (k := 12) (f := fn12) (fn_ok ok.toStaOk (i12 w s0 mg mb) rfl (of_toSs ok k2 (c12 w s0 mg mb ok k2))) (af_cons (k := 13) (f := fn13) (fn_ok ok.toStaOk (i13 w s0 mg mb) rfl (of_toSs ok k2 (c13 w s0 mg mb ok k2))) (af_cons (k := 14) (f := fn14) (fn_ok ok.toStaOk (i14 w s0 mg mb) rfl (of_toSs ok k2 (c14 w s0 mg mb ok k2))) (af_cons (k := 15) (f := fn15) (fn_ok ok.toStaOk (i15 w s0 mg mb) rfl (of_toSs ok k2 (c15 w s0 mg mb ok k2))) (af_cons (k := 16) (f := fn16) (fn_ok ok.toStaOk (i16 w s0 mg mb) rfl (of_toSs ok k2 (c16 w s0 mg mb ok k2))) (af_cons (k := 17) (f := fn17) (fn_ok ok.toStaOk (i17 w s0 mg mb) rfl (of_toSs ok k2 (c17 w s0 mg mb ok k2))) (af_cons (k := 18) (f := fn18) (fn_ok ok.toStaOk (i18 w s0 mg mb) rfl (of_toSs ok k2 (c18 w s0 mg mb ok k2))) (af_cons (k := 19) (f := fn19) (fn_ok ok.toStaOk (i19 w s0 mg mb) rfl (of_toSs ok k2 (c19 w s0 mg mb ok k2))) (af_cons (k := 20) (f := fn20) (fn_ok ok.toStaOk (i20 w s0 mg mb) rfl (of_toSs ok k2 (c20 w s0 mg mb ok k2))) (af_cons (k := 21) (f := fn21) (fn_ok ok.toStaOk (i21 w s0 mg mb) rfl (of_toSs ok k2 (c21 w s0 mg mb ok k2))) (af_cons (k := 22) (f := fn22) (fn_ok ok.toStaOk (i22 w s0 mg mb) rfl (of_toSs ok k2 (c22 w s0 mg mb ok k2))) (af_cons (k := 23) (f := fn23) (fn_ok ok.toStaOk (i23 w s0 mg mb) rfl (of_toSs ok k2 (c23 w s0 mg mb ok k2))) (af_cons (k := 24) (f := fn24) (fn_ok ok.toStaOk (i24 w s0 mg mb) rfl (of_toSs ok k2 (c24 w s0 mg mb ok k2))) (af_cons (k := 25) (f := fn25) (fn_ok ok.toStaOk (i25 w s0 mg mb) rfl (of_toSs ok k2 (c25 w s0 mg mb ok k2))) (af_cons (k := 26) (f := fn26) (fn_ok ok.toStaOk (i26 w s0 mg mb) rfl (of_toSs ok k2 (c26 w s0 mg mb ok k2))) (af_cons (k := 27) (f := fn27) (fn_ok ok.toStaOk (i27 w s0 mg mb) rfl (of_toSs ok k2 (c27 w s0 mg mb ok k2))) (af_cons (k := 28) (f := fn28) (fn_ok ok.toStaOk (i28 w s0 mg mb) rfl (of_toSs ok k2 (c28 w s0 mg mb ok k2))) (af_cons (k := 29) (f := fn29) (fn_ok ok.toStaOk (i29 w s0 mg mb) rfl (of_toSs ok k2 (c29 w s0 mg mb ok k2))) (af_cons (k := 30) (f := fn30) (fn_ok ok.toStaOk (i30 w s0 mg mb) rfl (of_toSs ok k2 (c30 w s0 mg mb ok k2))) (af_cons (k := 31) (f := fn31) (fn_ok ok.toStaOk (i31 w s0 mg mb) rfl (of_toSs ok k2 (c31 w s0 mg mb ok k2))) (af_cons (k := 32) (f := fn32) (fn_ok ok.toStaOk (i32 w s0 mg mb) rfl (of_toSs ok k2 (c32 w s0 mg mb ok k2))) (fun n fn h => nomatch (h : none = some _)))))))))))))))))))))))))))))))))) : ∀ n fn, tabL1[n]? = some fn → FnOk (mkS w s0 mg mb) (1 + n) fn) n fn h
theorem k_ok : KOk (mkS w s0 mg mb) where
  eGet := fun x => by kernel_rfl
  eDict := by kernel_rfl
  eScope := by kernel_rfl
  xGa := fun b => by cases b <;> kernel_rfl
  xGn := fun b => by cases b <;> kernel_rfl
  xSub := fun b => by cases b <;> kernel_rfl
  xDict := fun b => by cases b <;> kernel_rfl
  xWhat := fun b => by cases b <;> kernel_rfl
  xSpot := fun b => by cases b <;> kernel_rfl
theorem iniD : IniD (mkS w s0 mg mb) 65 75 := by
  refine ⟨Str.ofString "self", Str.ofString "what", _, _, _, _, _, _, _, _, _, _, by decide, ?_, ⟨_, _, _, 53, _, _, _, 64, _, _, _, _, _, _, rfl, by kernel_rfl, by kernel_rfl, by kernel_rfl, by kernel_rfl, by kernel_rfl, by kernel_rfl, by kernel_rfl, rfl, by kernel_rfl, by kernel_rfl, by decide +kernel, by decide +kernel, by kernel_rfl, by kernel_rfl, by kernel_rfl, rfl, by kernel_rfl, rfl, rfl, by kernel_rfl⟩⟩
  kernel_rfl
theorem iniP : IniP (mkS w s0 mg mb) 94 104 := by
  refine ⟨Str.ofString "self", Str.ofString "what", Str.ofString "spot", _, _, _, _, _, _, _, _, _, _, by decide, by decide, by decide, ?_, ⟨_, _, _, 82, _, _, _, 93, _, _, _, _, _, _, rfl, by kernel_rfl, by kernel_rfl, by kernel_rfl, by kernel_rfl, by kernel_rfl, by kernel_rfl, by kernel_rfl, rfl, by kernel_rfl, by kernel_rfl, by decide +kernel, by decide +kernel, by kernel_rfl, by kernel_rfl, by kernel_rfl, rfl, by kernel_rfl, rfl, rfl, by kernel_rfl⟩⟩
  kernel_rfl
theorem exc_k (h1 : mg "super" = none) : ExcK (mkS w s0 mg mb) 75 104 65 94 where
  si := ⟨h1, by kernel_rfl⟩
  cls := fun b => by cases b <;> exact ⟨_, _, _, _, _, _, _, _, _, _, _, _, _, _, _, rfl, by kernel_rfl⟩
  f0 := by kernel_rfl
  f1 := by kernel_rfl
  tP := by kernel_rfl
  tD := by kernel_rfl
  iD := iniD w s0 mg mb
  iP := iniP w s0 mg mb
  cD := ⟨_, _, rfl, rfl⟩
  cP := ⟨_, _, rfl, rfl⟩
  mD := fun b => by cases b <;> kernel_rfl
  mP := by kernel_rfl
  aD := fun b => by cases b <;> kernel_rfl
  aP := by kernel_rfl
  no := by kernel_rfl
  sa := fun b => by cases b <;> kernel_rfl
  tw := fun b => by cases b <;> kernel_rfl
  ts := by kernel_rfl
theorem seen1 : KSeen (mkS w s0 mg mb) where
  fu := by kernel_rfl
  me := by kernel_rfl
  ek := by kernel_rfl
  eg := by kernel_rfl
  xCl := fun b => by cases b <;> kernel_rfl
  xTy := fun b => by cases b <;> kernel_rfl
  xTu := fun b => by cases b <;> kernel_rfl
  xEq := fun a b => by cases a <;> cases b <;> kernel_rfl
  xKp := fun b => by cases b <;> kernel_rfl
  xF := by kernel_rfl
  xL := by kernel_rfl
  fr := by kernel_rfl
end
theorem noT (P : Params) : noTabs (K P) = true := by kernel_rfl
theorem sysT (P : Params) : ∃ o, (K P).lookup 1 = some o := ⟨_, rfl⟩
theorem sta1 {w : World} {s1 : Shared} {mg mb : Str → Option Value} {p : Program} {loose : List Str} {mean : ExcName → Option Value} (T : Top p loose mean mg mb s1.heap) (X : (K w.params).In s1.heap) (hT : TabsAt [(497, 495)] s1.heap) :
    StaOk (mkS w { s1 with heap := ghostOf s1.heap [(497, 495)] } mg mb) where
  K := ghost_K hT X (noT _)
  g := ghost_ns hT T.g
  b := ghost_ns hT T.b
  builtins := T.builtins
  nolimit := let ⟨mc, a, r⟩ := T.nolimit; ⟨mc, ghost_ns hT a, r⟩
  cev := by show 14 < 363; decide
  sm := let ⟨o, e⟩ := sysT w.params; ⟨o, ghost_K hT X (noT _) 1 o e⟩
  lc := (ghost_code hT).1
  tn := hideAll_none _ (by simp)
  ba := fun h st => by
    obtain ⟨bm, ob, a1, a2, a3, a4, a5, a6⟩ := T.bmain
    have n1 : bm ≠ mainGlobals := fun q => by
      obtain ⟨o, es, ep, e, hd, _⟩ := T.g
      rw [q, e] at a3; cases a3
      rw [hd] at a6; cases a6
    have n2 : bm ≠ 495 := fun q => by
      have := (hT (497, 495) (.head _)).2
      rw [q] at a3
      rw [a3] at this; cases this
      cases a6
    exact ⟨bm, ob, a1, a2, n1, n2, st _ _ (ghost_get hT a3 (fun q => by rw [q] at a4; cases a4)), a4, a5, a6⟩
end Mine
namespace Mine
open PySem PySem.W PyProof.Rows PySem.Calls
set_option genSizeOf false
set_option genInjectivity false
set_option maxRecDepth 100000
set_option maxHeartbeats 0
noncomputable abbrev gh (s : Shared) : Shared := { s with heap := ghostOf s.heap [(497, 495)] }
noncomputable abbrev gS (w : World) (s : Shared) (mg mb : Str → Option Value) : Sta := mkS w (gh s) mg mb
theorem walk1 (hl : ∀ l : List Int, l.length ≤ 63 → callN tab1 gc1 500 26 [.v (.pd (.list (l.map .int)))] [] (fun v _ => v = .pd (.bool true)) (fun _ _ => False)) :
    WalkO q loose (XL q []) HK.says rw.row.toRowW lawD [] fun f vs => PySem.call f vs := by
  intro w s₀ s₁ mg mb G Y fa o pm cd doc dV kV ho hd hcd hD hmg hg args vals as hpre hlay hrd hwl hlo
  have X : (K w.params).In s₁.heap := kIn_of Y
  have T := G.T
  have hT : TabsAt ([(497, 495)] : List (Addr × Addr)) s₁.heap := List.forall_mem_cons.mpr ⟨tab_of (x := PySem.Str.ofString "law") (c := 497) (P := 495) T X rfl (by kernel_rfl), fun _ h => nomatch h⟩
  have e498 : mg (Str.ofString "law") = some (.ref 498) := mg_of X T.g (by kernel_rfl)
  have hfa : fa = 498 := by
    have : mg (Str.ofString "law") = some (.ref fa) := hmg
    rw [e498] at this; cases this; rfl
  subst hfa
  clear ho hd hcd hD
  wrow_args hpre hlay hrd hwl hlo
  rename Heap.IsList _ _ _ => hL
  rename IntsAre _ _ => hI
  rename ¬ _ => hc
  rename_i l _ _ _ _ _ _ _ la vl _ _ _ _ _ _
  have hlen : l.length ≤ 63 := by omega
  have ok1 := sta1 T X hT
  have hXB := ok1.K
  have cons : ∀ x i, lookT (gS w s₁ mg mb).cx.cons x = some i → ∃ v, mg x = some v ∧ PV w.params (ghostOf s₁.heap [(497, 495)]) (fun _ => .fz) v (gc1 i) := fun x i h => by
    have hm := lookT_mem h
    rcases List.mem_cons.mp hm with hm | hm
    · cases hm
      exact ⟨.int 100000 342, mg_of X T.g (by kernel_rfl), .int _ _⟩
    · rcases List.mem_cons.mp hm with hm | hm
      · cases hm
        exact ⟨.int 1000 346, mg_of X T.g (by kernel_rfl), .int _ _⟩
      · cases hm
  have ok3 := sta3 ok1 (seen1 w (gh s₁) mg mb) (k_ok w (gh s₁) mg mb) cons
  have k2 := k_ok2 ok1 (seen1 w (gh s₁) mg mb)
  have xk := exc_k w (gh s₁) mg mb (mg_not (n := Str.ofString "super") X T.g (by kernel_rfl))
  have tabs := tabs1 w (gh s₁) mg mb ok3 k2
  have jn := j_new w (gh s₁) mg mb
  have co := call_ok ok3 k2 jn xk tabs 499
  have bo : Hy (gS w s₁ mg mb) 499 := ⟨co, new_ok ok1 jn, exc_mk ok1 xk⟩
  have e495 := (hT (497, 495) (.head _)).2
  let g : Gh := { κ := fun a => if a = 495 then .tb else if (s₁.heap.get? a).isSome then .fz else .ot, μ := fun _ => 0, n := 0 }
  have g495 : g.κ 495 = .tb := by
    show (if (495 : Addr) = 495 then Kd.tb else if (s₁.heap.get? 495).isSome then .fz else .ot) = .tb
    exact if_pos rfl
  have gfz : ∀ a o, a ≠ 495 → s₁.heap.get? a = some o → g.κ a = .fz := fun a o n e => by
    show (if a = 495 then Kd.tb else if (s₁.heap.get? a).isSome then .fz else .ot) = .fz
    rw [if_neg n, e]; rfl
  have bne : ∀ a o, (ghostOf s₁.heap [(497, 495)]).get? a = some o → a ≠ 495 := fun a o e q => by
    rw [q] at e
    rw [hideAll_none _ (by simp)] at e; cases e
  have I : Inv (gS w s₁ mg mb) [] g [] s₁.heap := {
    stays := fun b o e => of_hideAll _ e
    bfz := fun a o e => gfz a o (bne a o e) (of_hideAll _ e)
    ot := fun a e => by
      show (if a = 495 then Kd.tb else if (s₁.heap.get? a).isSome then .fz else .ot) = .ot
      rw [if_neg (fun q => by rw [q, e495] at e; cases e), e]; rfl
    num := rfl
    mu := fun i o e => by simp at e
    km := fun i hi => absurd hi (Nat.not_lt_zero i)
    inj := fun i j hi => absurd hi (Nat.not_lt_zero i)
    fr := ⟨trivial, fun L hm => by simp at hm⟩
    tb := ⟨g495, #[], e495, trivial, fun pos cv q => by cases q⟩ }
  have hla : la ≠ 1 := fun q => by
    obtain ⟨o, e, c, _⟩ := hL
    have e1 := X 1 _ rfl
    rw [q, e1] at e; cases e
    injection c with c; exact absurd c (by decide)
  obtain ⟨ol, el, cl, nl, dl⟩ := hL
  have r : LRs (gS w s₁ mg mb) s₁.heap g [.ref la] [.v (.pd (.list (l.map .int)))] := .cons (.v (.pd (.list (gfz la ol (fun q => by rw [q, e495] at el; cases el; cases cl) el) el cl dl hla (pv_ints hI)))) .nil
  have main := call_top ok3 tabs bo (f := 26) (A := callerA) (s := s₁) rfl rfl rfl (by decide) (by decide) I r (by decide) (hl l hlen)
  refine wpAny_mono main (fun v s' hok => ?_) (fun e s' her => ?_)
  · obtain ⟨b, σ', g', hb, E, I', R, Z⟩ := hok
    subst hb
    have hv : v = .bool true := by
      cases R with
      | pd p => cases p; rfl
    subst hv
    have keep : ∀ b o, b ≠ 495 → s₁.heap.get? b = some o → s'.heap.get? b = some o := fun b o n e => (E.fz b o (gfz b o n e) e).2
    obtain ⟨ps, ep, _⟩ := I'.tb.at_
    refine ⟨.inl ⟨.bool true, .bool true, [], rfl, fun cls => rfl, .bool _, ?_, fun _ => ⟨List.nodup_nil, fun _ h => by cases h⟩⟩, ⟨fun b o e => ?_, fun b o e => ?_⟩, Z.2.2, ?_⟩
    · wrow_post
    · by_cases n : b = 495
      · subst n
        rw [e495] at e; cases e
        exact .inr (.inl ⟨((hT (497, 495) (.head _)).1.tab e495).isCodeTable, rfl, #[], ps, rfl, by rw [Array.empty_append]; exact ep⟩)
      · exact .inl (keep b o n e)
    · exact E.still b o e
    · rw [Z.1, hg]; exact .of_eq rfl
  · obtain ⟨exc, σ', g', ea, tr, _, _, hE, _⟩ := her
    exact hE.elim
end Mine
namespace Mine.Pl
open PySem PySem.W PyProof.Rows
set_option genSizeOf false
set_option genInjectivity false
set_option maxRecDepth 100000
noncomputable def retK (K : KV) : KS := fun fl _ σ' => match fl with
  | .ret v => K v σ'
  | .next => K (.pd .none) σ'
noncomputable def stp (G : CallS) (f : Nat) (as : List Loc) (σ : Hp) (K : KV) (E : KE) : Prop :=
  need (tab1 f) fun fn => need (putPs fn.ps as (List.replicate fn.size none)) fun m => evSs G gc1 fn.body m σ (retK K) E
noncomputable abbrev G1 := callN tab1 gc1
/-- one call deeper -/
def Up (G H : CallS) : Prop := ∀ f as σ K E, stp G (f + 1) as σ K E → H (f + 1) as σ K E
theorem up_at (n : Nat) : Up (G1 n) (G1 (n + 1)) := fun f as σ K E h => (by kernel_rfl : G1 (n + 1) (f + 1) as σ K E = stp (G1 n) (f + 1) as σ K E).mpr h
theorem four {r : Int} (h0 : 0 ≤ r) (h1 : r < 4) : r = 0 ∨ r = 1 ∨ r = 2 ∨ r = 3 := by
  obtain ⟨n, rfl⟩ := Int.eq_ofNat_of_zero_le h0
  exact (by decide : ∀ n : Nat, n < 4 → (n : Int) = 0 ∨ (n : Int) = 1 ∨ (n : Int) = 2 ∨ (n : Int) = 3) n (Int.ofNat_lt.mp h1)
theorem len1 {a b n : Nat} (h : a + (b + 1) ≤ n) : a + 1 + b ≤ n := Nat.add_right_comm a 1 b ▸ h
theorem in10 {i : Int} (h : i.natAbs ≤ 10) : -10 ≤ i ∧ i ≤ 10 := ⟨Int.neg_le_of_neg_le (Int.le_trans Int.le_natAbs (by rw [Int.natAbs_neg]; exact Int.ofNat_le.mpr h)), Int.le_trans Int.le_natAbs (Int.ofNat_le.mpr h)⟩
/-- calls with room for j more -/
def Lv (j : Nat) (G : CallS) : Prop := ∃ n, j ≤ n ∧ G = G1 n
inductive Dn (j : Nat) (G : CallS) : Prop
  | mk (H : CallS) (l : Lv j H) (u : Up H G)
theorem Lv.dn {j : Nat} {G : CallS} (h : Lv (j + 1) G) : Dn j G := by
  obtain ⟨n, hn, rfl⟩ := h
  obtain ⟨m, rfl⟩ := Nat.exists_eq_add_of_le' hn
  exact ⟨G1 (m + j), ⟨_, Nat.le_add_left j m, rfl⟩, up_at (m + j)⟩
theorem Lv.le {i j : Nat} {G : CallS} (h : Lv j G) (q : i ≤ j) : Lv i G := let ⟨n, hn, e⟩ := h; ⟨n, Nat.le_trans q hn, e⟩
noncomputable abbrev pv (d : PyData) : Loc := .v (.pd d)
noncomputable abbrev iv (i : Int) : Loc := .v (.pd (.int i))
/-! words -/
noncomputable abbrev tInt : PyData := .str ⟨#[105,110,116]⟩
noncomputable abbrev tBool : PyData := .str ⟨#[98,111,111,108]⟩
noncomputable abbrev tStr : PyData := .str ⟨#[115,116,114]⟩
noncomputable abbrev tName : PyData := .str ⟨#[110,97,109,101]⟩
noncomputable abbrev tBin : PyData := .str ⟨#[98,105,110]⟩
noncomputable abbrev tUn : PyData := .str ⟨#[117,110]⟩
noncomputable abbrev tAdd : PyData := .str ⟨#[43]⟩
noncomputable abbrev tNeg : PyData := .str ⟨#[45]⟩
noncomputable abbrev tNot : PyData := .str ⟨#[110,111,116]⟩
noncomputable abbrev tIn : PyData := .str ⟨#[105,110]⟩
noncomputable abbrev tRange : PyData := .str ⟨#[114,97,110,103,101]⟩
noncomputable abbrev tSet : PyData := .str ⟨#[115,101,116]⟩
noncomputable abbrev tNumber : PyData := .str ⟨#[110,117,109,98,101,114]⟩
noncomputable abbrev tTruth : PyData := .str ⟨#[116,114,117,116,104]⟩
noncomputable abbrev tText : PyData := .str ⟨#[116,101,120,116]⟩
noncomputable abbrev tArray : PyData := .str ⟨#[97,114,114,97,121]⟩
noncomputable abbrev tBad : PyData := .str ⟨#[98,97,100]⟩
noncomputable abbrev tTold : PyData := .str ⟨#[116,111,108,100]⟩
noncomputable abbrev tEnds : PyData := .str ⟨#[101,110,100,115]⟩
noncomputable abbrev wNum : Str := ⟨#[97,32,110,117,109,98,101,114,32,105,115,32,119,97,110,116,101,100]⟩
noncomputable abbrev wSet : Str := ⟨#[97,32,115,101,116,32,105,115,32,119,97,110,116,101,100]⟩
noncomputable abbrev wNoVal : Str := ⟨#[122,32,104,97,115,32,110,111,32,118,97,108,117,101]⟩
inductive Nam where
  | w | b | s | r | z
noncomputable def Nam.str : Nam → Str
  | .w => ⟨#[119]⟩
  | .b => ⟨#[98]⟩
  | .s => ⟨#[115]⟩
  | .r => ⟨#[114]⟩
  | .z => ⟨#[122]⟩
noncomputable abbrev intsD (l : List Int) : PyData := .tuple (l.map .int)
noncomputable abbrev arrD : PyData := .tuple [.tuple [.tuple [.int 1, .int 2]], .list [.int 1, .int 2]]
noncomputable abbrev here (w : Int) (so : List Int) : PyData := .dict [(.str Nam.w.str, .int w), (.str Nam.b.str, .bool true), (.str Nam.s.str, intsD so), (.str Nam.r.str, arrD)]
noncomputable abbrev scope (w : Int) (so : List Int) : PyData := .dict [(.str Nam.w.str, .tuple [tNumber, .int w]), (.str Nam.b.str, .tuple [tTruth, .bool true]), (.str Nam.s.str, .tuple [tSet, .list (so.map .int)]), (.str Nam.r.str, .tuple [tArray, .int 0])]
/-! what a node comes to: its plain values (Rv), and what holds in a set (Lo, Ro) -/
inductive Sg where
  | union | diff | symdiff | intersect
noncomputable def Sg.str : Sg → Str
  | .union => ⟨#[117,110,105,111,110]⟩
  | .diff => ⟨#[100,105,102,102]⟩
  | .symdiff => ⟨#[115,121,109,100,105,102,102]⟩
  | .intersect => ⟨#[105,110,116,101,114,115,101,99,116]⟩
inductive Lo where
  | list (l : List Int)
  | ends (a b : Int)
inductive Ro where
  | lo (x : Lo)
  | op (g : Sg) (x y : Lo)
inductive Rv where
  | num (i : Int)
  | tru (b : Bool)
  | txt (x : Str)
  | set (l : Ro)
  | arr
/-- a result, or the fault that comes first -/
inductive Re (α : Type) where
  | ok (v : α)
  | bad (t : Str) (s : Int)
noncomputable def Re.bind {α β : Type} (r : Re α) (k : α → Re β) : Re β := match r with
  | .ok v => k v
  | .bad t s => .bad t s
/-- a number is wanted -/
noncomputable def cnt {α : Type} (s : Int) (u : Rv) (k : Int → Re α) : Re α := match u with
  | .num i => k i
  | .tru b => k (if b = true then 1 else 0)
  | _ => .bad wNum s
/-- a set is wanted -/
noncomputable def lot {α : Type} (s : Int) (u : Rv) (k : Ro → Re α) : Re α := match u with
  | .set l => k l
  | _ => .bad wSet s
noncomputable def Lo.d : Lo → PyData
  | .list l => .list (l.map .int)
  | .ends a b => .tuple [tEnds, .int a, .int b]
noncomputable def Ro.d : Ro → PyData
  | .lo x => x.d
  | .op g x y => .tuple [.str g.str, x.d, y.d]
/-- how the law's own rule tells it -/
noncomputable def Rv.told : Rv → PyData
  | .num i => .tuple [tNumber, .int i]
  | .tru b => .tuple [tTruth, .bool b]
  | .txt x => .tuple [tText, .str x]
  | .set l => .tuple [tSet, l.d]
  | .arr => .tuple [tArray, .int 0]
noncomputable def badD (t : Str) (s : Int) : PyData := .tuple [tBad, .str t, .int s]
noncomputable def toldR : Re Rv → PyData
  | .ok v => v.told
  | .bad t s => badD t s
noncomputable def Lo.holds (v : Int) : Lo → Bool
  | .list l => l.any (· == v)
  | .ends a b => decide (a ≤ v ∧ v ≤ b)
noncomputable def Sg.holds (g : Sg) (p q : Bool) : Bool := match g with
  | .union => p || q
  | .diff => p && !q
  | .symdiff => p != q
  | .intersect => p && q
noncomputable def Ro.holds (v : Int) : Ro → Bool
  | .lo x => x.holds v
  | .op g x y => g.holds (x.holds v) (y.holds v)
theorem sz : sizeLine = 2 ^ 24 := rfl
theorem need_i {α : Type} {o : Option α} {a : α} {k : α → Prop} (e : o = some a) (h : k a) : need o k := by subst e; exact h
theorem gd_i {β : Type} {c : Prop} [Decidable c] {x : β} (h : c) : gd c x = some x := if_pos h
theorem brn_t {t : Bool} {P Q : Prop} (e : t = true) (h : P) : brn t P Q := by subst e; exact h
theorem brn_f {t : Bool} {P Q : Prop} (e : t = false) (h : Q) : brn t P Q := by subst e; exact h
/-! comprehensions -/
noncomputable abbrev mcD (d : PyData) : Fm := setAt mc0 1 (some (.v (.pd d)))
section
variable {G : CallS} {m mc : Fm} {e it : Mine.X} {c : Option Mine.X} {σ : Hp} {K : KV} {E : KE} {x : V} {l : List PyData}
noncomputable abbrev turnC (G : CallS) (m : Fm) (e : Mine.X) (c : Option Mine.X) (E : KE) (d : PyData) (σ : Hp) (k : List PyData → Hp → Prop) : Prop :=
  evC G gc1 m (mcD d) c σ (fun r σ3 => brn r (evX G gc1 m (mcD d) e σ3 (fun v σ4 => need (pdV v) fun d' => k [d'] σ4) E) (k [] σ3)) E
/-- a comprehension over what is pure -/
theorem cmp_i {d : PyData} (hx : ∀ K', evX G gc1 m mc it σ K' E = K' (.pd d) σ) (hl : itemsOf σ (.pd d) = some l) (h : compN (turnC G m e c E) (fun _ k => k) (fun ds σ' => when (ds.length ≤ sizeLine) (K (.pd (.list ds)) σ')) l [] σ) :
    evX G gc1 m mc (.comp false e (.n 1) it c) σ K E := by
  show evX G gc1 m mc it σ (fun x σ1 => need (itemsOf σ1 x) fun l => compN _ (fun σ' k => still σ1 σ' x k) (fun ds σ' => made false ds σ' K) l [] σ1) E
  rw [hx]
  exact need_i hl h
/-- every turn hands on what it says, and nothing else happens -/
theorem cmp_pure {α : Type} {F : PyData → Hp → (List PyData → Hp → Prop) → Prop} {KK : List PyData → Hp → Prop} {D : α → PyData} {R : α → List PyData} : ∀ (as : List α) (acc : List PyData), (∀ a ∈ as, ∀ k : List PyData → Hp → Prop, k (R a) σ → F (D a) σ k) → acc.length + (as.flatMap R).length ≤ sizeLine → KK (acc ++ as.flatMap R) σ →
    compN F (fun _ k => k) KK (as.map D) acc σ
  | [], acc, _, _, h => by rw [List.flatMap_nil, List.append_nil] at h; exact h
  | a :: r, acc, hF, hz, h => by
    rw [List.flatMap_cons, List.length_append] at hz
    refine when_i (Nat.le_trans (Nat.le_add_right _ _) hz) (hF a List.mem_cons_self _ ?_)
    refine cmp_pure r _ (fun b hb => hF b (List.mem_cons_of_mem _ hb)) (by rw [List.length_append]; omega) ?_
    rw [List.flatMap_cons, ← List.append_assoc] at h
    exact h
theorem fm_one {α : Type} (f : α → PyData) (as : List α) : as.flatMap (fun a => [f a]) = as.map f := by
  induction as with
  | nil => rfl
  | cons a r ih => rw [List.flatMap_cons, ih]; rfl
theorem fm_if {α : Type} (f : α → PyData) (p : α → Bool) (as : List α) : as.flatMap (fun a => if p a = true then [f a] else []) = (as.filter p).map f := by
  induction as with
  | nil => rfl
  | cons a r ih =>
    rw [List.flatMap_cons, ih]
    cases h : p a with
    | true => rw [if_pos rfl, List.filter_cons_of_pos h]; rfl
    | false => rw [if_neg (by decide), List.filter_cons_of_neg (by rw [h]; decide)]; rfl
end
/-! nodes without nodes -/
noncomputable abbrev se (w : Int) (so : List Int) : Loc := .v (.evr (.pd (here w so)))
/-- a set that is at hand, as the evaluator's tuple of numbers -/
structure Has (n : Nat) (l : List Int) (x : Ro) : Prop where
  len : l.length ≤ n
  mem : ∀ v, l.contains v = x.holds v
inductive Val (k : Nat) : Rv → PyData → Prop
  | num {i : Int} : i.natAbs ≤ 2 ^ k → Val k (.num i) (.int i)
  | tru (b : Bool) : Val k (.tru b) (.bool b)
  | txt (x : Str) : Val k (.txt x) (.str x)
  | set {l : List Int} {x : Ro} : Has (k - 170) l x → Val k (.set x) (intsD l)
  | arr : Val k .arr arrD
noncomputable def Out (k : Nat) (r : Re Rv) (K : KV) (E : KE) (σ : Hp) : Prop := match r with
  | .ok v => ∀ d, Val k v d → K (.pd d) σ
  | .bad t s => E ⟨false, t, .int s⟩ σ
section
variable (w : Int) (so : List Int)
noncomputable def look (s : Int) : Nam → Re Rv
  | .w => .ok (.num w)
  | .b => .ok (.tru true)
  | .s => .ok (.set (.lo (.list so)))
  | .r => .ok .arr
  | .z => .bad wNoVal s
inductive Lf : PyData → Re Rv → Prop
  | int {s i : Int} : i.natAbs ≤ 2 ^ 200 → Lf (.tuple [tInt, .int s, .int i]) (.ok (.num i))
  | bool (s : Int) (b : Bool) : Lf (.tuple [tBool, .int s, .bool b]) (.ok (.tru b))
  | str (s : Int) {x : Str} : PyData.strOk x = true → Lf (.tuple [tStr, .int s, .str x]) (.ok (.txt x))
  | name {s : Int} (hs : s.natAbs ≤ 10000) (m : Nam) : Lf (.tuple [tName, .int s, .str m.str]) (look w so s m)
noncomputable def addR (s : Int) (a b : Re Rv) : Re Rv := a.bind fun u => b.bind fun v => cnt s u fun i => cnt s v fun j => .ok (.num (i + j))
noncomputable def negR (s : Int) (a : Re Rv) : Re Rv := a.bind fun u => cnt s u fun i => .ok (.num (-i))
inductive En : PyData → Re Rv → Prop
  | lf {d : PyData} {r : Re Rv} : Lf w so d r → En d r
  | add {s : Int} {a b : PyData} {r q : Re Rv} : s.natAbs ≤ 10000 → Lf w so a r → Lf w so b q → En (.tuple [tBin, .int s, tAdd, a, b]) (addR s r q)
  | neg {s : Int} {a : PyData} {r : Re Rv} : s.natAbs ≤ 10000 → Lf w so a r → En (.tuple [tUn, .int s, tNeg, a]) (negR s r)
/-- the sack's scope -/
structure Sc : Prop where
  w : w.natAbs ≤ 2 ^ 200
  so : so.length ≤ 12
def EvOk (j k : Nat) (d : PyData) (r : Re Rv) : Prop := ∀ G, Lv j G → ∀ σ K E, Out k r K E σ → G 27 [se w so, pv d] σ K E
def TlOk (j : Nat) (d : PyData) (r : Re Rv) : Prop := ∀ G, Lv j G → ∀ σ K E, K (.pd (toldR r)) σ → G 22 [pv d, pv (scope w so)] σ K E
end
section
variable {w : Int} {so : List Int} {d : PyData} {r : Re Rv}
theorem has_so (S : Sc w so) : Has (200 - 170) so (.lo (.list so)) := ⟨Nat.le_trans S.so (by decide), fun v => by
  show so.contains v = so.any (· == v)
  rw [Bool.eq_iff_iff, List.contains_iff_mem, List.any_eq_true]
  exact ⟨fun h => ⟨v, h, beq_self_eq_true v⟩, fun ⟨x, h, e⟩ => by rw [beq_iff_eq] at e; exact e ▸ h⟩⟩
theorem ev_lf (S : Sc w so) (h : Lf w so d r) : EvOk w so 1 200 d r := fun G l σ K E o => by
  obtain ⟨H, -, u⟩ := l.dn
  refine u _ _ _ _ _ ?_
  cases h with
  | int hi => exact o _ (.num hi)
  | bool s b => exact o _ (.tru b)
  | str s hx => exact o _ (.txt _)
  | name hs m =>
    cases m with
    | w => exact o _ (.num S.w)
    | b => exact o _ (.tru true)
    | s => exact o _ (.set (has_so S))
    | r => exact o _ .arr
    | z => exact Eq.mpr (by kernel_rfl) o
theorem tl_lf (h : Lf w so d r) : TlOk w so 1 d r := fun G l σ K E o => by
  obtain ⟨H, -, u⟩ := l.dn
  refine u _ _ _ _ _ ?_
  cases h with
  | int hi => exact Eq.mpr (by kernel_rfl) o
  | bool s b => exact Eq.mpr (by kernel_rfl) o
  | str s hx => exact Eq.mpr (by kernel_rfl) o
  | name hs m => cases m <;> exact Eq.mpr (by kernel_rfl) o
end
section
variable {w : Int} {so : List Int} {d a b : PyData} {r q : Re Rv} {G H : CallS} {K K' : KV} {E : KE} {σ : Hp} {s : Int} {u v : Rv} {j k n : Nat}
/-- what is wanted as a number -/
noncomputable def OutI (k : Nat) (r : Re Int) (f : Int → Prop) (E : KE) (σ : Hp) : Prop := match r with
  | .ok i => i.natAbs ≤ 2 ^ k → f i
  | .bad t s => E ⟨false, t, .int s⟩ σ
theorem out_bind {f : Rv → Re Rv} (h : Out k (r.bind f) K E σ) (q : ∀ v, Out k (f v) K E σ → ∀ d, Val n v d → K' (.pd d) σ) : Out n r K' E σ := by
  cases r with
  | ok v => exact q v h
  | bad t s => exact h
theorem num_step (X : Up H G) (z : Val k u d) (h : OutI k (cnt s u .ok) (fun i => K (.pd (.int i)) σ) E σ) : G 6 [pv d, iv s] σ K E := X 5 _ _ _ _ (by
  cases z with
  | num hi => exact h hi
  | tru b => exact h (by cases b; exact Nat.zero_le _; exact Nat.one_le_two_pow)
  | _ => exact Eq.mpr (by kernel_rfl) h)
theorem big_pow : ((10 : Int) ^ (1000 : Nat)) > ((2 ^ 300 : Nat) : Int) := by decide +kernel
theorem fig (X : Up H G) {i : Int} (hi : i.natAbs ≤ 2 ^ 300) (h : K (.pd (.int i)) σ) : G 10 [iv i] σ K E := by
  refine X 9 _ _ _ _ ?_
  have q : decide ((i.natAbs : Int) ≥ 10 ^ 1000) = false := decide_eq_false (by
    have : (i.natAbs : Int) ≤ ((2 ^ 300 : Nat) : Int) := by exact_mod_cast hi
    exact fun q => absurd (Int.le_trans q this) (Int.not_le.mpr big_pow))
  exact Eq.mpr (by kernel_rfl : _ = brn (decide ((i.natAbs : Int) ≥ 10 ^ 1000)) (E ⟨true, Str.empty ++ ⟨#[97,32,110,117,109,98,101,114,32,104,97,115,32,97,116,32,109,111,115,116,32]⟩ ++ Str.ofString (toString (1000 : Int)) ++ ⟨#[32,102,105,103,117,114,101,115]⟩, .none⟩ σ) (K (.pd (.int i)) σ)) (q ▸ h)
/-- the counted number, then what is made of it -/
theorem cnt_out {f : Int → Re Rv} {P : Int → Prop} (h : Out n (cnt s u f) K E σ) (q : ∀ i : Int, i.natAbs ≤ 2 ^ k → Out n (f i) K E σ → P i) : OutI k (cnt s u .ok) P E σ := by
  cases u with
  | num i => exact fun hi => q i hi h
  | tru b => exact fun hi => q _ hi h
  | _ => exact h
theorem add_le {i j : Int} (hi : i.natAbs ≤ 2 ^ 200) (hj : j.natAbs ≤ 2 ^ 200) : (i + j).natAbs ≤ 2 ^ 201 :=
  Nat.le_trans (Int.natAbs_add_le i j) (Nat.le_trans (Nat.add_le_add hi hj) (by decide +kernel))
theorem Val.le {k n : Nat} {u : Rv} {d : PyData} (h : Val k u d) (q : k ≤ n) : Val n u d := by
  cases h with
  | num hi => exact .num (Nat.le_trans hi (Nat.pow_le_pow_right (by decide) q))
  | tru b => exact .tru b
  | txt x => exact .txt x
  | set h => exact .set ⟨Nat.le_trans h.len (Nat.sub_le_sub_right q 170), h.mem⟩
  | arr => exact .arr
theorem Out.le {k n : Nat} {r : Re Rv} (h : Out n r K E σ) (q : k ≤ n) : Out k r K E σ := by
  cases r with
  | ok v => exact fun d z => h d (z.le q)
  | bad t s => exact h
theorem ev_en (S : Sc w so) (h : En w so d r) : EvOk w so 4 201 d r := fun G l σ K E o => by
  obtain ⟨H, l1, u⟩ := l.dn
  obtain ⟨I, l2, u1⟩ := l1.dn
  obtain ⟨J, l3, u2⟩ := l2.dn
  obtain ⟨Z, _, u3⟩ := l3.dn
  cases h with
  | lf h => exact ev_lf S h G (l.le (by decide)) σ K E (o.le (by decide))
  | @add s a b ra rb hs0 ha hb =>
    refine u _ _ _ _ _ (Eq.mpr (by kernel_rfl : _ = H 31 [se w so, pv tAdd, pv a, pv b, iv s] σ K E) (u1 _ _ _ _ _ ?_))
    refine Eq.mpr (by kernel_rfl : _ = I 27 [se w so, pv a] σ (fun u σ => I 27 [se w so, pv b] σ (fun v σ => I 6 [.v u, iv s] σ (fun i σ => I 6 [.v v, iv s] σ (fun j σ => I 12 [pv tAdd, .v i, .v j, iv s] σ K E) E) E) E) E) ?_
    refine ev_lf S ha I (l2.le (by decide)) _ _ _ (out_bind o fun u o d z => ev_lf S hb I (l2.le (by decide)) _ _ _ (out_bind o fun v o d' z' => ?_))
    refine num_step u2 z (cnt_out o fun i hi o => num_step u2 z' (cnt_out o fun j hj o => ?_))
    have hs := add_le hi hj
    exact u2 11 _ _ _ _ (Eq.mpr (by kernel_rfl : _ = J 10 [iv (i + j)] σ K E) (fig u3 (Nat.le_trans hs (by decide +kernel)) (o _ (.num hs))))
  | @neg s a ra hs0 ha =>
    refine u _ _ _ _ _ (Eq.mpr (by kernel_rfl : _ = H 30 [se w so, pv tNeg, pv a, iv s] σ K E) (u1 _ _ _ _ _ ?_))
    refine Eq.mpr (by kernel_rfl : _ = I 27 [se w so, pv a] σ (fun u σ => I 6 [.v u, iv s] σ (fun i σ => need (intV i) fun i => I 10 [iv (-i)] σ K E) E) E) ?_
    refine ev_lf S ha I (l2.le (by decide)) _ _ _ (out_bind o fun u o d z => ?_)
    refine num_step u2 z (cnt_out o fun i hi o => need_i rfl ?_)
    have hs : (-i).natAbs ≤ 2 ^ 201 := by rw [Int.natAbs_neg]; exact Nat.le_trans hi (by decide +kernel)
    exact fig u2 (Nat.le_trans hs (by decide +kernel)) (o _ (.num hs))
end
/-! THE LAW'S OWN RULE -/
def Lay (j : Nat) (d : PyData) : Prop := d.canLay0 = true ∧ d.depth ≤ j
theorem lays {j : Nat} : ∀ {l : List PyData}, (∀ d ∈ l, Lay j d) → PyData.canLayAll0 l = true ∧ PyData.depthAll l ≤ j
  | [], _ => ⟨rfl, Nat.zero_le _⟩
  | d :: r, h => by
    obtain ⟨a, b⟩ := List.forall_mem_cons.mp h
    obtain ⟨p, q⟩ := lays b
    exact ⟨Bool.and_eq_true_iff.mpr ⟨a.1, p⟩, Nat.max_le.mpr ⟨a.2, q⟩⟩
theorem lay_tup {j : Nat} {l : List PyData} (h : ∀ d ∈ l, Lay j d) : Lay (j + 1) (.tuple l) := ⟨(lays h).1, Nat.succ_le_succ (lays h).2⟩
theorem lay_list {j : Nat} {l : List PyData} (h : ∀ d ∈ l, Lay j d) : Lay (j + 1) (.list l) := ⟨(lays h).1, Nat.succ_le_succ (lays h).2⟩
theorem lay_cons {j : Nat} {d : PyData} {l : List PyData} (h : Lay j d) (q : ∀ d ∈ l, Lay j d) : ∀ x ∈ d :: l, Lay j x := List.forall_mem_cons.mpr ⟨h, q⟩
theorem lay_nil {j : Nat} : ∀ d ∈ ([] : List PyData), Lay j d := fun _ h => nomatch h
theorem lay_int {j : Nat} (i : Int) : Lay j (.int i) := ⟨rfl, Nat.zero_le _⟩
theorem lay_bool {j : Nat} (b : Bool) : Lay j (.bool b) := ⟨rfl, Nat.zero_le _⟩
theorem lay_str {j : Nat} {x : Str} (h : PyData.strOk x = true) : Lay j (.str x) := ⟨h, Nat.zero_le _⟩
theorem lay_ints {j : Nat} (l : List Int) : ∀ d ∈ l.map PyData.int, Lay j d := fun d h => by
  obtain ⟨i, _, rfl⟩ := List.mem_map.mp h
  exact lay_int i
theorem lo_lay (x : Lo) : Lay 5 x.d := by
  cases x with
  | list l => exact lay_list (lay_ints l)
  | ends a b => exact lay_tup (lay_cons (lay_str (by decide +kernel)) (lay_cons (lay_int a) (lay_cons (lay_int b) lay_nil)))
theorem Lay.mono {i j : Nat} {d : PyData} (h : Lay i d) (q : i ≤ j) : Lay j d := ⟨h.1, Nat.le_trans h.2 q⟩
theorem ro_lay (x : Ro) : Lay 6 x.d := by
  cases x with
  | lo x => exact (lo_lay x).mono (by decide)
  | op g x y => exact lay_tup (lay_cons (lay_str (by cases g <;> decide +kernel)) (lay_cons (lo_lay x) (lay_cons (lo_lay y) lay_nil)))
/-- its texts may be shown -/
def Ok : Re Rv → Prop
  | .ok v => match v with
    | .txt x => PyData.strOk x = true
    | _ => True
  | .bad t s => PyData.strOk t = true ∧ t.length ≤ 100 ∧ s.natAbs ≤ 10000
theorem told_lay {r : Re Rv} (h : Ok r) : Lay 7 (toldR r) := by
  cases r with
  | ok v =>
    cases v with
    | num i => exact lay_tup (lay_cons (lay_str (by decide +kernel)) (lay_cons (lay_int i) lay_nil))
    | tru b => exact lay_tup (lay_cons (lay_str (by decide +kernel)) (lay_cons (lay_bool b) lay_nil))
    | txt x => exact lay_tup (lay_cons (lay_str (by decide +kernel)) (lay_cons (lay_str h) lay_nil))
    | set l => exact lay_tup (lay_cons (lay_str (by decide +kernel)) (lay_cons (ro_lay l) lay_nil))
    | arr => exact lay_tup (lay_cons (lay_str (by decide +kernel)) (lay_cons (lay_int 0) lay_nil))
  | bad t s => exact lay_tup (lay_cons (lay_str (by decide +kernel)) (lay_cons (lay_str h.1) (lay_cons (lay_int s) lay_nil)))
theorem ne_nil {l : List PyData} (h : ∀ d ∈ l, Lay 60 d) (σ : Hp) : evOp .ne (.pd (.list l)) (.pd (.list [])) σ = some (.bool (!l.isEmpty)) := by
  have e : eqP (.list l) (.list []) = some l.isEmpty := (gd_i ⟨(lay_list h).1, rfl, Nat.le_trans (lay_list h).2 (by decide)⟩).trans (by cases l <;> rfl)
  exact congrArg (fun o => Option.map (fun r => PyData.bool (!r)) o) e
theorem sub0 {a : PyData} {l : List PyData} (h : (a :: l).length ≤ sizeLine) (σ : Hp) : evSub σ (.pd (.list (a :: l))) (.pd (.int 0)) = some (.pd a) := by
  have e : idx (a :: l) 0 = some a := by
    unfold idx
    rw [if_pos ⟨by omega, by rw [List.length_cons]; omega, h⟩]; rfl
  exact congrArg (fun o => alt (Option.map V.pd o) _) e
noncomputable def Re.isBad {α : Type} : Re α → Bool
  | .bad _ _ => true
  | _ => false
noncomputable def seqR {α : Type} : List (Re α) → Re (List α)
  | [] => .ok []
  | r :: q => r.bind fun v => (seqR q).bind fun vs => .ok (v :: vs)
inductive SeqC {α : Type} (rs : List (Re α)) : Prop
  | ok (vs : List α) (e : rs = vs.map .ok) (q : seqR rs = .ok vs) (f : rs.filter Re.isBad = [])
  | bad (t : Str) (s : Int) (rest : List (Re α)) (f : rs.filter Re.isBad = .bad t s :: rest) (q : seqR rs = .bad t s)
theorem seq_c {α : Type} : ∀ rs : List (Re α), SeqC rs
  | [] => .ok [] rfl rfl rfl
  | .bad t s :: q => .bad t s (q.filter Re.isBad) rfl rfl
  | .ok v :: q => by
    cases seq_c q with
    | ok vs e h f => exact .ok (v :: vs) (by rw [e]; rfl) (by show (seqR q).bind _ = _; rw [h]; rfl) f
    | bad t s rest f h => exact .bad t s rest f (by show (seqR q).bind _ = _; rw [h]; rfl)
noncomputable abbrev b22 := fn22.body
noncomputable abbrev m22 (w : Int) (so : List Int) (nd op : PyData) (sp : Int) (a b c d : Option Loc) : Fm := [some (pv nd), some (pv (scope w so)), some (pv op), some (iv sp), a, b, c, d]
section
variable {w : Int} {so : List Int} {nd op : PyData} {sp : Int} {inn : Option Loc} {G H : CallS} {K : KV} {E : KE} {σ : Hp} {j : Nat} {rest : List Mine.S} {cc dd : Option Loc}
/-- the first of the parts that is wrong, if one is -/
theorem first_bad {rs : List (Re Rv)} {KS' : KS} (hl : rs.length ≤ 12) (ok : ∀ r ∈ rs, Ok r) (hok : ∀ vs : List Rv, rs = vs.map .ok → evSs G gc1 rest (m22 w so nd op sp inn (some (pv (.list (rs.map toldR)))) (some (pv (.list []))) dd) σ KS' E)
    (hbad : ∀ t s m, seqR rs = .bad t s → KS' (.ret (.pd (badD t s))) m σ) :
    evSs G gc1 ((b22.drop 5).take 2 ++ rest) (m22 w so nd op sp inn (some (pv (.list (rs.map toldR)))) cc dd) σ KS' E := by
  refine Eq.mpr (by kernel_rfl : _ = evX G gc1 (m22 w so nd op sp inn (some (pv (.list (rs.map toldR)))) cc dd) [] (.comp false (.w 1) (.n 1) (.v 5) (some (.op .eq (.sub (.w 1) (.c (.int 0))) (.c tBad)))) σ (fun v σ' => when (6 < 8) (evSs G gc1 ((b22.drop 6).take 1 ++ rest) (m22 w so nd op sp inn (some (pv (.list (rs.map toldR)))) (some (.v v)) dd) σ' KS' E)) E) ?_
  refine cmp_i (d := .list (rs.map toldR)) (fun _ => rfl) rfl (cmp_pure (R := fun r => if r.isBad = true then [toldR r] else []) rs [] (fun r _ k h => ?_) ?_ ?_)
  · cases r with
    | ok v => cases v <;> exact Eq.mpr (by kernel_rfl) h
    | bad t s => exact Eq.mpr (by kernel_rfl) h
  · rw [fm_if, List.length_nil, Nat.zero_add, List.length_map, sz]
    exact Nat.le_trans (List.length_filter_le _ _) (Nat.le_trans hl (by decide))
  · rw [fm_if, List.nil_append]
    refine when_i (by rw [List.length_map, sz]; exact Nat.le_trans (List.length_filter_le _ _) (Nat.le_trans hl (by decide))) (when_i (by decide) ?_)
    have lay : ∀ d ∈ (rs.filter Re.isBad).map toldR, Lay 60 d := fun d hd => by
      obtain ⟨r, hr, rfl⟩ := List.mem_map.mp hd
      exact (told_lay (ok r (List.mem_filter.mp hr).1)).mono (by decide)
    show need (evOp .ne (.pd (.list ((rs.filter Re.isBad).map toldR))) (.pd (.list [])) σ) _
    refine need_i (ne_nil lay σ) ?_
    cases seq_c rs with
    | ok vs e q f => rw [f]; exact hok vs e
    | bad t s r f q =>
      have len : (toldR (.bad t s) :: r.map toldR).length ≤ sizeLine := by
        rw [← List.map_cons, ← f, List.length_map, sz]; exact Nat.le_trans (List.length_filter_le _ _) (Nat.le_trans hl (by decide))
      rw [f]
      refine Eq.mpr (by kernel_rfl : _ = need (evSub σ (.pd (.list (toldR (.bad t s) :: r.map toldR))) (.pd (.int 0))) fun z => KS' (.ret z) (m22 w so nd op sp inn (some (pv (.list (rs.map toldR)))) (some (pv (.list (toldR (.bad t s) :: r.map toldR)))) dd) σ) ?_
      exact need_i (sub0 len σ) (hbad t s _ q)
end
theorem cnt_bind {α : Type} {s : Int} {u : Rv} {f : Int → Re α} : (cnt s u Re.ok).bind f = cnt s u f := by cases u <;> rfl
theorem seqR_ok {α : Type} : ∀ vs : List α, seqR (vs.map .ok) = .ok vs
  | [] => rfl
  | v :: r => by show (seqR (r.map .ok)).bind _ = _; rw [seqR_ok r]; rfl
noncomputable def Re.num : Re Int → Re Rv
  | .ok i => .ok (.num i)
  | .bad t s => .bad t s
theorem seq_num : ∀ rs : List (Re Int), seqR (rs.map Re.num) = (seqR rs).bind fun ns => .ok (ns.map .num)
  | [] => rfl
  | .bad t s :: q => rfl
  | .ok i :: q => by
    show (seqR (q.map Re.num)).bind _ = ((seqR q).bind _).bind _
    rw [seq_num q]
    cases seqR q <;> rfl
noncomputable def numsR (s : Int) (rs : List (Re Rv)) (fin : List Int → Re Rv) : Re Rv := (seqR rs).bind fun vs => (seqR (vs.map fun v => cnt s v .ok)).bind fin
section
variable {w : Int} {so : List Int} {nd op : PyData} {sp : Int} {inn : Option Loc} {G H : CallS} {K : KV} {E : KE} {σ : Hp} {j : Nat} {ps : List (PyData × Re Rv)}
theorem cnt_told (X : Up H G) {v : Rv} {s : Int} (h : K (.pd (toldR (cnt s v .ok).num)) σ) : G 21 [pv v.told, iv s] σ K E := X 20 _ _ _ _ (by
  cases v with
  | tru b => cases b <;> exact Eq.mpr (by kernel_rfl) h
  | _ => exact Eq.mpr (by kernel_rfl) h)
theorem parts_told {KS' : KS} (lv : Lv j G) (hp : ∀ p ∈ ps, TlOk w so j p.1 p.2) (hl : ps.length ≤ 12) (hi : inn = some (pv (.tuple (ps.map (·.1)))))
    (h : evSs G gc1 (b22.drop 5) (m22 w so nd op sp inn (some (pv (.list ((ps.map (·.2)).map toldR)))) none none) σ KS' E) : evSs G gc1 (b22.drop 4) (m22 w so nd op sp inn none none none) σ KS' E := by
  subst hi
  refine Eq.mpr (by kernel_rfl : _ = evX G gc1 (m22 w so nd op sp (some (pv (.tuple (ps.map (·.1))))) none none none) [] (.comp false (.call 22 [.w 1, .v 1]) (.n 1) (.v 4) none) σ (fun v σ' => when (5 < 8) (evSs G gc1 (b22.drop 5) (m22 w so nd op sp (some (pv (.tuple (ps.map (·.1))))) (some (.v v)) none none) σ' KS' E)) E) ?_
  refine cmp_i (d := .tuple (ps.map (·.1))) (fun _ => rfl) rfl (cmp_pure (R := fun p => [toldR p.2]) ps [] (fun p hpm k h => ?_) ?_ ?_)
  · exact hp p hpm G lv σ _ E (need_i rfl h)
  · rw [fm_one, List.length_nil, Nat.zero_add, List.length_map, sz]; exact Nat.le_trans hl (by decide)
  · rw [fm_one, List.nil_append]
    refine when_i (by rw [List.length_map, sz]; exact Nat.le_trans hl (by decide)) (when_i (by decide) ?_)
    rw [List.map_map] at h
    exact h
theorem counted {K : KV} (hs : sp.natAbs ≤ 10000) (X : Up H G) {vs : List Rv} {fin : List Int → Re Rv} (hl : vs.length ≤ 12) (h12 : ∀ ns b c, ns.length = vs.length → K (.pd (toldR (fin ns))) σ → evSs G gc1 (b22.drop 12) (m22 w so nd op sp inn b c (some (pv (.list (ns.map .int))))) σ (retK K) E)
    (o : K (.pd (toldR ((seqR (vs.map fun v => cnt sp v .ok)).bind fin))) σ) {c : Option Loc} : evSs G gc1 (b22.drop 8) (m22 w so nd op sp inn (some (pv (.list (vs.map Rv.told)))) c none) σ (retK K) E := by
  refine Eq.mpr (by kernel_rfl : _ = evX G gc1 (m22 w so nd op sp inn (some (pv (.list (vs.map Rv.told)))) c none) [] (.comp false (.call 21 [.w 1, .v 3]) (.n 1) (.v 5) none) σ (fun v σ' => when (5 < 8) (evSs G gc1 ((b22.drop 5).take 2 ++ b22.drop 11) (m22 w so nd op sp inn (some (.v v)) c none) σ' (retK K) E)) E) ?_
  refine cmp_i (d := .list (vs.map Rv.told)) (fun _ => rfl) rfl (cmp_pure (R := fun v => [toldR (cnt sp v .ok).num]) vs [] (fun v _ k h => ?_) ?_ ?_)
  · exact cnt_told (K := fun v σ4 => need (pdV v) fun d' => k [d'] σ4) X (need_i rfl h)
  · rw [fm_one, List.length_nil, Nat.zero_add, List.length_map, sz]; exact Nat.le_trans hl (by decide)
  · rw [fm_one, List.nil_append]
    refine when_i (by rw [List.length_map, sz]; exact Nat.le_trans hl (by decide)) (when_i (by decide) ?_)
    have e : vs.map (fun v => toldR (cnt sp v .ok).num) = ((vs.map fun v => cnt sp v .ok).map Re.num).map toldR := by rw [List.map_map, List.map_map]; rfl
    have el : (vs.map fun v => cnt sp v .ok).length = vs.length := List.length_map _
    show evSs G gc1 _ (m22 w so nd op sp inn (some (pv (.list (vs.map fun v => toldR (cnt sp v .ok).num)))) c none) σ (retK K) E
    rw [e]
    have es := seq_num (vs.map fun v => cnt sp v .ok)
    have oks : ∀ r ∈ (vs.map fun v => cnt sp v .ok).map Re.num, Ok r := fun r hr => by
      rw [List.map_map] at hr
      obtain ⟨v, _, rfl⟩ := List.mem_map.mp hr
      cases v <;> first | trivial | exact ⟨by decide +kernel, by decide, hs⟩
    generalize (vs.map fun v => cnt sp v .ok) = rs at o es oks el
    refine first_bad (by rw [List.length_map, el]; exact hl) oks (fun us hu => ?_) fun t s m q => ?_
    · have q := seqR_ok us
      rw [← hu, es] at q
      cases hq : seqR rs with
      | bad t s => rw [hq] at q; cases q
      | ok ns =>
        rw [hq] at q o
        have hus : ns.map Rv.num = us := by cases q; rfl
        have hn : ns.length = vs.length := by rw [← el, ← List.length_map (f := Re.num), hu, ← hus, List.length_map, List.length_map]
        rw [hu, ← hus]
        refine Eq.mpr (by kernel_rfl : _ = evX G gc1 (m22 w so nd op sp inn (some (pv (.list (((ns.map Rv.num).map Re.ok).map toldR)))) (some (pv (.list []))) none) [] (.comp false (.sub (.w 1) (.c (.int 1))) (.n 1) (.v 5) none) σ (fun v σ' => when (7 < 8) (evSs G gc1 (b22.drop 12) (m22 w so nd op sp inn (some (pv (.list (((ns.map Rv.num).map Re.ok).map toldR)))) (some (pv (.list []))) (some (.v v))) σ' (retK K) E)) E) ?_
        have ee : ((ns.map Rv.num).map Re.ok).map toldR = ns.map fun i => toldR (.ok (.num i)) := by rw [List.map_map, List.map_map]; rfl
        rw [ee]
        refine cmp_i (d := .list (ns.map fun i => toldR (.ok (.num i)))) (fun _ => rfl) rfl (cmp_pure (R := fun i => [.int i]) ns [] (fun v _ k h => Eq.mpr (by kernel_rfl) h) ?_ ?_)
        · rw [fm_one, List.length_nil, Nat.zero_add, List.length_map, sz, hn]; exact Nat.le_trans hl (by decide)
        · rw [fm_one, List.nil_append]
          exact when_i (by rw [List.length_map, sz, hn]; exact Nat.le_trans hl (by decide)) (when_i (by decide) (h12 ns _ _ hn o))
    · rw [es] at q
      cases hq : seqR rs with
      | bad t' s' => rw [hq] at q o; cases q; exact o
      | ok ns => rw [hq] at q; cases q
/-- a node of numbers, as the law's own rule tells it -/
theorem told_num {fin : List Int → Re Rv} (hs : sp.natAbs ≤ 10000) (lv : Lv j G) (X : Up H G) (hp : ∀ p ∈ ps, TlOk w so j p.1 p.2) (ho : ∀ p ∈ ps, Ok p.2) (hl : ps.length ≤ 12) (hi : inn = some (pv (.tuple (ps.map (·.1)))))
    (h7 : ∀ b c, evSs G gc1 (b22.drop 7) (m22 w so nd op sp inn b c none) σ (retK K) E = evSs G gc1 (b22.drop 8) (m22 w so nd op sp inn b c none) σ (retK K) E)
    (h12 : ∀ ns b c, ns.length = ps.length → K (.pd (toldR (fin ns))) σ → evSs G gc1 (b22.drop 12) (m22 w so nd op sp inn b c (some (pv (.list (ns.map .int))))) σ (retK K) E)
    (o : K (.pd (toldR (numsR sp (ps.map (·.2)) fin))) σ) : evSs G gc1 (b22.drop 4) (m22 w so nd op sp inn none none none) σ (retK K) E := by
  refine parts_told lv hp hl hi ?_
  refine first_bad (rest := b22.drop 7) (by rw [List.length_map]; exact hl) (fun r hr => ?_) (fun vs e => ?_) fun t s m q => ?_
  · obtain ⟨p, hpm, rfl⟩ := List.mem_map.mp hr
    exact ho p hpm
  · have el : vs.length = ps.length := by
      have := congrArg List.length e
      rw [List.length_map, List.length_map] at this; exact this.symm
    have o : K (.pd (toldR ((seqR (vs.map fun v => cnt sp v .ok)).bind fin))) σ := by
      unfold numsR at o
      rw [e, seqR_ok] at o; exact o
    have ee : (ps.map (·.2)).map toldR = vs.map Rv.told := by rw [e, List.map_map]; rfl
    rw [h7, ee]
    exact counted hs X (by rw [el]; exact hl) (fun ns b c hn => h12 ns b c (hn.trans el)) o
  · unfold numsR at o
    rw [q] at o; exact o
end
noncomputable def finAdd : List Int → Re Rv
  | [i, j] => .ok (.num (i + j))
  | _ => .bad wNum 0
noncomputable def finNeg : List Int → Re Rv
  | [i] => .ok (.num (0 - i))
  | _ => .bad wNum 0
noncomputable def finEnds : List Int → Re Rv
  | [i, j] => .ok (.set (.lo (.ends i j)))
  | _ => .bad wNum 0
noncomputable def finSet (ns : List Int) : Re Rv := .ok (.set (.lo (.list ns)))
theorem nums_one {s : Int} {r : Re Rv} {fin : List Int → Re Rv} : numsR s [r] fin = r.bind fun u => cnt s u fun i => fin [i] := by
  cases r with
  | bad t s => rfl
  | ok u => cases u <;> rfl
theorem nums_two {s : Int} {r q : Re Rv} {fin : List Int → Re Rv} : numsR s [r, q] fin = r.bind fun u => q.bind fun v => cnt s u fun i => cnt s v fun j => fin [i, j] := by
  cases r with
  | bad t s => rfl
  | ok u =>
    cases q with
    | bad t s => rfl
    | ok v =>
      show ((cnt s u Re.ok).bind fun i => ((cnt s v Re.ok).bind fun j => Re.ok [j]).bind fun js => Re.ok (i :: js)).bind fin = cnt s u fun i => cnt s v fun j => fin [i, j]
      cases u <;> first | rfl | (cases v <;> rfl)
section
variable {w : Int} {so : List Int} {d a b : PyData} {ra rb r : Re Rv} {G H : CallS} {K : KV} {E : KE} {σ : Hp} {s : Int} {j : Nat}
theorem bind_ok {f : Rv → Re Rv} (hr : Ok r) (hf : ∀ u, Ok (f u)) : Ok (r.bind f) := by
  cases r with
  | ok u => exact hf u
  | bad t s => exact hr
theorem ok_num (hs : s.natAbs ≤ 10000) : Ok (.bad wNum s) := ⟨by decide +kernel, by decide, hs⟩
theorem ok_set (hs : s.natAbs ≤ 10000) : Ok (.bad wSet s) := ⟨by decide +kernel, by decide, hs⟩
theorem cnt_ok (hs : s.natAbs ≤ 10000) {u : Rv} {f : Int → Re Rv} (hf : ∀ i, Ok (f i)) : Ok (cnt s u f) := by
  cases u with
  | num i => exact hf i
  | tru b => exact hf _
  | _ => exact ok_num hs
theorem lf_ok (h : Lf w so d r) : Ok r := by
  cases h with
  | str s hx => exact hx
  | name hs m => cases m <;> first | trivial | exact ⟨by decide +kernel, by decide, hs⟩
  | _ => trivial
theorem en_ok (h : En w so d r) : Ok r := by
  cases h with
  | lf h => exact lf_ok h
  | add hs ha hb => exact bind_ok (lf_ok ha) fun u => bind_ok (lf_ok hb) fun v => cnt_ok hs fun i => cnt_ok hs fun j => trivial
  | neg hs ha => exact bind_ok (lf_ok ha) fun u => cnt_ok hs fun i => trivial
theorem one_all {α : Type} {P : α → Prop} {a : α} (h : P a) : ∀ x ∈ [a], P x := List.forall_mem_cons.mpr ⟨h, fun _ q => nomatch q⟩
theorem two_all {α : Type} {P : α → Prop} {a b : α} (h : P a) (q : P b) : ∀ x ∈ [a, b], P x := List.forall_mem_cons.mpr ⟨h, one_all q⟩
theorem tl_add (hs : s.natAbs ≤ 10000) (ha : Lf w so a ra) (hb : Lf w so b rb) : TlOk w so 3 (.tuple [tBin, .int s, tAdd, a, b]) (addR s ra rb) := fun G l σ K E o => by
  obtain ⟨H, l1, u⟩ := l.dn
  obtain ⟨I, l2, u1⟩ := l1.dn
  refine u 21 _ _ _ _ (Eq.mpr (by kernel_rfl : _ = evSs H gc1 (b22.drop 4) (m22 w so (.tuple [tBin, .int s, tAdd, a, b]) tBin s (some (pv (.tuple [a, b]))) none none none) σ (retK K) E) ?_)
  refine told_num (ps := [(a, ra), (b, rb)]) (fin := finAdd) hs l1 u1 (two_all (fun G l => tl_lf ha G (l.le (by decide))) fun G l => tl_lf hb G (l.le (by decide))) (two_all (lf_ok ha) (lf_ok hb)) (show 2 ≤ 12 by decide) rfl (fun _ _ => by kernel_rfl) (fun ns b c hn h => ?_) ?_
  · obtain ⟨i, j, rfl⟩ : ∃ i j, ns = [i, j] := by
      match ns, hn with
      | [i, j], _ => exact ⟨i, j, rfl⟩
    exact Eq.mpr (by kernel_rfl) h
  · rw [show ([(a, ra), (b, rb)] : List (PyData × Re Rv)).map (·.2) = [ra, rb] from rfl, nums_two]; exact o
theorem tl_neg (hs : s.natAbs ≤ 10000) (ha : Lf w so a ra) : TlOk w so 3 (.tuple [tUn, .int s, tNeg, a]) (negR s ra) := fun G l σ K E o => by
  obtain ⟨H, l1, u⟩ := l.dn
  obtain ⟨I, l2, u1⟩ := l1.dn
  refine u 21 _ _ _ _ (Eq.mpr (by kernel_rfl : _ = evSs H gc1 (b22.drop 4) (m22 w so (.tuple [tUn, .int s, tNeg, a]) tUn s (some (pv (.tuple [a]))) none none none) σ (retK K) E) ?_)
  refine told_num (ps := [(a, ra)]) (fin := finNeg) hs l1 u1 (one_all fun G l => tl_lf ha G (l.le (by decide))) (one_all (lf_ok ha)) (show 1 ≤ 12 by decide) rfl (fun _ _ => by kernel_rfl) (fun ns b c hn h => ?_) ?_
  · obtain ⟨i, rfl⟩ : ∃ i, ns = [i] := by
      match ns, hn with
      | [i], _ => exact ⟨i, rfl⟩
    exact Eq.mpr (by kernel_rfl) h
  · rw [show ([(a, ra)] : List (PyData × Re Rv)).map (·.2) = [ra] from rfl, nums_one]
    have e : (ra.bind fun u => cnt s u fun i => finNeg [i]) = negR s ra := by
      unfold negR
      congr 1
      funext u
      congr 1
      funext i
      show Re.ok (Rv.num (0 - i)) = Re.ok (Rv.num (-i))
      rw [Int.zero_sub]
    rw [e]; exact o
theorem tl_en (h : En w so d r) : TlOk w so 3 d r := by
  cases h with
  | lf h => exact fun G l => tl_lf h G (l.le (by decide))
  | add hs ha hb => exact tl_add hs ha hb
  | neg hs ha => exact tl_neg hs ha
/-- ranges and sets -/
noncomputable def setR (s : Int) (rs : List (Re Rv)) : Re Rv := numsR s rs finSet
noncomputable def endsR (s : Int) (ra rb : Re Rv) : Re Rv := ra.bind fun u => rb.bind fun v => cnt s u fun i => cnt s v fun j => .ok (.set (.lo (.ends i j)))
theorem tl_set (hs : s.natAbs ≤ 10000) {ps : List (PyData × Re Rv)} (hp : ∀ p ∈ ps, En w so p.1 p.2) (hl : ps.length ≤ 12) : TlOk w so 5 (.tuple [tSet, .int s, .tuple (ps.map (·.1))]) (setR s (ps.map (·.2))) := fun G l σ K E o => by
  obtain ⟨H, l1, u⟩ := l.dn
  obtain ⟨I, l2, u1⟩ := l1.dn
  refine u 21 _ _ _ _ (Eq.mpr (by kernel_rfl : _ = evSs H gc1 (b22.drop 4) (m22 w so (.tuple [tSet, .int s, .tuple (ps.map (·.1))]) tSet s (some (pv (.tuple (ps.map (·.1))))) none none none) σ (retK K) E) ?_)
  exact told_num (ps := ps) (fin := finSet) hs l1 u1 (fun p hm => fun G l => tl_en (hp p hm) G (l.le (by decide))) (fun p hm => en_ok (hp p hm)) hl rfl (fun _ _ => by kernel_rfl) (fun ns b c hn h => Eq.mpr (by kernel_rfl) h) o
theorem tl_rng (hs : s.natAbs ≤ 10000) (ha : En w so a ra) (hb : En w so b rb) : TlOk w so 5 (.tuple [tRange, .int s, a, b]) (endsR s ra rb) := fun G l σ K E o => by
  obtain ⟨H, l1, u⟩ := l.dn
  obtain ⟨I, l2, u1⟩ := l1.dn
  refine u 21 _ _ _ _ (Eq.mpr (by kernel_rfl : _ = evSs H gc1 (b22.drop 4) (m22 w so (.tuple [tRange, .int s, a, b]) tRange s (some (pv (.tuple [a, b]))) none none none) σ (retK K) E) ?_)
  refine told_num (ps := [(a, ra), (b, rb)]) (fin := finEnds) hs l1 u1 (two_all (fun G l => tl_en ha G (l.le (by decide))) fun G l => tl_en hb G (l.le (by decide))) (two_all (en_ok ha) (en_ok hb)) (show 2 ≤ 12 by decide) rfl (fun _ _ => by kernel_rfl) (fun ns b c hn h => ?_) ?_
  · obtain ⟨i, j, rfl⟩ : ∃ i j, ns = [i, j] := by
      match ns, hn with
      | [i, j], _ => exact ⟨i, j, rfl⟩
    exact Eq.mpr (by kernel_rfl) h
  · rw [show ([(a, ra), (b, rb)] : List (PyData × Re Rv)).map (·.2) = [ra, rb] from rfl, nums_two]; exact o
end
noncomputable abbrev rngD (s s1 s2 lo hi : Int) : PyData := .tuple [tRange, .int s, .tuple [tInt, .int s1, .int lo], .tuple [tInt, .int s2, .int hi]]
/-- what two sets are joined from -/
inductive Lt (w : Int) (so : List Int) : PyData → Re Rv → Prop
  | lf {d : PyData} {r : Re Rv} : Lf w so d r → Lt w so d r
  | set {s : Int} {ps : List (PyData × Re Rv)} : s.natAbs ≤ 10000 → (∀ p ∈ ps, En w so p.1 p.2) → ps.length ≤ 3 → Lt w so (.tuple [tSet, .int s, .tuple (ps.map (·.1))]) (setR s (ps.map (·.2)))
  | rng {s s1 s2 lo hi : Int} : s.natAbs ≤ 10000 → lo.natAbs ≤ 10 → hi.natAbs ≤ 10 → hi ≤ lo + 4 → Lt w so (rngD s s1 s2 lo hi) (.ok (.set (.lo (.ends lo hi))))
def FlatV : Rv → Prop
  | .set (.op ..) => False
  | _ => True
noncomputable def un2 (s : Int) (g : Sg) (u v : Rv) : Re Rv := match u, v with
  | .set (.lo x), .set (.lo y) => .ok (.set (.op g x y))
  | _, _ => .bad wSet s
noncomputable def unR (s : Int) (g : Sg) (ra rb : Re Rv) : Re Rv := ra.bind fun u => rb.bind fun v => un2 s g u v
section
variable {w : Int} {so : List Int} {d a b : PyData} {ra rb r : Re Rv} {G H : CallS} {K : KV} {E : KE} {σ : Hp} {s : Int} {j : Nat}
theorem small_in {i : Int} (h : i.natAbs ≤ 10) : i.natAbs ≤ 2 ^ 200 := Nat.le_trans h (by decide +kernel)
theorem tl_lt (h : Lt w so d r) : TlOk w so 5 d r := by
  cases h with
  | lf h => exact fun G l => tl_lf h G (l.le (by decide))
  | set hs hp hl => exact tl_set hs hp (Nat.le_trans hl (by decide))
  | rng hs h1 h2 h3 => exact tl_rng hs (.lf (.int (small_in h1))) (.lf (.int (small_in h2)))
theorem nums_ok (hs : s.natAbs ≤ 10000) {rs : List (Re Rv)} {fin : List Int → Re Rv} (h : ∀ r ∈ rs, Ok r) (hf : ∀ ns, Ok (fin ns)) : Ok (numsR s rs fin) := by
  unfold numsR
  have l1 : ∀ vs : List Rv, Ok ((seqR (vs.map fun v => cnt s v .ok)).bind fin) := fun vs => by
    cases seq_c (vs.map fun v => cnt s v .ok) with
    | ok ns e q f => rw [q]; exact hf ns
    | bad t s' rest f q =>
      rw [q]
      have : Re.bad t s' ∈ (vs.map fun v => cnt s v .ok) := (List.mem_filter.mp (f ▸ List.mem_cons_self)).1
      obtain ⟨v, _, e⟩ := List.mem_map.mp this
      cases v <;> cases e <;> exact ok_num hs
  cases seq_c rs with
  | ok vs e q f => rw [q]; exact l1 vs
  | bad t s' rest f q => rw [q]; exact h _ (List.mem_filter.mp (f ▸ List.mem_cons_self)).1
theorem lt_ok (h : Lt w so d r) : Ok r := by
  cases h with
  | lf h => exact lf_ok h
  | set hs hp hl => exact nums_ok hs (fun r hr => by obtain ⟨p, hm, rfl⟩ := List.mem_map.mp hr; exact en_ok (hp p hm)) fun _ => trivial
  | rng => trivial
theorem lf_flat {u : Rv} (h : Lf w so d (.ok u)) : FlatV u := by
  generalize e : Re.ok u = r at h
  cases h with
  | name hs m => cases m <;> cases e <;> trivial
  | _ => cases e; trivial
theorem nums_flat {rs : List (Re Rv)} {fin : List Int → Re Rv} (hf : ∀ ns u, fin ns = .ok u → FlatV u) {u : Rv} (e : numsR s rs fin = .ok u) : FlatV u := by
  unfold numsR at e
  cases h : seqR rs with
  | bad t s => rw [h] at e; cases e
  | ok vs =>
    rw [h] at e
    have e : (seqR (vs.map fun v => cnt s v .ok)).bind fin = .ok u := e
    cases h2 : seqR (vs.map fun v => cnt s v .ok) with
    | bad t s => rw [h2] at e; cases e
    | ok ns => rw [h2] at e; exact hf ns u e
theorem lt_flat {u : Rv} (h : Lt w so d (.ok u)) : FlatV u := by
  generalize e : Re.ok u = r at h
  cases h with
  | lf h => exact lf_flat (e ▸ h)
  | set hs hp hl => exact nums_flat (fun ns u e => by cases e; trivial) e.symm
  | rng => cases e; trivial
noncomputable def notSet : Rv → Bool
  | .set _ => false
  | _ => true
theorem un_step {g : Sg} {u v : Rv} (fu : FlatV u) (fv : FlatV v) (ou : Ok (.ok u)) (ov : Ok (.ok v)) {a b : PyData} {inn c : Option Loc} (h : K (.pd (toldR (un2 s g u v))) σ) :
    evSs G gc1 (b22.drop 7) (m22 w so (.tuple [tBin, .int s, .str g.str, a, b]) tBin s inn (some (pv (.list ([u, v].map Rv.told)))) c none) σ (retK K) E := by
  refine Eq.mpr (by cases g <;> kernel_rfl : _ = evX G gc1 (m22 w so (.tuple [tBin, .int s, .str g.str, a, b]) tBin s inn (some (pv (.list ([u, v].map Rv.told)))) c none) [] (.comp false (.w 1) (.n 1) (.v 5) (some (.op .ne (.sub (.w 1) (.c (.int 0))) (.c tSet)))) σ
    (fun x σ' => need (evOp .ne x (.pd (.list [])) σ') fun d => truth (.pd d) fun r => brn r (K (.pd (badD wSet s)) σ') (evSs G gc1 [S.ret (.tup [.c tSet, .tup [.sub (.v 0) (.c (.int 2)), .sub (.sub (.v 5) (.c (.int 0))) (.c (.int 1)), .sub (.sub (.v 5) (.c (.int 1))) (.c (.int 1))]])] (m22 w so (.tuple [tBin, .int s, .str g.str, a, b]) tBin s inn (some (pv (.list ([u, v].map Rv.told)))) c none) σ' (retK K) E)) E) ?_
  have lay : ∀ d ∈ ([u, v].filter notSet).map Rv.told, Lay 60 d := fun d hd => by
    obtain ⟨r, hr, rfl⟩ := List.mem_map.mp hd
    have hr := (List.mem_filter.mp hr).1
    have : Ok (.ok r) := two_all (P := fun r : Rv => Ok (.ok r)) ou ov r hr
    exact (told_lay this).mono (by decide)
  refine cmp_i (d := .list ([u, v].map Rv.told)) (fun _ => rfl) rfl (cmp_pure (R := fun v => if notSet v = true then [v.told] else []) [u, v] [] (fun v _ k h => ?_) ?_ ?_)
  · cases v <;> exact Eq.mpr (by kernel_rfl) h
  · rw [fm_if, List.length_nil, Nat.zero_add, List.length_map, sz]
    exact Nat.le_trans (List.length_filter_le _ _) (show 2 ≤ 2 ^ 24 by decide)
  · rw [fm_if, List.nil_append]
    refine when_i (by rw [List.length_map, sz]; exact Nat.le_trans (List.length_filter_le _ _) (show 2 ≤ 2 ^ 24 by decide)) (need_i (ne_nil lay σ) ?_)
    cases u with
    | set x =>
      cases x with
      | op => exact fu.elim
      | lo x =>
        cases v with
        | set y =>
          cases y with
          | op => exact fv.elim
          | lo y => exact Eq.mpr (by kernel_rfl) h
        | _ => exact h
    | _ => cases v <;> exact h
theorem tl_un {g : Sg} (ha : Lt w so a ra) (hb : Lt w so b rb) : TlOk w so 7 (.tuple [tBin, .int s, .str g.str, a, b]) (unR s g ra rb) := fun G l σ K E o => by
  obtain ⟨H, l1, u⟩ := l.dn
  refine u 21 _ _ _ _ (Eq.mpr (by cases g <;> kernel_rfl : _ = evSs H gc1 (b22.drop 4) (m22 w so (.tuple [tBin, .int s, .str g.str, a, b]) tBin s (some (pv (.tuple [a, b]))) none none none) σ (retK K) E) ?_)
  refine parts_told (ps := [(a, ra), (b, rb)]) l1 (two_all (fun G l => tl_lt ha G (l.le (by decide))) fun G l => tl_lt hb G (l.le (by decide))) (show 2 ≤ 12 by decide) rfl ?_
  refine first_bad (rest := b22.drop 7) (rs := [ra, rb]) (show 2 ≤ 12 by decide) (two_all (lt_ok ha) (lt_ok hb)) (fun vs e => ?_) fun t s m q => ?_
  · cases ra with
    | bad t s => match vs, e with
      | v :: r, e => cases e
    | ok u =>
      cases rb with
      | bad t s => match vs, e with
        | [v, x], e => cases e
        | [v], e => cases e
        | v :: x :: y :: r, e => cases e
      | ok v => exact un_step (lt_flat ha) (lt_flat hb) (lt_ok ha) (lt_ok hb) o
  · cases ra with
    | bad t s => cases q; exact o
    | ok u =>
      cases rb with
      | bad t s => cases q; exact o
      | ok v => cases q
/-- the right side -/
inductive Rt (w : Int) (so : List Int) : PyData → Re Rv → Prop
  | lt {d : PyData} {r : Re Rv} : Lt w so d r → Rt w so d r
  | rng {s : Int} {a b : PyData} {ra rb : Re Rv} : s.natAbs ≤ 10000 → En w so a ra → En w so b rb → Rt w so (.tuple [tRange, .int s, a, b]) (endsR s ra rb)
  | un {s : Int} (g : Sg) {a b : PyData} {ra rb : Re Rv} : s.natAbs ≤ 10000 → Lt w so a ra → Lt w so b rb → Rt w so (.tuple [tBin, .int s, .str g.str, a, b]) (unR s g ra rb)
theorem tl_rt (h : Rt w so d r) : TlOk w so 7 d r := by
  cases h with
  | lt h => exact fun G l => tl_lt h G (l.le (by decide))
  | rng hs ha hb => exact fun G l => tl_rng hs ha hb G (l.le (by decide))
  | un g hs ha hb => exact tl_un ha hb
end
/-! WHAT IS DUE -/
theorem eqv_ints : ∀ l m : List Int, PyData.eqv (.list (l.map .int)) (.list (m.map .int)) = (l == m)
  | [], [] => rfl
  | [], _ :: _ => rfl
  | _ :: _, [] => rfl
  | a :: l, b :: m => by
    show ((a == b) && PyData.eqv (.list (l.map .int)) (.list (m.map .int))) = ((a == b) && (l == m))
    rw [eqv_ints l m]
theorem eq_ints (l m : List Int) (σ : Hp) : evOp .eq (.pd (.list (l.map .int))) (.pd (.list (m.map .int))) σ = some (.bool (l == m)) := by
  have e : eqP (.list (l.map .int)) (.list (m.map .int)) = some (l == m) :=
    (gd_i ⟨(lay_list (j := 0) (lay_ints l)).1, (lay_list (j := 0) (lay_ints m)).1, Nat.le_trans (lay_list (j := 0) (lay_ints l)).2 (by decide)⟩).trans (by rw [eqv_ints])
  exact congrArg (fun o => Option.map PyData.bool o) e
theorem sort3 (a v b : Int) : (sortI [a, v, b] == [a, v, b]) = decide (a ≤ v ∧ v ≤ b) := by
  rw [Bool.eq_iff_iff, beq_iff_eq, decide_eq_true_eq]
  refine ⟨fun h => ?_, fun ⟨h1, h2⟩ => ?_⟩
  · have s := sortI_sorted [a, v, b]
    rw [h] at s
    obtain ⟨p, q⟩ := List.pairwise_cons.mp s
    obtain ⟨p', _⟩ := List.pairwise_cons.mp q
    exact ⟨p _ List.mem_cons_self, p' _ List.mem_cons_self⟩
  · show insI a (insI v [b]) = _
    have e : insI v [b] = [v, b] := if_pos h2
    rw [e]
    exact if_pos h1
section
variable {w : Int} {so : List Int} {d a b : PyData} {ra rb r : Re Rv} {G H : CallS} {K : KV} {E : KE} {σ : Hp} {s v : Int} {j : Nat}
theorem any_filter (l : List Int) : (!(l.filter (· == v)).isEmpty) = l.any (· == v) := by
  induction l with
  | nil => rfl
  | cons a r ih =>
    rw [List.any_cons, ← ih]
    cases h : a == v with
    | true => rw [List.filter_cons_of_pos (p := fun x => x == v) h]; rfl
    | false => rw [List.filter_cons_of_neg (p := fun x => x == v) (by rw [h]; decide)]; rfl
theorem holds_list (X : Up H G) {l : List Int} (hl : l.length ≤ 12) (h : K (.pd (.bool (l.any (· == v)))) σ) : G 23 [iv v, pv (.list (l.map .int))] σ K E := X 22 _ _ _ _ (by
  refine Eq.mpr (by kernel_rfl : _ = evX H gc1 [some (iv v), some (pv (.list (l.map .int))), none, none, none, none, none, none, none, none, none] [] (.comp false (.w 1) (.n 1) (.v 1) (some (.op .eq (.w 1) (.v 0)))) σ (fun x σ' => need (evOp .ne x (.pd (.list [])) σ') fun d => K (.pd d) σ') E) ?_
  refine cmp_i (d := .list (l.map .int)) (fun _ => rfl) rfl (cmp_pure (R := fun i => if (i == v) = true then [.int i] else []) l [] (fun i _ k h => ?_) ?_ ?_)
  · refine Eq.mpr (by kernel_rfl : _ = brn (i == v) (k [.int i] σ) (k [] σ)) ?_
    cases q : i == v with
    | true => rw [q] at h; exact h
    | false => rw [q] at h; exact h
  · rw [fm_if, List.length_nil, Nat.zero_add, List.length_map, sz]; exact Nat.le_trans (List.length_filter_le _ _) (Nat.le_trans hl (by decide))
  · rw [fm_if, List.nil_append]
    refine when_i (by rw [List.length_map, sz]; exact Nat.le_trans (List.length_filter_le _ _) (Nat.le_trans hl (by decide))) (need_i (ne_nil (fun d hd => ?_) σ) ?_)
    · exact lay_ints _ d hd
    · have e : (List.map PyData.int (List.filter (fun i => i == v) l)).isEmpty = (l.filter (· == v)).isEmpty := by cases l.filter (· == v) <;> rfl
      rw [e, any_filter]; exact h)
theorem holds_ends (X : Up H G) {p q : Int} (h : K (.pd (.bool (decide (p ≤ v ∧ v ≤ q)))) σ) : G 23 [iv v, pv (.tuple [tEnds, .int p, .int q])] σ K E := X 22 _ _ _ _ (by
  refine Eq.mpr (by kernel_rfl : _ = need (evOp .eq (.pd (.list ((sortI [p, v, q]).map .int))) (.pd (.list ([p, v, q].map .int))) σ) fun d => K (.pd d) σ) ?_
  rw [← sort3] at h
  exact need_i (eq_ints _ _ σ) h)
def Lo.Sm : Lo → Prop
  | .list l => l.length ≤ 12
  | .ends .. => True
def Ro.Sm : Ro → Prop
  | .lo x => x.Sm
  | .op _ x y => x.Sm ∧ y.Sm
theorem holds_lo (X : Up H G) {x : Lo} (hx : x.Sm) (h : K (.pd (.bool (x.holds v))) σ) : G 23 [iv v, pv x.d] σ K E := by
  cases x with
  | list l => exact holds_list X hx h
  | ends a b => exact holds_ends X h
theorem holds_ro (l : Lv 2 G) {x : Ro} (hx : x.Sm) (h : K (.pd (.bool (x.holds v))) σ) : G 23 [iv v, pv x.d] σ K E := by
  obtain ⟨H, l1, u⟩ := l.dn
  obtain ⟨I, l2, u1⟩ := l1.dn
  cases x with
  | lo x => exact holds_lo u hx h
  | op g x y =>
    refine u 22 _ _ _ _ ?_
    refine Eq.mpr (by cases g <;> kernel_rfl : _ = H 23 [iv v, pv x.d] σ (fun p σ => H 23 [iv v, pv y.d] σ (fun q σ => evSs H gc1 (fn23.body.drop 4) [some (iv v), some (pv (.tuple [.str g.str, x.d, y.d])), some (pv x.d), some (pv (.str g.str)), some (pv y.d), some (.v p), some (.v q), none, none, none, none] σ (retK K) E) E) E) ?_
    refine holds_lo u1 hx.1 (holds_lo u1 hx.2 ?_)
    have h : K (.pd (.bool (g.holds (x.holds v) (y.holds v)))) σ := h
    generalize x.holds v = p at h
    generalize y.holds v = q at h
    cases g <;> cases p <;> cases q <;> exact Eq.mpr (by kernel_rfl) h
/-- what the law's own rule says of left in right -/
noncomputable def dueR (s : Int) (ra rb : Re Rv) : Re Bool := ra.bind fun u => rb.bind fun v => cnt s u fun i => lot s v fun x => .ok (x.holds i)
noncomputable def dueD : Re Bool → PyData
  | .ok b => .tuple [tTold, .bool b]
  | .bad t s => badD t s
def SmR : Re Rv → Prop
  | .ok (.set x) => x.Sm
  | _ => True
theorem due_i (l : Lv 9 G) (ha : TlOk w so 7 a ra) (hb : TlOk w so 7 b rb) (sm : SmR rb) (h : K (.pd (dueD (dueR s ra rb))) σ) : G 24 [pv a, pv b, pv (scope w so), iv s] σ K E := by
  obtain ⟨H, l1, u⟩ := l.dn
  obtain ⟨I, l2, u1⟩ := l1.dn
  refine u 23 _ _ _ _ (Eq.mpr (by kernel_rfl : _ = H 22 [pv a, pv (scope w so)] σ (fun p σ => H 22 [pv b, pv (scope w so)] σ (fun q σ => evSs H gc1 (fn24.body.drop 1) [some (pv a), some (pv b), some (pv (scope w so)), some (iv s), some (.v p), some (.v q), none, none, none] σ (retK K) E) E) E) ?_)
  refine ha H (l1.le (by decide)) _ _ _ (hb H (l1.le (by decide)) _ _ _ ?_)
  cases ra with
  | bad t z => exact Eq.mpr (by cases rb with
    | bad t s => kernel_rfl
    | ok v => cases v <;> kernel_rfl) h
  | ok p =>
    cases rb with
    | bad t z => exact Eq.mpr (by cases p <;> kernel_rfl) h
    | ok q =>
      refine Eq.mpr (by cases p <;> cases q <;> kernel_rfl : _ = H 21 [pv p.told, iv s] σ (fun c σ => evSs H gc1 (fn24.body.drop 3) [some (pv a), some (pv b), some (pv (scope w so)), some (iv s), some (.v c), some (pv q.told), none, none, none] σ (retK K) E) E) ?_
      refine cnt_told u1 ?_
      have fin : ∀ i : Int, K (.pd (dueD (lot s q fun x => .ok (x.holds i)))) σ → evSs H gc1 (fn24.body.drop 3) [some (pv a), some (pv b), some (pv (scope w so)), some (iv s), some (pv (.tuple [tNumber, .int i])), some (pv q.told), none, none, none] σ (retK K) E := fun i h => by
        cases q with
        | set x =>
          refine Eq.mpr (by kernel_rfl : _ = H 23 [iv i, pv x.d] σ (fun z σ => need (allPd [.pd tTold, z]) fun ds => when (ds.length ≤ sizeLine) (K (.pd (.tuple ds)) σ)) E) ?_
          exact holds_ro (l1.le (by decide)) sm (need_i rfl (when_i (show 2 ≤ 2 ^ 24 by decide) h))
        | _ => exact Eq.mpr (by kernel_rfl) h
      cases p with
      | num i => exact fin i h
      | tru c => cases c <;> exact fin _ h
      | _ => exact Eq.mpr (by cases q <;> kernel_rfl) h
end
/-! THE EVALUATOR: sets -/
inductive Vals (k : Nat) : List Rv → List PyData → Prop
  | nil : Vals k [] []
  | cons {u : Rv} {us : List Rv} {d : PyData} {ds : List PyData} : Val k u d → Vals k us ds → Vals k (u :: us) (d :: ds)
theorem Vals.len {k : Nat} {vs : List Rv} {ds : List PyData} (h : Vals k vs ds) : ds.length = vs.length := by
  induction h with
  | nil => rfl
  | cons _ _ ih => exact congrArg (· + 1) ih
noncomputable def OutL {α : Type} (r : Re (List α)) (f : List α → Prop) (E : KE) (σ : Hp) : Prop := match r with
  | .ok vs => f vs
  | .bad t s => E ⟨false, t, .int s⟩ σ
theorem dedup_go : ∀ (l acc : List Int), (l.foldl step_dedup acc).length ≤ acc.length + l.length ∧ ∀ v, v ∈ l.foldl step_dedup acc ↔ v ∈ acc ∨ v ∈ l
  | [], acc => ⟨Nat.le_refl _, fun v => by simp⟩
  | a :: r, acc => by
    obtain ⟨h1, h2⟩ := dedup_go r (step_dedup acc a)
    have s1 : (step_dedup acc a).length ≤ acc.length + 1 ∧ ∀ v, v ∈ step_dedup acc a ↔ v ∈ acc ∨ v = a := by
      unfold step_dedup
      by_cases q : acc.any (· == a) = true
      · rw [if_pos q]
        refine ⟨Nat.le_succ _, fun v => ⟨.inl, fun h => h.elim id fun e => ?_⟩⟩
        obtain ⟨x, hx, e'⟩ := List.any_eq_true.mp q
        rw [beq_iff_eq] at e'; subst e; exact e' ▸ hx
      · rw [if_neg q]
        exact ⟨by rw [List.length_append]; exact Nat.le_refl _, fun v => by rw [List.mem_append, List.mem_singleton]⟩
    refine ⟨by show (r.foldl step_dedup (step_dedup acc a)).length ≤ acc.length + (r.length + 1); omega, fun v => ?_⟩
    show v ∈ r.foldl step_dedup (step_dedup acc a) ↔ _
    rw [h2 v, s1.2 v, List.mem_cons, or_assoc]
theorem allInt_map : ∀ l : List Int, allInt (l.map .int) = some l
  | [] => rfl
  | a :: r => by show (some a).bind _ = _; rw [Option.bind_some, allInt_map r]; rfl
theorem cont_iff {l : List Int} {x : Ro} (h : ∀ v, v ∈ l ↔ x.holds v = true) : ∀ v, l.contains v = x.holds v := fun v => by
  rw [Bool.eq_iff_iff, List.contains_iff_mem]; exact h v
theorem any_iff {l : List Int} {v : Int} : l.any (· == v) = true ↔ v ∈ l := by
  rw [List.any_eq_true]
  exact ⟨fun ⟨x, h, e⟩ => by rw [beq_iff_eq] at e; exact e ▸ h, fun h => ⟨v, h, beq_self_eq_true v⟩⟩
theorem has_set {ns : List Int} (h : ns.length ≤ 4) : Has (201 - 170) (sortI (dedup ns)) (.lo (.list ns)) :=
  ⟨by rw [(sortI_perm _).length_eq]; exact Nat.le_trans (dedup_go ns []).1 (Nat.le_trans (by rw [List.length_nil, Nat.zero_add]; exact h) (by decide)), cont_iff fun v => by
    rw [(sortI_perm _).mem_iff]
    refine ((dedup_go ns []).2 v).trans ?_
    show v ∈ [] ∨ v ∈ ns ↔ ns.any (· == v) = true
    rw [any_iff]
    exact ⟨fun h => h.elim (fun h => nomatch h) id, .inr⟩⟩
noncomputable def rngI (lo hi : Int) : List Int := (List.range (hi + 1 - lo).toNat).map fun (k : Nat) => lo + k
theorem rngI_map (lo hi : Int) : rangeL lo (hi + 1) = (rngI lo hi).map .int := by unfold rangeL rngI; rw [List.map_map]; rfl
theorem has_rng {lo hi : Int} (h : hi ≤ lo + 4) : Has (201 - 170) (rngI lo hi) (.lo (.ends lo hi)) :=
  ⟨by unfold rngI; rw [List.length_map, List.length_range]; exact Int.toNat_le.mpr (by show hi + 1 - lo ≤ 31; omega), cont_iff fun v => by
    show v ∈ rngI lo hi ↔ decide (lo ≤ v ∧ v ≤ hi) = true
    unfold rngI
    rw [List.mem_map, decide_eq_true_eq]
    refine ⟨fun ⟨k, hk, e⟩ => ?_, fun ⟨h1, h2⟩ => ⟨(v - lo).toNat, List.mem_range.mpr (Int.lt_toNat.mpr ?_), ?_⟩⟩
    · have hk' : (k : Int) < hi + 1 - lo := Int.lt_toNat.mp (List.mem_range.mp hk)
      rw [← e]
      exact ⟨Int.le_add_of_nonneg_right (Int.natCast_nonneg k), Int.le_of_lt_add_one (by rw [Int.add_comm lo]; exact Int.add_lt_of_lt_sub_right hk')⟩
    · rw [Int.toNat_of_nonneg (Int.sub_nonneg_of_le h1)]; exact Int.sub_lt_sub_right (Int.lt_add_one_of_le h2) lo
    · rw [Int.toNat_of_nonneg (Int.sub_nonneg_of_le h1)]; omega⟩
section
variable {w : Int} {so : List Int} {d a b : PyData} {ra rb r : Re Rv} {G H : CallS} {K : KV} {E : KE} {σ : Hp} {s : Int} {j k : Nat}
theorem cmp_vals {m : Fm} {KK : List PyData → Hp → Prop} (hm : locV m 0 = some (.evr (.pd (here w so)))) (l : Lv j G) : ∀ (ps : List (PyData × Re Rv)) (acc : List PyData), (∀ p ∈ ps, EvOk w so j k p.1 p.2) → acc.length + ps.length ≤ sizeLine →
    OutL (seqR (ps.map (·.2))) (fun vs => ∀ ds, Vals k vs ds → KK (acc ++ ds) σ) E σ → compN (turnC G m (.meth 27 (.v 0) [.w 1]) none E) (fun _ k => k) KK (ps.map (·.1)) acc σ
  | [], acc, _, _, h => by have := h [] .nil; rw [List.append_nil] at this; exact this
  | (d, r) :: ps, acc, hp, hz, h => by
    refine when_i (Nat.le_trans (Nat.le_add_right _ _) hz) ?_
    show need (locV m 0) _
    refine need_i hm (need_i rfl ?_)
    refine hp _ List.mem_cons_self G l σ _ E ?_
    cases r with
    | bad t s => exact h
    | ok v =>
      refine fun d' z => need_i rfl (cmp_vals hm l ps _ (fun p q => hp p (List.mem_cons_of_mem _ q)) (by rw [List.length_append]; exact len1 hz) ?_)
      have h : OutL ((seqR (ps.map (·.2))).bind fun vs => .ok (v :: vs)) (fun vs => ∀ ds, Vals k vs ds → KK (acc ++ ds) σ) E σ := h
      cases q : seqR (ps.map (·.2)) with
      | bad t s => rw [q] at h; exact h
      | ok vs =>
        rw [q] at h
        exact fun ds zs => by rw [List.append_assoc]; exact h (d' :: ds) (.cons z zs)
/-- the values of nodes, one behind the other -/
theorem vals (l : Lv (j + 1) G) {ps : List (PyData × Re Rv)} (hp : ∀ p ∈ ps, EvOk w so j k p.1 p.2) (hl : ps.length ≤ 12) (h : OutL (seqR (ps.map (·.2))) (fun vs => ∀ ds, Vals k vs ds → K (.pd (.list ds)) σ) E σ) :
    G 28 [se w so, pv (.tuple (ps.map (·.1)))] σ K E := by
  obtain ⟨H, l1, u⟩ := l.dn
  refine u 27 _ _ _ _ ?_
  refine Eq.mpr (by kernel_rfl : _ = evX H gc1 [some (se w so), some (pv (.tuple (ps.map (·.1))))] [] (.comp false (.meth 27 (.v 0) [.w 1]) (.n 1) (.v 1) none) σ K E) ?_
  refine cmp_i (d := .tuple (ps.map (·.1))) (fun _ => rfl) rfl (cmp_vals rfl l1 ps [] hp (by rw [List.length_nil, Nat.zero_add, sz]; exact Nat.le_trans hl (by decide)) ?_)
  have lz : ∀ vs ds, seqR (ps.map (·.2)) = .ok vs → Vals k vs ds → ds.length ≤ sizeLine := fun vs ds e z => by
    cases seq_c (ps.map (·.2)) with
    | ok us e' q f =>
      rw [e] at q; cases q
      have := congrArg List.length e'
      rw [List.length_map, List.length_map] at this
      rw [z.len, ← this, sz]; exact Nat.le_trans hl (by decide)
    | bad t s r f q => rw [e] at q; cases q
  cases q : seqR (ps.map (·.2)) with
  | bad t s => rw [q] at h; exact h
  | ok vs => rw [q] at h; exact fun ds z => when_i (lz vs ds q z) (h ds z)
theorem cmp_nums {m : Fm} {KK : List PyData → Hp → Prop} (hm : locV m 3 = some (.pd (.int s))) (X : Up H G) : ∀ {vs : List Rv} {ds : List PyData} (acc : List PyData), Vals k vs ds → acc.length + vs.length ≤ sizeLine →
    OutL (seqR (vs.map fun v => cnt s v .ok)) (fun ns => KK (acc ++ ns.map .int) σ) E σ → compN (turnC G m (.call 6 [.w 1, .v 3]) none E) (fun _ k => k) KK ds acc σ
  | [], _, acc, .nil, _, h => by have h : KK (acc ++ []) σ := h; rw [List.append_nil] at h; exact h
  | v :: vs, _, acc, .cons z zs, hz, h => by
    refine when_i (Nat.le_trans (Nat.le_add_right _ _) hz) ?_
    show need (some _) _
    refine need_i rfl ?_
    show need (locV m 3) _
    refine need_i hm ?_
    have h : OutL ((cnt s v Re.ok).bind fun i => (seqR (vs.map fun v => cnt s v .ok)).bind fun ns => .ok (i :: ns)) (fun ns => KK (acc ++ ns.map .int) σ) E σ := h
    refine num_step X z ?_
    cases q : cnt s v Re.ok with
    | bad t s => rw [q] at h; exact h
    | ok i =>
      rw [q] at h
      refine fun _ => need_i rfl (cmp_nums hm X _ zs (by rw [List.length_append]; exact len1 hz) ?_)
      have h : OutL ((seqR (vs.map fun v => cnt s v .ok)).bind fun ns => .ok (i :: ns)) (fun ns => KK (acc ++ ns.map .int) σ) E σ := h
      cases q2 : seqR (vs.map fun v => cnt s v .ok) with
      | bad t s => rw [q2] at h; exact h
      | ok ns => rw [q2] at h; show KK (acc ++ [.int i] ++ ns.map .int) σ; rw [List.append_assoc]; exact h
end
section
variable {w : Int} {so : List Int} {d a b : PyData} {ra rb r : Re Rv} {G H : CallS} {K : KV} {E : KE} {σ : Hp} {s : Int} {j k n : Nat}
theorem ev_set (S : Sc w so) {ps : List (PyData × Re Rv)} (hp : ∀ p ∈ ps, En w so p.1 p.2) (hl : ps.length ≤ 3) : EvOk w so 7 201 (.tuple [tSet, .int s, .tuple (ps.map (·.1))]) (setR s (ps.map (·.2))) := fun G l σ K E o => by
  obtain ⟨H, l1, u⟩ := l.dn
  obtain ⟨I, l2, u1⟩ := l1.dn
  refine u 26 _ _ _ _ (Eq.mpr (by kernel_rfl : _ = H 29 [se w so, pv tSet, pv (.tuple [tSet, .int s, .tuple (ps.map (·.1))]), iv s] σ K E) (u1 28 _ _ _ _ ?_))
  refine Eq.mpr (by kernel_rfl : _ = I 28 [se w so, pv (.tuple (ps.map (·.1)))] σ (fun x σ => need (itemsOf σ x) fun l => compN (fun d σ2 k => need (tgFm mc0 (.n 1) d) fun mc' => evC I gc1 [some (se w so), some (pv tSet), some (pv (.tuple [tSet, .int s, .tuple (ps.map (·.1))])), some (iv s), none, none, none, none, none, none, none, none, none, none, none, none, none, none] mc' none σ2 (fun r σ3 => brn r (evX I gc1 [some (se w so), some (pv tSet), some (pv (.tuple [tSet, .int s, .tuple (ps.map (·.1))])), some (iv s), none, none, none, none, none, none, none, none, none, none, none, none, none, none] mc' (.call 6 [.w 1, .v 3]) σ3 (fun v σ4 => need (pdV v) fun d' => k [d'] σ4) E) (k [] σ3)) E)
      (fun σ' k => still σ σ' x k) (fun ds σ' => made false ds σ' fun v σ => one [v] fun v => need ((seqT σ v).bind allInt) fun l => when (l.length < 1000) (need (sortL σ (.set (dedup l))) fun l => evTuple (.pd (.list ((sortI l).map .int))) σ K)) l [] σ) E) ?_
  refine vals (j := 4) (k := 201) l2 (fun p hm => ev_en S (hp p hm)) (Nat.le_trans hl (by decide)) ?_
  unfold setR numsR at o
  cases hq : seqR (ps.map (·.2)) with
  | bad t s' => rw [hq] at o; exact o
  | ok vs =>
    rw [hq] at o
    obtain ⟨J, l3, u2⟩ := l2.dn
    intro ds zs
    have lv : vs.length ≤ 3 := by
      cases seq_c (ps.map (·.2)) with
      | ok us e q f =>
        rw [hq] at q; cases q
        have := congrArg List.length e
        rw [List.length_map, List.length_map] at this
        rw [← this]; exact hl
      | bad t s r f q => rw [hq] at q; cases q
    have o : Out 201 ((seqR (vs.map fun v => cnt s v .ok)).bind finSet) K E σ := o
    refine need_i rfl (cmp_nums (s := s) (m := [some (se w so), some (pv tSet), some (pv (.tuple [tSet, .int s, .tuple (ps.map (·.1))])), some (iv s), none, none, none, none, none, none, none, none, none, none, none, none, none, none]) rfl u2 [] zs (by rw [List.length_nil, Nat.zero_add, sz]; exact Nat.le_trans lv (by decide)) ?_)
    cases hn : seqR (vs.map fun v => cnt s v .ok) with
    | bad t s' => rw [hn] at o; exact o
    | ok ns =>
      rw [hn] at o
      have ln : ns.length ≤ 3 := by
        cases seq_c (vs.map fun v => cnt s v .ok) with
        | ok us e q f =>
          rw [hn] at q; cases q
          have := congrArg List.length e
          rw [List.length_map, List.length_map] at this
          rw [← this]; exact lv
        | bad t s r f q => rw [hn] at q; cases q
      have dl : (dedup ns).length ≤ 4 := Nat.le_trans (dedup_go ns []).1 (by rw [List.length_nil, Nat.zero_add]; exact Nat.le_trans ln (by decide))
      have sl : ∀ l : List Int, l.length ≤ 4 → (l.map PyData.int).length ≤ sizeLine := fun l h => by rw [List.length_map, sz]; exact Nat.le_trans h (by decide)
      refine when_i (by rw [List.nil_append]; exact sl ns (Nat.le_trans ln (by decide))) ?_
      rw [List.nil_append]
      refine need_i (allInt_map ns) (when_i (Nat.lt_of_le_of_lt ln (by decide)) (need_i (congrArg (fun o => alt o _) (gd_i dl)) ?_))
      exact need_i rfl (when_i (sl _ (by rw [(sortI_perm _).length_eq]; exact dl)) (o _ (.set (has_set (Nat.le_trans ln (by decide))))))
theorem ev_rng (S : Sc w so) {s1 s2 lo hi : Int} (h1 : lo.natAbs ≤ 10) (h2 : hi.natAbs ≤ 10) (h3 : hi ≤ lo + 4) : EvOk w so 7 201 (rngD s s1 s2 lo hi) (.ok (.set (.lo (.ends lo hi)))) := fun G l σ K E o => by
  obtain ⟨H, l1, u⟩ := l.dn
  obtain ⟨I, l2, u1⟩ := l1.dn
  obtain ⟨J, l3, u2⟩ := l2.dn
  refine u 26 _ _ _ _ (Eq.mpr (by kernel_rfl : _ = H 29 [se w so, pv tRange, pv (rngD s s1 s2 lo hi), iv s] σ K E) (u1 28 _ _ _ _ ?_))
  refine Eq.mpr (by kernel_rfl : _ = I 28 [se w so, pv (.tuple [.tuple [tInt, .int s1, .int lo], .tuple [tInt, .int s2, .int hi]])] σ (fun v σ => need (rd σ v) fun d => need (seqItems d) fun ds => need (asgN [6, 7] (ds.map .pd) [some (se w so), some (pv tRange), some (pv (rngD s s1 s2 lo hi)), some (iv s), none, none, none, none, none, none, none, none, none, none, none, none, none, none]) fun m => evSs I gc1 [Mine.S.ret (.call 9 [.call 6 [.v 6, .v 3], .call 6 [.v 7, .v 3]])] m σ (retK K) E) E) ?_
  have e1 : Lf w so (.tuple [tInt, .int s1, .int lo]) (.ok (.num lo)) := .int (small_in h1)
  have e2 : Lf w so (.tuple [tInt, .int s2, .int hi]) (.ok (.num hi)) := .int (small_in h2)
  refine vals (j := 1) (k := 200) (ps := [(_, .ok (.num lo)), (_, .ok (.num hi))]) (l2.le (by decide)) (two_all (ev_lf S e1) (ev_lf S e2)) (show 2 ≤ 12 by decide) ?_
  intro ds zs
  cases zs with
  | cons z zs =>
    cases zs with
    | cons z' zs =>
      cases zs
      cases z
      cases z'
      refine Eq.mpr (by kernel_rfl : _ = I 6 [iv lo, iv s] σ (fun x σ => I 6 [iv hi, iv s] σ (fun y σ => I 9 [.v x, .v y] σ K E) E) E) ?_
      refine u2 5 _ _ _ _ (Eq.mpr (by kernel_rfl : _ = I 6 [iv hi, iv s] σ (fun y σ => I 9 [iv lo, .v y] σ K E) E) (u2 5 _ _ _ _ (Eq.mpr (by kernel_rfl : _ = I 9 [iv lo, iv hi] σ K E) (u2 8 _ _ _ _ ?_))))
      have q : decide (hi - lo ≥ 100000) = false := decide_eq_false (Int.not_le.mpr (Int.lt_of_le_of_lt (Int.sub_le_sub (in10 h2).2 (in10 h1).1) (by decide)))
      refine Eq.mpr (by kernel_rfl : _ = brn (decide (hi - lo ≥ 100000)) (E ⟨true, Str.empty ++ ⟨#[97,32,115,101,116,32,104,97,115,32,97,116,32,109,111,115,116,32]⟩ ++ Str.ofString (toString (100000 : Int)) ++ ⟨#[32,110,117,109,98,101,114,115]⟩, .none⟩ σ) (evTuple (.rng lo (hi + 1)) σ K)) ?_
      rw [q]
      refine when_i (⟨Int.le_trans (by decide) (in10 h1).1, Int.lt_of_le_of_lt (in10 h1).2 (by decide), Int.le_trans (by decide) (Int.add_le_add_right (in10 h2).1 1), Int.lt_of_le_of_lt (Int.add_le_add_right (in10 h2).2 1) (by decide), Int.le_trans (Int.sub_le_sub (Int.add_le_add_right (in10 h2).2 1) (in10 h1).1) (by decide)⟩) ?_
      rw [rngI_map]
      exact o _ (.set (has_rng h3))
theorem ev_lt (S : Sc w so) (h : Lt w so d r) : EvOk w so 7 201 d r := by
  cases h with
  | lf h => exact fun G l σ K E o => ev_lf S h G (l.le (by decide)) σ K E (o.le (by decide))
  | set hs hp hl => exact ev_set S hp hl
  | rng hs h1 h2 h3 => exact ev_rng S h1 h2 h3
theorem not_arr (X : Up H G) {l : List Int} (hl : l.length ≤ 1000) (h : K (.pd (.bool false)) σ) : G 4 [pv (intsD l)] σ K E := X 3 _ _ _ _ (by
  refine Eq.mpr (by kernel_rfl : _ = when ((l.map PyData.int).length ≤ sizeLine) (brn (((l.map PyData.int).length : Int) == 2) (need (evSub σ (.pd (intsD l)) (.pd (.int 1))) fun z => need (pdV z) fun d => need (isiP d "list") fun b => K (.pd (.bool b)) σ) (K (.pd (.bool (((l.map PyData.int).length : Int) == 2))) σ))) ?_
  refine when_i (by rw [List.length_map, sz]; exact Nat.le_trans hl (by decide)) ?_
  rw [List.length_map]
  match l, h with
  | [], h => exact h
  | [a], h => exact h
  | [a, b], h => exact Eq.mpr (by kernel_rfl) h
  | a :: b :: c :: r, h =>
    have e : (((a :: b :: c :: r).length : Int) == 2) = false := by
      show (((r.length + 1 + 1 + 1 : Nat) : Int) == 2) = false
      rw [beq_eq_false_iff_ne]; omega
    rw [e]; exact h)
/-- a set is wanted -/
theorem set_step {u : Rv} (l : Lv 3 G) (hk : k ≤ 1000) (z : Val k u d) (hs : ∀ l x, u = .set x → Has (k - 170) l x → d = intsD l → K (.pd (intsD l)) σ) (hb : notSet u = true → E ⟨false, wSet, .int s⟩ σ) : G 8 [pv d, iv s] σ K E := by
  obtain ⟨H, l1, u'⟩ := l.dn
  obtain ⟨I, l2, u1⟩ := l1.dn
  obtain ⟨J, l3, u2⟩ := l2.dn
  refine u' 7 _ _ _ _ ?_
  refine Eq.mpr (by kernel_rfl : _ = H 5 [pv d] σ (fun v σ => truth v fun r => brn r (K (.pd d) σ) (E ⟨false, wSet, .int s⟩ σ)) E) (u1 4 _ _ _ _ ?_)
  cases z with
  | @set l x hx =>
    refine Eq.mpr (by kernel_rfl : _ = I 4 [pv (intsD l)] σ (fun v σ => truth v fun b => brn (!b) (K (.pd (intsD l)) σ) (E ⟨false, wSet, .int s⟩ σ)) E) ?_
    exact not_arr u2 (Nat.le_trans hx.len (Nat.le_trans (Nat.sub_le _ _) hk)) (hs l x rfl hx rfl)
  | arr => exact Eq.mpr (by kernel_rfl : _ = I 4 [pv arrD] σ (fun v σ => truth v fun b => brn (!b) (K (.pd arrD) σ) (E ⟨false, wSet, .int s⟩ σ)) E) (u2 3 _ _ _ _ (hb rfl))
  | _ => exact hb rfl
end
noncomputable def inD (l : List Int) (b : Bool) (i : Int) : Bool := if b = true then (dedup l).contains i else !(dedup l).contains i
noncomputable def joinL (g : Sg) (a b : List Int) : List Int := match g with
  | .union => sortI (a ++ b.filter (inD a false))
  | .intersect => a.filter (inD b true)
  | .diff => a.filter (inD b false)
  | .symdiff => sortI (a.filter (inD b false) ++ b.filter (inD a false))
theorem inD_iff {l : List Int} {b : Bool} {i : Int} : inD l b i = (if b = true then l.contains i else !l.contains i) := by
  have e : (dedup l).contains i = l.contains i := by
    rw [Bool.eq_iff_iff, List.contains_iff_mem, List.contains_iff_mem]
    exact ((dedup_go l []).2 i).trans ⟨fun h => h.elim (fun h => nomatch h) id, .inr⟩
  unfold inD; rw [e]
theorem join_len (g : Sg) (a b : List Int) : (joinL g a b).length ≤ a.length + b.length := by
  have f : ∀ (l m : List Int) (c : Bool), (l.filter (inD m c)).length ≤ l.length := fun l m c => List.length_filter_le _ _
  cases g with
  | union => show (sortI _).length ≤ _; rw [(sortI_perm _).length_eq, List.length_append]; exact Nat.add_le_add_left (f b a false) _
  | intersect => exact Nat.le_trans (f a b true) (Nat.le_add_right _ _)
  | diff => exact Nat.le_trans (f a b false) (Nat.le_add_right _ _)
  | symdiff => show (sortI _).length ≤ _; rw [(sortI_perm _).length_eq, List.length_append]; exact Nat.add_le_add (f a b false) (f b a false)
theorem sort_has (l : List Int) (v : Int) : (sortI l).contains v = l.contains v := by
  rw [Bool.eq_iff_iff, List.contains_iff_mem, List.contains_iff_mem]; exact (sortI_perm l).mem_iff
theorem app_has (l m : List Int) (v : Int) : (l ++ m).contains v = (l.contains v || m.contains v) := by
  rw [Bool.eq_iff_iff, Bool.or_eq_true, List.contains_iff_mem, List.contains_iff_mem, List.contains_iff_mem]; exact List.mem_append
theorem fil_has (l : List Int) (p : Int → Bool) (v : Int) : (l.filter p).contains v = (l.contains v && p v) := by
  rw [Bool.eq_iff_iff, Bool.and_eq_true, List.contains_iff_mem, List.contains_iff_mem]; exact List.mem_filter
theorem join_has (g : Sg) (a b : List Int) (v : Int) : (joinL g a b).contains v = g.holds (a.contains v) (b.contains v) := by
  cases g with
  | union => show (sortI _).contains v = _; rw [sort_has, app_has, fil_has, inD_iff]; show (_ || (_ && !_)) = (_ || _); cases a.contains v <;> cases b.contains v <;> rfl
  | intersect => show (a.filter _).contains v = _; rw [fil_has, inD_iff]; rfl
  | diff => show (a.filter _).contains v = _; rw [fil_has, inD_iff]; rfl
  | symdiff => show (sortI _).contains v = _; rw [sort_has, app_has, fil_has, fil_has, inD_iff, inD_iff]; show ((_ && !_) || (_ && !_)) = (_ != _); cases a.contains v <;> cases b.contains v <;> rfl
section
variable {w : Int} {so : List Int} {d : PyData} {ra rb r : Re Rv} {G H : CallS} {K : KV} {E : KE} {σ : Hp} {s : Int} {j k n : Nat} {a b : List Int}
noncomputable abbrev m11 (g : Sg) (a b : List Int) (c : Option Loc) : Fm := [some (pv (.str g.str)), some (pv (intsD a)), some (pv (intsD b)), some (.v (.set (dedup a))), some (.v (.set (dedup b))), c, none, none, none]
theorem cmp_in {m : Fm} {l x : List Int} {o : Op} {c : Bool} {i j : Nat} (ho : ∀ v σ, evOp o (.pd (.int v)) (.set (dedup x)) σ = some (.bool (inD x c v))) (hi : locV m i = some (.pd (intsD l))) (hj : locV m j = some (.set (dedup x))) (hl : l.length ≤ 100)
    (h : K (.pd (.list ((l.filter (inD x c)).map .int))) σ) : evX H gc1 m [] (.comp false (.w 1) (.n 1) (.v i) (some (.op o (.w 1) (.v j)))) σ K E := by
  refine cmp_i (d := intsD l) (fun K' => ?_) rfl (cmp_pure (R := fun v => if inD x c v = true then [.int v] else []) l [] (fun v _ k h => ?_) ?_ ?_)
  · show need (locV m i) _ = _
    rw [hi]; rfl
  · refine Eq.mpr (by kernel_rfl : _ = need (locV m j) fun y => need (evOp o (.pd (.int v)) y σ) fun d => truth (.pd d) fun r => brn r (k [.int v] σ) (k [] σ)) ?_
    refine need_i hj (need_i (ho v σ) ?_)
    cases q : inD x c v with
    | true => rw [q] at h; exact h
    | false => rw [q] at h; exact h
  · rw [fm_if, List.length_nil, Nat.zero_add, List.length_map, sz]; exact Nat.le_trans (List.length_filter_le _ _) (Nat.le_trans hl (by decide))
  · rw [fm_if, List.nil_append]
    exact when_i (by rw [List.length_map, sz]; exact Nat.le_trans (List.length_filter_le _ _) (Nat.le_trans hl (by decide))) h
theorem op_nin (x : List Int) (v : Int) (σ : Hp) : evOp .notin (.pd (.int v)) (.set (dedup x)) σ = some (.bool (inD x false v)) := rfl
theorem op_in (x : List Int) (v : Int) (σ : Hp) : evOp .isin (.pd (.int v)) (.set (dedup x)) σ = some (.bool (inD x true v)) := rfl
theorem sort_tup {l : List Int} (hl : l.length < 64) (t : Bool) (h : K (.pd (intsD (sortI l))) σ) : need (sortL σ (.pd (if t = true then .tuple (l.map .int) else .list (l.map .int)))) fun l => evTuple (.pd (.list ((sortI l).map .int))) σ K := by
  have e : (seqT σ (.pd (if t = true then .tuple (l.map .int) else .list (l.map .int)))) = some (l.map .int) := by cases t <;> rfl
  have e2 : sortL σ (.pd (if t = true then .tuple (l.map .int) else .list (l.map .int))) = some l := by
    show (seqT σ _).bind _ = _
    rw [e, Option.bind_some, gd_i (by rw [List.length_map]; exact hl), Option.bind_some, allInt_map]
  exact need_i e2 (when_i (by rw [List.length_map, (sortI_perm _).length_eq, sz]; exact Nat.le_trans (Nat.le_of_lt hl) (by decide)) h)
theorem joined (g : Sg) (X : Up H G) (ha : a.length ≤ 31) (hb : b.length ≤ 31) (h : K (.pd (intsD (joinL g a b))) σ) : G 11 [pv (.str g.str), pv (intsD a), pv (intsD b)] σ K E := X 10 _ _ _ _ (by
  refine Eq.mpr (by kernel_rfl : _ = need ((seqT σ (.pd (intsD a))).bind allInt) fun l => when (l.length < 1000) (need ((seqT σ (.pd (intsD b))).bind allInt) fun l' => when (l'.length < 1000) (evSs H gc1 (fn11.body.drop 1) [some (pv (.str g.str)), some (pv (intsD a)), some (pv (intsD b)), some (.v (.set (dedup l))), some (.v (.set (dedup l'))), none, none, none, none] σ (retK K) E))) ?_
  refine need_i (allInt_map a) (when_i (Nat.lt_of_le_of_lt ha (by decide)) (need_i (allInt_map b) (when_i (Nat.lt_of_le_of_lt hb (by decide)) ?_)))
  have ha' := Nat.le_trans ha (show 31 ≤ 100 by decide)
  have hb' := Nat.le_trans hb (show 31 ≤ 100 by decide)
  have hl := Nat.lt_of_le_of_lt (Nat.add_le_add ha hb) (show 31 + 31 < 64 by decide)
  have zz : ∀ l : List Int, l.length ≤ 100 → (l.map PyData.int).length ≤ sizeLine := fun l h => by rw [List.length_map, sz]; exact Nat.le_trans h (by decide)
  have fl : ∀ (l m : List Int) (c : Bool), l.length ≤ 100 → (l.filter (inD m c)).length ≤ 100 := fun l m c h => Nat.le_trans (List.length_filter_le _ _) h
  cases g with
  | union =>
    refine Eq.mpr (by kernel_rfl : _ = evX H gc1 (m11 .union a b none) [] (.comp false (.w 1) (.n 1) (.v 2) (some (.op .notin (.w 1) (.v 3)))) σ (fun x σ => one [x] fun x => evTuple x σ fun y σ => need (evOp .add (.pd (intsD a)) y σ) fun z => need (sortL σ (.pd z)) fun l => evTuple (.pd (.list ((sortI l).map .int))) σ K) E) ?_
    refine cmp_in (op_nin a) rfl rfl hb' (when_i (zz _ (fl b a false hb')) ?_)
    have e : evOp .add (.pd (intsD a)) (.pd (intsD (b.filter (inD a false)))) σ = some (intsD (a ++ b.filter (inD a false))) := by
      refine (congrArg (fun o => alt o _) (gd_i ?_)).trans ?_
      · rw [List.length_map, List.length_map, sz]; exact Nat.le_trans (Nat.add_le_add ha' (fl b a false hb')) (by decide)
      · show some (PyData.tuple _) = some (PyData.tuple _)
        rw [List.map_append]
    exact need_i e (sort_tup (by rw [List.length_append]; exact Nat.lt_of_le_of_lt (Nat.add_le_add_left (List.length_filter_le _ _) _) hl) true h)
  | intersect =>
    refine Eq.mpr (by kernel_rfl : _ = evX H gc1 (m11 .intersect a b none) [] (.comp false (.w 1) (.n 1) (.v 1) (some (.op .isin (.w 1) (.v 4)))) σ (fun x σ => one [x] fun x => evTuple x σ K) E) ?_
    exact cmp_in (op_in b) rfl rfl ha' (when_i (zz _ (fl a b true ha')) h)
  | diff =>
    refine Eq.mpr (by kernel_rfl : _ = evX H gc1 (m11 .diff a b none) [] (.comp false (.w 1) (.n 1) (.v 1) (some (.op .notin (.w 1) (.v 4)))) σ (fun x σ => one [x] fun x => evTuple x σ K) E) ?_
    exact cmp_in (op_nin b) rfl rfl ha' (when_i (zz _ (fl a b false ha')) h)
  | symdiff =>
    refine Eq.mpr (by kernel_rfl : _ = evX H gc1 (m11 .symdiff a b none) [] (.comp false (.w 1) (.n 1) (.v 1) (some (.op .notin (.w 1) (.v 4)))) σ (fun x σ => evX H gc1 (m11 .symdiff a b (some (.v x))) [] (.comp false (.w 1) (.n 1) (.v 2) (some (.op .notin (.w 1) (.v 3)))) σ (fun y σ => need (evOp .add x y σ) fun z => need (sortL σ (.pd z)) fun l => evTuple (.pd (.list ((sortI l).map .int))) σ K) E) E) ?_
    refine cmp_in (op_nin b) rfl rfl ha' (cmp_in (op_nin a) rfl rfl hb' ?_)
    have e : evOp .add (.pd (.list ((a.filter (inD b false)).map .int))) (.pd (.list ((b.filter (inD a false)).map .int))) σ = some (.list ((a.filter (inD b false) ++ b.filter (inD a false)).map .int)) := by
      refine (congrArg (fun o => alt o _) (gd_i ?_)).trans ?_
      · rw [List.length_map, List.length_map, sz]; exact Nat.le_trans (Nat.add_le_add (fl a b false ha') (fl b a false hb')) (by decide)
      · show some (PyData.list _) = some (PyData.list _)
        rw [List.map_append]
    exact need_i e (sort_tup (by rw [List.length_append]; exact Nat.lt_of_le_of_lt (Nat.add_le_add (List.length_filter_le _ _) (List.length_filter_le _ _)) hl) false h))
end
noncomputable def OutB (r : Re Bool) (K : KV) (E : KE) (σ : Hp) : Prop := match r with
  | .ok b => K (.pd (.bool b)) σ
  | .bad t s => E ⟨false, t, .int s⟩ σ
section
variable {w : Int} {so : List Int} {d a b : PyData} {ra rb r : Re Rv} {G H : CallS} {K : KV} {E : KE} {σ : Hp} {s : Int} {j k n : Nat}
theorem ev_un (S : Sc w so) (g : Sg) (ha : Lt w so a ra) (hb : Lt w so b rb) : EvOk w so 10 300 (.tuple [tBin, .int s, .str g.str, a, b]) (unR s g ra rb) := fun G l σ K E o => by
  obtain ⟨H, l1, u⟩ := l.dn
  obtain ⟨I, l2, u1⟩ := l1.dn
  obtain ⟨J, l3, u2⟩ := l2.dn
  refine u 26 _ _ _ _ (Eq.mpr (by cases g <;> kernel_rfl : _ = H 31 [se w so, pv (.str g.str), pv a, pv b, iv s] σ K E) (u1 30 _ _ _ _ ?_))
  refine Eq.mpr (by cases g <;> kernel_rfl : _ = I 27 [se w so, pv a] σ (fun u σ => I 27 [se w so, pv b] σ (fun v σ => I 8 [.v u, iv s] σ (fun x σ => I 8 [.v v, iv s] σ (fun y σ => I 11 [pv (.str g.str), .v x, .v y] σ K E) E) E) E) E) ?_
  refine ev_lt S ha I (l2.le (by decide)) _ _ _ ?_
  cases ra with
  | bad t z => exact o
  | ok p =>
    intro d z
    refine ev_lt S hb I (l2.le (by decide)) _ _ _ ?_
    cases rb with
    | bad t z => exact o
    | ok q =>
      intro d' z'
      have fp := lt_flat ha
      have fq := lt_flat hb
      have o : Out 300 (un2 s g p q) K E σ := o
      refine set_step (l2.le (by decide)) (by decide) z (fun l x e hx ed => ?_) fun np => by cases p <;> first | exact o | cases np
      subst e
      cases x with
      | op => exact fp.elim
      | lo x =>
        refine set_step (l2.le (by decide)) (by decide) z' (fun m y e hy ed' => ?_) fun nq => by cases q <;> first | exact o | cases nq
        subst e
        cases y with
        | op => exact fq.elim
        | lo y =>
          exact joined g u2 hx.len hy.len (o _ (.set ⟨Nat.le_trans (join_len g l m) (Nat.le_trans (Nat.add_le_add hx.len hy.len) (by decide)), fun v => by
            rw [join_has, hx.mem, hy.mem]; rfl⟩))
/-! ranges, however wide -/
noncomputable def domD (i j : Int) : PyData := if i ≤ j then .tuple [.tuple [.int i, .int j]] else .tuple []
theorem has_i (l : Lv 2 G) {i j v : Int} (h : K (.pd (.bool (decide (i ≤ v ∧ v ≤ j)))) σ) : G 3 [pv (domD i j), iv v] σ K E := by
  obtain ⟨H, l1, u⟩ := l.dn
  obtain ⟨I, l2, u1⟩ := l1.dn
  refine u 2 _ _ _ _ (Eq.mpr (by kernel_rfl : _ = H 2 [pv (domD i j), iv v] σ (fun x σ => need (evOp .eq x (.pd (.int v)) σ) fun d => K (.pd d) σ) E) (u1 1 _ _ _ _ ?_))
  unfold domD
  by_cases q : i ≤ j
  · rw [if_pos q]
    refine Eq.mpr (by kernel_rfl : _ = brn (decide (v ≤ j)) (need (evOp .eq (.pd (.int (if i < v then v else i))) (.pd (.int v)) σ) fun d => K (.pd d) σ) (K (.pd (.bool false)) σ)) ?_
    by_cases q2 : v ≤ j
    · refine brn_t (decide_eq_true q2) ?_
      show K (.pd (.bool ((if i < v then v else i) == v))) σ
      have e : ((if i < v then v else i) == v) = decide (i ≤ v ∧ v ≤ j) := by
        rw [Bool.eq_iff_iff, beq_iff_eq, decide_eq_true_eq]
        by_cases q3 : i < v
        · rw [if_pos q3]; exact ⟨fun _ => ⟨Int.le_of_lt q3, q2⟩, fun _ => rfl⟩
        · rw [if_neg q3]; exact ⟨fun e => ⟨Int.le_of_eq e, q2⟩, fun e => Int.le_antisymm e.1 (Int.not_lt.mp q3)⟩
      rw [e]; exact h
    · refine brn_f (decide_eq_false q2) ?_
      rw [decide_eq_false fun e => q2 e.2] at h; exact h
  · rw [if_neg q]
    rw [decide_eq_false fun e => q (Int.le_trans e.1 e.2)] at h
    exact Eq.mpr (by kernel_rfl) h
theorem dom_i (S : Sc w so) (l : Lv 8 G) (ha : En w so a ra) (hb : En w so b rb) (o : OutL (ra.bind fun u => rb.bind fun v => cnt s u fun i => cnt s v fun j => Re.ok [i, j]) (fun ns => ∀ i j, ns = [i, j] → K (.pd (domD i j)) σ) E σ) :
    G 32 [se w so, pv (.tuple [tRange, .int s, a, b])] σ K E := by
  obtain ⟨H, l1, u⟩ := l.dn
  obtain ⟨I, l2, u1⟩ := l1.dn
  refine u 31 _ _ _ _ ?_
  refine Eq.mpr (by kernel_rfl : _ = H 28 [se w so, pv (.tuple [a, b])] σ (fun v σ => need (rd σ v) fun d => need (seqItems d) fun ds => need (asgN [2, 3] (ds.map .pd) [some (se w so), some (pv (.tuple [tRange, .int s, a, b])), none, none, none, none, none, none]) fun m => evSs H gc1 [Mine.S.ret (.call 1 [.call 6 [.v 2, .sub (.v 1) (.c (.int 1))], .call 6 [.v 3, .sub (.v 1) (.c (.int 1))]])] m σ (retK K) E) E) ?_
  refine vals (j := 4) (k := 201) (ps := [(a, ra), (b, rb)]) (l1.le (by decide)) (two_all (ev_en S ha) (ev_en S hb)) (show 2 ≤ 12 by decide) ?_
  cases ra with
  | bad t z => exact o
  | ok p =>
    cases rb with
    | bad t z => exact o
    | ok q =>
      intro ds zs
      cases zs with
      | cons z zs =>
        cases zs with
        | cons z' zs =>
          cases zs
          rename_i d1 d2
          refine Eq.mpr (by kernel_rfl : _ = H 6 [pv d1, iv s] σ (fun x σ => H 6 [pv d2, iv s] σ (fun y σ => H 1 [.v x, .v y] σ K E) E) E) ?_
          have o : OutL (cnt s p fun i => cnt s q fun j => Re.ok [i, j]) (fun ns => ∀ i j, ns = [i, j] → K (.pd (domD i j)) σ) E σ := o
          refine num_step u1 z ?_
          rw [← cnt_bind] at o
          cases e : cnt s p Re.ok with
          | bad t z => rw [e] at o; exact o
          | ok i =>
            rw [e] at o
            intro _
            refine num_step u1 z' ?_
            have o : OutL (cnt s q fun j => Re.ok [i, j]) (fun ns => ∀ i j, ns = [i, j] → K (.pd (domD i j)) σ) E σ := o
            rw [← cnt_bind] at o
            cases e : cnt s q Re.ok with
            | bad t z => rw [e] at o; exact o
            | ok j =>
              rw [e] at o
              intro _
              refine u1 0 _ _ _ _ (Eq.mpr (by kernel_rfl : _ = brn (decide (i ≤ j)) (K (.pd (.tuple [.tuple [.int i, .int j]])) σ) (K (.pd (.tuple [])) σ)) ?_)
              have o : K (.pd (domD i j)) σ := o i j rfl
              unfold domD at o
              by_cases h : i ≤ j
              · rw [if_pos h] at o; exact brn_t (decide_eq_true h) o
              · rw [if_neg h] at o; exact brn_f (decide_eq_false h) o
end
noncomputable def pairR (s : Int) (ra rb : Re Rv) : Re (List Int) := ra.bind fun u => rb.bind fun v => cnt s u fun i => cnt s v fun j => Re.ok [i, j]
inductive PairC (s : Int) (ra rb : Re Rv) : Prop
  | bad (t : Str) (z : Int) (e : pairR s ra rb = .bad t z) (q : endsR s ra rb = .bad t z)
  | ok (i j : Int) (e : pairR s ra rb = .ok [i, j]) (q : endsR s ra rb = .ok (.set (.lo (.ends i j))))
theorem cnt_c (s : Int) (u : Rv) : (∃ i, ∀ {α : Type} (f : Int → Re α), cnt s u f = f i) ∨ ∀ {α : Type} (f : Int → Re α), cnt s u f = .bad wNum s := by
  cases u with
  | num i => exact .inl ⟨i, fun f => rfl⟩
  | tru b => exact .inl ⟨_, fun f => rfl⟩
  | _ => exact .inr fun f => rfl
theorem pair_c (s : Int) : ∀ ra rb : Re Rv, PairC s ra rb
  | .bad t z, rb => .bad t z rfl rfl
  | .ok u, .bad t z => .bad t z rfl rfl
  | .ok u, .ok v => by
    rcases cnt_c s u with ⟨i, h⟩ | h
    · rcases cnt_c s v with ⟨j, g⟩ | g
      · exact .ok i j ((h _).trans (g _)) ((h _).trans (g _))
      · exact .bad _ _ ((h _).trans (g _)) ((h _).trans (g _))
    · exact .bad _ _ (h _) (h _)
theorem inI_map (i : Int) : ∀ l : List Int, inI i (l.map .int) = some (l.contains i)
  | [] => rfl
  | a :: r => by
    show (some a).bind (fun j => (inI i (r.map .int)).map ((j == i) || ·)) = _
    rw [Option.bind_some, inI_map i r]
    show some ((a == i) || r.contains i) = some ((a :: r).contains i)
    rw [List.contains_cons]
    have : (a == i) = (i == a) := by rw [Bool.eq_iff_iff, beq_iff_eq, beq_iff_eq]; exact eq_comm
    rw [this]
section
variable {w : Int} {so : List Int} {d a b : PyData} {ra rb r : Re Rv} {G H : CallS} {K : KV} {E : KE} {σ : Hp} {s : Int} {j k n : Nat}
theorem in_eq (u : Up H G) (h : H 27 [se w so, pv a] σ (fun u σ => need (evSub σ (.pd b) (.pd (.int 0))) fun z => need (evOp .eq z (.pd tRange) σ) fun d => truth (.pd d) fun r => brn r (H 32 [se w so, pv b] σ (fun x σ => H 6 [.v u, iv s] σ (fun y σ => H 3 [.v x, .v y] σ K E) E) E)
      (H 27 [se w so, pv b] σ (fun v σ => H 6 [.v u, iv s] σ (fun i σ => H 8 [.v v, iv s] σ (fun x σ => need (evOp .isin i x σ) fun d => K (.pd d) σ) E) E) E)) E) : G 31 [se w so, pv tIn, pv a, pv b, iv s] σ K E :=
  u 30 _ _ _ _ (Eq.mpr (by kernel_rfl) h)
theorem in_rng (S : Sc w so) (l : Lv 11 G) (ha : En w so a ra) {s' : Int} {c e : PyData} {rc re : Re Rv} (hc : En w so c rc) (he : En w so e re) (o : OutB (dueR s ra (endsR s' rc re)) K E σ) : G 31 [se w so, pv tIn, pv a, pv (.tuple [tRange, .int s', c, e]), iv s] σ K E := by
  obtain ⟨H, l1, u⟩ := l.dn
  obtain ⟨I, l2, u1⟩ := l1.dn
  refine in_eq u (ev_en S ha H (l1.le (by decide)) _ _ _ ?_)
  cases ra with
  | bad t z => exact o
  | ok p =>
    intro d z
    refine need_i rfl (need_i rfl ?_)
    refine dom_i S (l1.le (by decide)) hc he ?_
    have o : OutB ((endsR s' rc re).bind fun v => cnt s p fun i => lot s v fun x => .ok (x.holds i)) K E σ := o
    show OutL (pairR s' rc re) _ E σ
    cases pair_c s' rc re with
    | bad t z e q => rw [q] at o; rw [e]; exact o
    | ok i j e q =>
      rw [q] at o
      rw [e]
      intro i' j' e
      cases e
      have o : OutB (cnt s p fun v => .ok ((Ro.lo (.ends i j)).holds v)) K E σ := o
      refine num_step u1 z ?_
      rw [← cnt_bind] at o
      cases e : cnt s p Re.ok with
      | bad t z => rw [e] at o; exact o
      | ok v => rw [e] at o; exact fun _ => has_i (l1.le (by decide)) o
theorem in_set (S : Sc w so) (l : Lv 11 G) (ha : En w so a ra) (hb : EvOk w so 10 300 b rb) {t : PyData} (h0 : evSub σ (.pd b) (.pd (.int 0)) = some (.pd t)) (h1 : evOp .eq (.pd t) (.pd tRange) σ = some (.bool false)) (o : OutB (dueR s ra rb) K E σ) : G 31 [se w so, pv tIn, pv a, pv b, iv s] σ K E := by
  obtain ⟨H, l1, u⟩ := l.dn
  obtain ⟨I, l2, u1⟩ := l1.dn
  refine in_eq u (ev_en S ha H (l1.le (by decide)) _ _ _ ?_)
  cases ra with
  | bad t z => exact o
  | ok p =>
    intro d z
    refine need_i h0 (need_i h1 (hb H l1 _ _ _ ?_))
    cases rb with
    | bad t z => exact o
    | ok q =>
      intro d' z'
      have o : OutB (cnt s p fun i => lot s q fun x => .ok (x.holds i)) K E σ := o
      refine num_step u1 z ?_
      rw [← cnt_bind] at o
      cases e : cnt s p Re.ok with
      | bad t z => rw [e] at o; exact o
      | ok v =>
        rw [e] at o
        intro _
        have o : OutB (lot s q fun x => .ok (x.holds v)) K E σ := o
        refine set_step (l1.le (by decide)) (by decide) z' (fun m x e hx ed => ?_) fun nq => by cases q <;> first | exact o | cases nq
        subst e
        have o : K (.pd (.bool (x.holds v))) σ := o
        rw [← hx.mem v] at o
        have e : evOp .isin (.pd (.int v)) (.pd (intsD m)) σ = some (.bool (m.contains v)) := by
          show Option.map PyData.bool (alt (alt (inI v (m.map PyData.int)) _) _) = _
          rw [inI_map]; rfl
        exact need_i e o
theorem in_i (S : Sc w so) (l : Lv 11 G) (ha : En w so a ra) (hb : Rt w so b rb) (o : OutB (dueR s ra rb) K E σ) : G 31 [se w so, pv tIn, pv a, pv b, iv s] σ K E := by
  cases hb with
  | rng hs hc he => exact in_rng S l ha hc he o
  | un g hs hc he => exact in_set S l ha (ev_un S g hc he) rfl rfl o
  | lt h =>
    have ev : EvOk w so 10 300 b rb := fun G l σ K E o => ev_lt S h G (l.le (by decide)) σ K E (o.le (by decide))
    cases h with
    | rng hs h1 h2 h3 => exact in_rng S l ha (.lf (.int (small_in h1))) (.lf (.int (small_in h2))) o
    | set hs hp hl => exact in_set S l ha ev rfl rfl o
    | lf h => cases h <;> exact in_set S l ha ev rfl rfl o
noncomputable def notR : Re Bool → Re Bool
  | .ok b => .ok !b
  | .bad t s => .bad t s
theorem not_i (S : Sc w so) (l : Lv 15 G) (ha : En w so a ra) (hb : Rt w so b rb) (o : OutB (notR (dueR s ra rb)) K E σ) : G 27 [se w so, pv (.tuple [tUn, .int 0, tNot, .tuple [tBin, .int s, tIn, a, b]])] σ K E := by
  obtain ⟨H, l1, u⟩ := l.dn
  obtain ⟨I, l2, u1⟩ := l1.dn
  obtain ⟨J, l3, u2⟩ := l2.dn
  refine u 26 _ _ _ _ (Eq.mpr (by kernel_rfl : _ = H 30 [se w so, pv tNot, pv (.tuple [tBin, .int s, tIn, a, b]), iv 0] σ K E) (u1 29 _ _ _ _ ?_))
  refine Eq.mpr (by kernel_rfl : _ = I 27 [se w so, pv (.tuple [tBin, .int s, tIn, a, b])] σ (fun v σ => I 7 [.v v, iv 0] σ (fun t σ => truth t fun r => K (.pd (.bool (!r))) σ) E) E) ?_
  refine u2 26 _ _ _ _ (Eq.mpr (by kernel_rfl : _ = J 31 [se w so, pv tIn, pv a, pv b, iv s] σ (fun v σ => I 7 [.v v, iv 0] σ (fun t σ => truth t fun r => K (.pd (.bool (!r))) σ) E) E) ?_)
  refine in_i S (l3.le (by decide)) ha hb ?_
  cases e : dueR s ra rb with
  | bad t z => rw [e] at o; exact o
  | ok q =>
    rw [e] at o
    exact u2 6 _ _ _ _ (Eq.mpr (by kernel_rfl) o)
end
/-! DRAWING -/
noncomputable def hp (cs : List Int) (k sp : Int) (row : List Int) : Hp := [.list (row.map .int), .dict [(⟨#[99,101,108,108,115]⟩, .pd (.list (cs.map .int))), (⟨#[107]⟩, .pd (.int k)), (⟨#[115,112,111,116]⟩, .pd (.int sp)), (⟨#[114,111,119]⟩, .ref 0)]]
noncomputable abbrev r1 : Loc := .v (.ref 1)
/-- what is left to draw -/
structure Bd (cs : List Int) (k sp : Int) (row : List Int) (b : Nat) : Prop where
  c : cs.length ≤ 60
  k0 : 0 ≤ k
  kb : k + b ≤ 5000
  s0 : 0 ≤ sp
  sb : sp + b ≤ 5000
  ne : row ≠ []
  rl : row.length + b ≤ 5000
  rb : ∀ i ∈ row, i.natAbs + b * 2 ^ 140 ≤ 2 ^ 190
section
variable {cs : List Int} {k sp : Int} {row : List Int} {b c : Nat} {K : KV} {E : KE} {G H : CallS}
theorem Bd.le (h : Bd cs k sp row c) (q : b ≤ c) : Bd cs k sp row b :=
  ⟨h.c, h.k0, by have := h.kb; omega, h.s0, by have := h.sb; omega, h.ne, Nat.le_trans (Nat.add_le_add_left q _) h.rl, fun i hi => Nat.le_trans (Nat.add_le_add_left (Nat.mul_le_mul_right _ q) _) (h.rb i hi)⟩
theorem Bd.draw (h : Bd cs k sp row (b + 1)) : Bd cs (k + 1) sp row b :=
  have g := h.le (Nat.le_succ b)
  ⟨g.c, Int.le_add_one g.k0, by have := h.kb; omega, g.s0, g.sb, g.ne, g.rl, g.rb⟩
theorem Bd.spot (h : Bd cs k sp row (b + 1)) : Bd cs k (sp + 1) row b :=
  have g := h.le (Nat.le_succ b)
  ⟨g.c, g.k0, g.kb, Int.le_add_one g.s0, by have := h.sb; omega, g.ne, g.rl, g.rb⟩
theorem Bd.push (h : Bd cs k sp row (b + 1)) {v : Int} (hv : v.natAbs + b * 2 ^ 140 ≤ 2 ^ 190) : Bd cs k sp (row ++ [v]) b :=
  have g := h.le (Nat.le_succ b)
  ⟨g.c, g.k0, g.kb, g.s0, g.sb, by simp, by rw [List.length_append]; have := h.rl; show row.length + 1 + b ≤ 5000; omega, fun i hi => by
    rcases List.mem_append.mp hi with hi | hi
    · exact g.rb i hi
    · rw [List.mem_singleton.mp hi]; exact hv⟩
theorem Bd.sp6 (h : Bd cs k sp row b) : sp.natAbs ≤ 10000 := by have := h.s0; have := h.sb; omega
theorem Bd.small (h : Bd cs k sp row b) {i : Int} (hi : i ∈ row) : i.natAbs ≤ 2 ^ 190 := Nat.le_trans (Nat.le_add_right _ _) (h.rb i hi)
theorem item_at {l : List PyData} {j : Int} {w : PyData} {σ : Hp} (h0 : 0 ≤ j) (h1 : j < l.length) (hl : l.length ≤ sizeLine) (e : l[j.toNat]? = some w) : evSub σ (.pd (.list l)) (.pd (.int j)) = some (.pd w) := by
  have : idx l j = some w := by
    unfold idx
    rw [if_pos ⟨by omega, h1, hl⟩, if_neg (by omega), e]
  exact congrArg (fun o => alt (Option.map V.pd o) _) this
theorem sub_ints {σ : Hp} (h0 : 0 ≤ k) (h1 : k < (cs.map PyData.int).length) (hl : cs.length ≤ 60) : ∃ c, evSub σ (.pd (.list (cs.map .int))) (.pd (.int k)) = some (.pd (.int c)) := by
  have hj : k.toNat < cs.length := by rw [List.length_map] at h1; omega
  exact ⟨cs[k.toNat], item_at h0 h1 (by rw [List.length_map, sz]; omega) (by rw [List.getElem?_map, List.getElem?_eq_getElem hj]; rfl)⟩
theorem draw (X : Up H G) {many : Int} (hm : 0 < many) (q : Bd cs k sp row (b + 1)) (h : ∀ r, 0 ≤ r → r < many → Bd cs (k + 1) sp row b → K (.pd (.int r)) (hp cs (k + 1) sp row)) : G 13 [r1, iv many] (hp cs k sp row) K E := by
  have hl : (cs.map PyData.int).length ≤ sizeLine := by rw [List.length_map, sz]; have := q.c; omega
  have fin : ∀ i : Int, K (.pd (.int (Int.emod i many))) (hp cs (k + 1) sp row) := fun i => h _ (Int.emod_nonneg _ (by omega)) (Int.emod_lt_of_pos _ hm) q.draw
  have md : ∀ i : Int, modP (.int i) (.int many) = some (.int (Int.emod i many)) := fun i => gd_i hm
  refine X 12 _ _ _ _ (Eq.mpr (by kernel_rfl : _ = when ((cs.map PyData.int).length ≤ sizeLine) (brn (decide (k < (cs.map PyData.int).length)) (need (evSub (hp cs (k + 1) sp row) (.pd (.list (cs.map .int))) (.pd (.int k))) fun z => need (evOp .mod z (.pd (.int many)) (hp cs (k + 1) sp row)) fun d => K (.pd d) (hp cs (k + 1) sp row))
    (need (mulP (.int (3 * k)) (.int k)) fun a => need (addP a (.int (7 * k))) fun b => when ((cs.map PyData.int).length ≤ sizeLine) (need (addP b (.int (5 * (cs.map PyData.int).length))) fun c => need (addP c (.int 1)) fun d => need (modP d (.int 97)) fun e => need (modP e (.int many)) fun f => K (.pd f) (hp cs (k + 1) sp row))))) (when_i hl ?_))
  cases e : decide (k < (cs.map PyData.int).length) with
  | true =>
    obtain ⟨c, hc⟩ := sub_ints (σ := hp cs (k + 1) sp row) q.k0 (of_decide_eq_true e) q.c
    exact need_i hc (need_i (md c) (fin c))
  | false =>
    have := q.k0
    have := q.kb
    exact need_i (gd_i (by omega)) (need_i rfl (when_i hl (need_i rfl (need_i rfl (need_i rfl (need_i (md _) (fin _)))))))
theorem spot (X : Up H G) (q : Bd cs k sp row (b + 1)) (h : Bd cs k (sp + 1) row b → K (.pd (.int (sp + 1))) (hp cs k (sp + 1) row)) : G 14 [r1] (hp cs k sp row) K E := X 13 _ _ _ _ (Eq.mpr (by kernel_rfl) (h q.spot))
theorem idx_last {l : List PyData} {a : PyData} (hl : (l ++ [a]).length ≤ sizeLine) : idx (l ++ [a]) (-1) = some a := by
  unfold idx
  rw [List.length_append] at hl ⊢
  rw [if_pos ⟨by show -((l.length + 1 : Nat) : Int) ≤ -1; omega, by show (-1 : Int) < ((l.length + 1 : Nat) : Int); omega, hl⟩, if_pos (by decide)]
  have e : ((-1 : Int) + ((l.length + [a].length : Nat) : Int)).toNat = l.length := by show ((-1 : Int) + ((l.length + 1 : Nat) : Int)).toNat = l.length; omega
  rw [e, List.getElem?_append_right (Nat.le_refl _), Nat.sub_self]; rfl
theorem sub_last (row : List Int) (v : Int) (hl : row.length + 1 ≤ sizeLine) : evSub (hp cs k sp (row ++ [v])) (.ref 0) (.pd (.int (-1))) = some (.pd (.int v)) := by
  have e : idx ((row ++ [v]).map .int) (-1) = some (PyData.int v) := by
    rw [List.map_append]; exact idx_last (by rw [List.length_append, List.length_map]; exact hl)
  exact congrArg (fun o => alt (Option.map V.pd o) _) e
theorem row_split (h : row ≠ []) : ∃ r v, row = r ++ [v] := ⟨row.dropLast, row.getLast h, (List.dropLast_concat_getLast h).symm⟩
theorem pow_bd {n : Int} (h : n < 41) : ((10 : Int) ^ n.toNat).natAbs ≤ 10 ^ 40 := by
  rw [Int.natAbs_pow]
  exact Nat.pow_le_pow_right (by decide) (by omega)
theorem abs_lt {d : Int} {n : Nat} (h0 : 0 ≤ d) (h1 : d < (n + 1 : Nat)) : d.natAbs ≤ n := Nat.le_of_lt_succ (Int.ofNat_lt.mp (by rw [Int.natAbs_of_nonneg h0]; exact h1))
theorem step_bd {p d : Int} (hp : p.natAbs ≤ 10 ^ 40) (h0 : 0 ≤ d) (h1 : d < 4) : (p + d - 2).natAbs ≤ 2 ^ 140 := by
  have e : (10 : Nat) ^ 40 + 10 ≤ 2 ^ 140 := by decide +kernel
  have e0 : d.natAbs ≤ 3 := abs_lt h0 h1
  exact Nat.le_trans (Int.natAbs_sub_le _ _) (Nat.le_trans (Nat.add_le_add_right (Nat.le_trans (Int.natAbs_add_le _ _) (Nat.add_le_add hp e0)) 2) (Nat.le_trans (by decide +kernel) e))
theorem room_bd {base step : Int} {v : Int} (hb : base.natAbs + (b + 1) * 2 ^ 140 ≤ 2 ^ 190) (hs : step.natAbs ≤ 2 ^ 140) (hv : v = base - step ∨ v = base + step) : v.natAbs + b * 2 ^ 140 ≤ 2 ^ 190 := by
  rw [Nat.succ_mul] at hb
  have e : v.natAbs ≤ base.natAbs + step.natAbs := by
    rcases hv with h | h <;> rw [h]
    · exact Int.natAbs_sub_le _ _
    · exact Int.natAbs_add_le _ _
  refine Nat.le_trans (Nat.add_le_add_right (Nat.le_trans e (Nat.add_le_add_left hs _)) _) ?_
  rw [Nat.add_assoc, Nat.add_comm (2 ^ 140)]; exact hb
/-- where the number starts -/
theorem base_i (X : Up H G) {m : Fm} (hm : locV m 0 = some (.ref 1)) (q : Bd cs k sp row (b + 1)) (h : ∀ base, (base = 0 ∨ base ∈ row) → Bd cs (k + 1) sp row b → K (.pd (.int base)) (hp cs (k + 1) sp row)) :
    evX G gc1 m [] (.ite (.op .eq (.call 13 [.v 0, .c (.int 2)]) (.c (.int 1))) (.sub (.sub (.v 0) (.c (.str ⟨#[114,111,119]⟩))) (.neg (.c (.int 1)))) (.c (.int 0))) (hp cs k sp row) K E := by
  show need (locV m 0) _
  refine need_i hm (draw X (by decide) q fun r h0 h1 B => ?_)
  refine Eq.mpr (by kernel_rfl : _ = brn (r == 1) (need (locV m 0) fun x => need (evSub (hp cs (k + 1) sp row) x (.pd (.str ⟨#[114,111,119]⟩))) fun y => need (evSub (hp cs (k + 1) sp row) y (.pd (.int (-1)))) fun z => K z (hp cs (k + 1) sp row)) (K (.pd (.int 0)) (hp cs (k + 1) sp row))) ?_
  cases r == 1 with
  | false => exact h 0 (.inl rfl) B
  | true =>
    obtain ⟨rr, v, rfl⟩ := row_split q.ne
    have hl := q.rl
    rw [List.length_append] at hl
    exact need_i hm (need_i rfl (need_i (sub_last rr v (by rw [sz]; have : [v].length = 1 := rfl; omega)) (h v (.inr (List.mem_append_right _ (List.mem_singleton.mpr rfl))) B)))
end
noncomputable def hpL (cs : List Int) (k sp : Int) (l : List PyData) : Hp := [.list l, .dict [(⟨#[99,101,108,108,115]⟩, .pd (.list (cs.map .int))), (⟨#[107]⟩, .pd (.int k)), (⟨#[115,112,111,116]⟩, .pd (.int sp)), (⟨#[114,111,119]⟩, .ref 0)]]
section
variable {w : Int} {so : List Int} {cs : List Int} {k sp : Int} {row : List Int} {b c : Nat} {K : KV} {E : KE} {G H : CallS} {σ : Hp}
theorem hp_push {v : Int} {P : Hp → Prop} (h : P (hp cs k sp (row ++ [v]))) : P (hpL cs k sp (row.map .int ++ [.int v])) := by
  have e : hp cs k sp (row ++ [v]) = hpL cs k sp (row.map .int ++ [.int v]) := by unfold hp hpL; rw [List.map_append]; rfl
  exact e ▸ h
theorem row_room (q : Bd cs k sp row b) : (row.map PyData.int).length < sizeLine := by
  rw [List.length_map, sz]; have := q.rl; omega
theorem last_i {v : Int} (q : Bd cs k sp (row ++ [v]) b) (h : K (.pd (.int v)) (hp cs k sp (row ++ [v]))) : need (evSub (hp cs k sp (row ++ [v])) (.ref 0) (.pd (.int (-1)))) fun z => K z (hp cs k sp (row ++ [v])) :=
  need_i (sub_last row v (by have := q.rl; rw [List.length_append] at this; have e : [v].length = 1 := rfl; rw [sz]; omega)) h
theorem number_i (l : Lv 2 G) (q : Bd cs k sp row (b + 5)) (h : ∀ v k', Bd cs k' sp (row ++ [v]) b → K (.pd (.int v)) (hp cs k' sp (row ++ [v]))) : G 15 [r1] (hp cs k sp row) K E := by
  obtain ⟨H, l1, u⟩ := l.dn
  obtain ⟨I, l2, u1⟩ := l1.dn
  refine u 14 _ _ _ _ (Eq.mpr (by kernel_rfl : _ = evX H gc1 [some r1, none, none, none] [] (.ite (.op .eq (.call 13 [.v 0, .c (.int 2)]) (.c (.int 1))) (.sub (.sub (.v 0) (.c (.str ⟨#[114,111,119]⟩))) (.neg (.c (.int 1)))) (.c (.int 0))) (hp cs k sp row)
    (fun v σ => when (1 < 4) (evSs H gc1 (fn15.body.drop 1) [some r1, some (.v v), none, none] σ (retK K) E)) E) (base_i u1 rfl q fun base hb q1 => when_i (by decide) ?_))
  refine Eq.mpr (by kernel_rfl : _ = H 13 [r1, iv 41] (hp cs (k + 1) sp row) (fun n σ => need (evOp .pow (.pd (.int 10)) n σ) fun p => H 13 [r1, iv 4] σ (fun d σ => need (evOp .add (.pd p) d σ) fun e => need (evOp .sub (.pd e) (.pd (.int 2)) σ) fun st => when (2 < 4) (evSs H gc1 (fn15.body.drop 2) [some r1, some (iv base), some (pv st), none] σ (retK K) E)) E) E) ?_
  refine draw u1 (by decide) q1 fun n h0 h1 q2 => ?_
  refine need_i (gd_i ⟨h0, by show (Builtin.Int.intBits 10 : Int) * n ≤ 2 ^ 27; have e : (Builtin.Int.intBits 10 : Int) = 4 := by decide +kernel
                              rw [e]; omega⟩) ?_
  refine draw u1 (by decide) q2 fun d d0 d1 q3 => need_i rfl (need_i rfl (when_i (by decide) ?_))
  have hs := step_bd (pow_bd h1) d0 d1
  have hb' : base.natAbs + (b + 1) * 2 ^ 140 ≤ 2 ^ 190 := by
    rcases hb with rfl | hb
    · obtain ⟨rr, v, e⟩ := row_split q3.ne
      have := q3.rb v (by rw [e]; exact List.mem_append_right _ (List.mem_singleton.mpr rfl))
      refine Nat.le_trans ?_ this
      rw [Int.natAbs_zero, Nat.zero_add]
      exact Nat.le_trans (Nat.mul_le_mul_right _ (Nat.le_succ _)) (Nat.le_add_left _ _)
    · exact Nat.le_trans (Nat.add_le_add_left (Nat.mul_le_mul_right _ (Nat.le_succ _)) _) (q3.rb _ hb)
  generalize (10 : Int) ^ n.toNat + d - 2 = step at hs
  have put : ∀ v, (v = base - step ∨ v = base + step) → Bd cs (k + 1 + 1 + 1 + 1) sp row (b + 1) → when ((row.map PyData.int).length < sizeLine) (evSs H gc1 (fn15.body.drop 3) [some r1, some (iv base), some (iv step), none] (hpL cs (k + 1 + 1 + 1 + 1) sp (row.map .int ++ [.int v])) (retK K) E) := fun v hv q4 => by
    have q5 := q4.push (room_bd hb' hs hv)
    refine when_i (row_room q4) (hp_push (P := fun σ => evSs H gc1 (fn15.body.drop 3) [some r1, some (iv base), some (iv step), none] σ (retK K) E) ?_)
    exact Eq.mpr (by kernel_rfl : _ = need (evSub (hp cs (k + 1 + 1 + 1 + 1) sp (row ++ [v])) (.ref 0) (.pd (.int (-1)))) fun z => K z (hp cs (k + 1 + 1 + 1 + 1) sp (row ++ [v]))) (last_i q5 (h v _ q5))
  refine Eq.mpr (by kernel_rfl : _ = H 13 [r1, iv 3] (hp cs (k + 1 + 1 + 1) sp row) (fun x σ => need (evOp .eq x (.pd (.int 2)) σ) fun d => truth (.pd d) fun r => brn r (need (lstR σ (.ref 0)) fun p => when (p.2.length < sizeLine) (evSs H gc1 (fn15.body.drop 3) [some r1, some (iv base), some (iv step), none] (σ.set p.1 (.list (p.2 ++ [.int (base - step)]))) (retK K) E))
    (need (lstR σ (.ref 0)) fun p => when (p.2.length < sizeLine) (evSs H gc1 (fn15.body.drop 3) [some r1, some (iv base), some (iv step), none] (σ.set p.1 (.list (p.2 ++ [.int (base + step)]))) (retK K) E))) E) ?_
  refine draw u1 (by decide) q3 fun x x0 x1 q4 => ?_
  refine Eq.mpr (by kernel_rfl : _ = brn (x == 2) (when ((row.map PyData.int).length < sizeLine) (evSs H gc1 (fn15.body.drop 3) [some r1, some (iv base), some (iv step), none] (hpL cs (k + 1 + 1 + 1 + 1) sp (row.map .int ++ [.int (base - step)])) (retK K) E)) (when ((row.map PyData.int).length < sizeLine) (evSs H gc1 (fn15.body.drop 3) [some r1, some (iv base), some (iv step), none] (hpL cs (k + 1 + 1 + 1 + 1) sp (row.map .int ++ [.int (base + step)])) (retK K) E))) ?_
  cases x == 2 with
  | true => exact put _ (.inl rfl) q4
  | false => exact put _ (.inr rfl) q4
noncomputable abbrev lit (s i : Int) : PyData := .tuple [tInt, .int s, .int i]
/-- what is no number -/
theorem wrong_i (X : Up H G) (l : Lv 1 H) (q : Bd cs k sp row (b + 5)) (h : ∀ d r k' sp' row', Lf w so d r → Bd cs k' sp' row' b → K (.pd d) (hp cs k' sp' row')) : G 16 [r1] (hp cs k sp row) K E := by
  obtain ⟨I, _, u⟩ := l.dn
  refine X 15 _ _ _ _ ?_
  refine Eq.mpr (by kernel_rfl : _ = H 14 [r1] (hp cs k sp row) (fun a σ => need (allPd [.pd tName, a, .pd (.str Nam.z.str)]) fun d1 => when (d1.length ≤ sizeLine) (H 14 [r1] σ (fun a σ => need (allPd [.pd tName, a, .pd (.str Nam.s.str)]) fun d2 => when (d2.length ≤ sizeLine) (H 14 [r1] σ (fun a σ => need (allPd [.pd tStr, a, .pd (.str ⟨#[119]⟩)]) fun d3 => when (d3.length ≤ sizeLine) (H 14 [r1] σ (fun a σ => need (allPd [.pd tName, a, .pd (.str Nam.r.str)]) fun d4 => when (d4.length ≤ sizeLine)
    (need (allPd [.pd (.tuple d1), .pd (.tuple d2), .pd (.tuple d3), .pd (.tuple d4)]) fun ds => when (ds.length ≤ sizeLine) (H 13 [r1, iv 4] σ (fun i σ => need (evSub σ (.pd (.tuple ds)) i) fun z => K z σ) E))) E)) E)) E)) E) ?_
  have t3 : 3 ≤ 2 ^ 24 := by decide
  refine spot u q fun q0 => need_i rfl (when_i t3 ?_)
  refine spot u q0 fun q1 => need_i rfl (when_i t3 ?_)
  refine spot u q1 fun q2 => need_i rfl (when_i t3 ?_)
  refine spot u q2 fun q3 => need_i rfl (when_i t3 (need_i rfl (when_i (show 4 ≤ 2 ^ 24 by decide) ?_)))
  refine draw u (by decide) q3 fun r h0 h1 B => ?_
  have e := four h0 h1
  rcases e with rfl | rfl | rfl | rfl
  · exact need_i (by kernel_rfl) (h _ _ _ _ _ (.name (q0.sp6) .z) B)
  · exact need_i (by kernel_rfl) (h _ _ _ _ _ (.name (q1.sp6) .s) B)
  · exact need_i (by kernel_rfl) (h _ _ _ _ _ (.str (x := ⟨#[119]⟩) (sp + 1 + 1 + 1) (by decide +kernel)) B)
  · exact need_i (by kernel_rfl) (h _ _ _ _ _ (.name (q3.sp6) .r) B)
end
section
variable {w : Int} {so : List Int} {cs : List Int} {k sp : Int} {row : List Int} {b c : Nat} {K : KV} {E : KE} {G H : CallS} {σ : Hp}
noncomputable abbrev m17 (way s : Int) : Fm := [some r1, some (iv way), some (iv s), none, none, none, none]
/-- what a tuple of three comes to -/
noncomputable abbrev tk (l : List V) (P : PyData → Prop) : Prop := need (allPd l) fun ds => when (ds.length ≤ sizeLine) (P (.tuple ds))
theorem tk_i {l : List V} {ds : List PyData} {P : PyData → Prop} (e : allPd l = some ds) (hl : ds.length ≤ 100) (h : P (.tuple ds)) : tk l P := need_i e (when_i (Nat.le_trans hl (by rw [sz]; decide)) h)
/-- a literal of a number that is drawn -/
theorem lit_i (X : Up H G) (l : Lv 2 G) (q : Bd cs k sp row (b + 6)) {P : PyData → Hp → Prop} (h : ∀ s v k' row', s.natAbs ≤ 10000 → v.natAbs ≤ 2 ^ 200 → Bd cs k' (sp + 1) row' b → P (lit s v) (hp cs k' (sp + 1) row')) :
    G 14 [r1] (hp cs k sp row) (fun a σ => G 15 [r1] σ (fun v σ => tk [.pd tInt, a, v] fun d => P d σ) E) E := by
  refine spot X q fun q1 => number_i l q1 fun v k' q2 => tk_i rfl (show 3 ≤ 100 by decide) (h _ v k' _ q1.sp6 (Nat.le_trans (q2.small (List.mem_append_right _ (List.mem_singleton.mpr rfl))) (by decide +kernel)) q2)
theorem end_i (S : Sc w so) (l : Lv 4 G) (q : Bd cs k sp row (b + 12)) (h : ∀ d r k' sp' row', En w so d r → Bd cs k' sp' row' b → K (.pd d) (hp cs k' sp' row')) : G 17 [r1] (hp cs k sp row) K E := by
  obtain ⟨H, l1, u⟩ := l.dn
  obtain ⟨I, l2, u1⟩ := l1.dn
  refine u 16 _ _ _ _ (Eq.mpr (by kernel_rfl : _ = H 13 [r1, iv 14] (hp cs k sp row) (fun a σ => H 14 [r1] σ (fun c σ => evSs H gc1 (fn17.body.drop 1) [some r1, some (.v a), some (.v c), none, none, none, none] σ (retK K) E) E) E) ?_)
  refine draw u1 (by decide) q fun way w0 w1 q1 => spot u1 q1 fun q2 => ?_
  have hs := q2.sp6
  refine Eq.mpr (by kernel_rfl : _ = brn (decide (way < 6)) (H 15 [r1] (hp cs (k + 1) (sp + 1) row) (fun v σ => tk [.pd tInt, .pd (.int (sp + 1)), v] fun d => K (.pd d) σ) E) (evSs H gc1 (fn17.body.drop 2) (m17 way (sp + 1)) (hp cs (k + 1) (sp + 1) row) (retK K) E)) ?_
  cases decide (way < 6) with
  | true => exact number_i (l1.le (by decide)) (q2.le (Nat.add_le_add_left (show 5 ≤ 10 by decide) b)) fun v k' q3 => tk_i rfl (show 3 ≤ 100 by decide) (h _ _ _ _ _ (.lf (.int (Nat.le_trans (q3.small (List.mem_append_right _ (List.mem_singleton.mpr rfl))) (by decide +kernel)))) q3)
  | false =>
  refine Eq.mpr (by kernel_rfl : _ = brn (decide (way < 8)) (H 14 [r1] (hp cs (k + 1) (sp + 1) row) (fun a σ => H 15 [r1] σ (fun v σ => tk [.pd tInt, a, v] fun x => H 14 [r1] σ (fun a σ => H 13 [r1, iv 3] σ (fun v σ => need (evOp .sub v (.pd (.int 1)) σ) fun v => tk [.pd tInt, a, .pd v] fun y => tk [.pd tBin, .pd (.int (sp + 1)), .pd tAdd, .pd x, .pd y] fun d => K (.pd d) σ) E) E) E) E) (evSs H gc1 (fn17.body.drop 3) (m17 way (sp + 1)) (hp cs (k + 1) (sp + 1) row) (retK K) E)) ?_
  cases decide (way < 8) with
  | true =>
    refine lit_i (b := b + 2) u1 (l1.le (by decide)) (q2.le (Nat.add_le_add_left (show 8 ≤ 10 by decide) b)) fun s v k' row' hs' hv q3 => ?_
    refine spot u1 q3 fun q4 => draw u1 (by decide) q4 fun x x0 x1 q5 => need_i rfl (tk_i rfl (show 3 ≤ 100 by decide) (tk_i rfl (show 5 ≤ 100 by decide) (h _ _ _ _ _ (.add hs (.int hv) (.int ?_)) q5)))
    exact Nat.le_trans (show (x - 1).natAbs ≤ 10 by omega) (by decide +kernel)
  | false =>
  refine Eq.mpr (by kernel_rfl : _ = brn (way == 8) (H 14 [r1] (hp cs (k + 1) (sp + 1) row) (fun a σ => H 15 [r1] σ (fun v σ => tk [.pd tInt, a, v] fun x => tk [.pd tUn, .pd (.int (sp + 1)), .pd tNeg, .pd x] fun d => K (.pd d) σ) E) E) (evSs H gc1 (fn17.body.drop 4) (m17 way (sp + 1)) (hp cs (k + 1) (sp + 1) row) (retK K) E)) ?_
  cases way == 8 with
  | true =>
    exact lit_i (b := b) u1 (l1.le (by decide)) (q2.le (Nat.add_le_add_left (show 6 ≤ 10 by decide) b)) fun s v k' row' hs' hv q3 => tk_i rfl (show 4 ≤ 100 by decide) (h _ _ _ _ _ (.neg hs (.int hv)) q3)
  | false =>
  refine Eq.mpr (by kernel_rfl : _ = brn (way == 9) (H 14 [r1] (hp cs (k + 1) (sp + 1) row) (fun a σ => tk [.pd tName, a, .pd (.str Nam.w.str)] fun x => H 14 [r1] σ (fun a σ => tk [.pd tBool, a, .pd (.bool true)] fun y => tk [.pd tBin, .pd (.int (sp + 1)), .pd tAdd, .pd x, .pd y] fun d => K (.pd d) σ) E) E) (evSs H gc1 (fn17.body.drop 5) (m17 way (sp + 1)) (hp cs (k + 1) (sp + 1) row) (retK K) E)) ?_
  cases way == 9 with
  | true =>
    have q2 := q2.le (Nat.add_le_add_left (show 2 ≤ 10 by decide) b)
    exact spot u1 q2 fun q3 => tk_i rfl (show 3 ≤ 100 by decide) (spot u1 q3 fun q4 => tk_i rfl (show 3 ≤ 100 by decide) (tk_i rfl (show 5 ≤ 100 by decide) (h _ _ _ _ _ (.add hs (.name q3.sp6 .w) (.bool _ true)) q4)))
  | false =>
  refine Eq.mpr (by kernel_rfl : _ = brn (way == 10) (H 14 [r1] (hp cs (k + 1) (sp + 1) row) (fun a σ => tk [.pd tName, a, .pd (.str Nam.b.str)] fun x => H 16 [r1] σ (fun y σ => tk [.pd tBin, .pd (.int (sp + 1)), .pd tAdd, .pd x, y] fun d => K (.pd d) σ) E) E) (evSs H gc1 (fn17.body.drop 6) (m17 way (sp + 1)) (hp cs (k + 1) (sp + 1) row) (retK K) E)) ?_
  cases way == 10 with
  | true =>
    have q2 := q2.le (Nat.add_le_add_left (show 6 ≤ 10 by decide) b)
    exact spot u1 q2 fun q3 => tk_i rfl (show 3 ≤ 100 by decide) (wrong_i u1 (l2.le (by decide)) q3 fun d r k' sp' row' hw q4 => tk_i rfl (show 5 ≤ 100 by decide) (h _ _ _ _ _ (.add hs (.name q3.sp6 .b) hw) q4))
  | false =>
  refine Eq.mpr (by kernel_rfl : _ = brn (decide (way < 13)) (brn (way == 11) (tk [.pd tName, .pd (.int (sp + 1)), .pd (.str Nam.w.str)] fun d => K (.pd d) (hp cs (k + 1) (sp + 1) row)) (H 13 [r1, iv 2] (hp cs (k + 1) (sp + 1) row) (fun x σ => need (evOp .eq x (.pd (.int 0)) σ) fun y => tk [.pd tBool, .pd (.int (sp + 1)), .pd y] fun d => K (.pd d) σ) E)) (H 16 [r1] (hp cs (k + 1) (sp + 1) row) K E)) ?_
  cases decide (way < 13) with
  | true =>
    cases way == 11 with
    | true => exact tk_i (P := fun d => K (.pd d) (hp cs (k + 1) (sp + 1) row)) (l := [.pd tName, .pd (.int (sp + 1)), .pd (.str Nam.w.str)]) rfl (show 3 ≤ 100 by decide) (h _ _ _ _ _ (.lf (.name hs .w)) (q2.le (Nat.le_add_right _ _)))
    | false => exact draw u1 (by decide) (q2.le (Nat.add_le_add_left (show 1 ≤ 10 by decide) b)) fun x x0 x1 q3 => need_i (a := PyData.bool (x == 0)) rfl (tk_i (ds := [tBool, .int (sp + 1), .bool (x == 0)]) rfl (show 3 ≤ 100 by decide) (h _ _ _ _ _ (.lf (.bool _ _)) q3))
  | false => exact wrong_i u1 (l2.le (by decide)) (q2.le (Nat.add_le_add_left (show 5 ≤ 10 by decide) b)) fun d r k' sp' row' hw q3 => h _ _ _ _ _ (.lf hw) q3
end
section
variable {w : Int} {so : List Int} {cs : List Int} {k sp : Int} {row : List Int} {b c : Nat} {K : KV} {E : KE} {G H : CallS} {σ : Hp}
noncomputable def seqK (H : CallS) (rest : List Mine.S) (K : KS) (E : KE) : KS := fun f m' σ' => match f with
  | .next => evSs H gc1 rest m' σ' K E
  | f => K f m' σ'
noncomputable abbrev retRng : Mine.S := .ret (.tup [.c tRange, .v 2, .tup [.c tInt, .call 14 [.v 0], .v 3], .tup [.c tInt, .call 14 [.v 0], .sub (.sub (.v 0) (.c (.str ⟨#[114,111,119]⟩))) (.neg (.c (.int 1)))]])
noncomputable abbrev exRng : Mine.S := .ex (.lm .append (.sub (.v 0) (.c (.str ⟨#[114,111,119]⟩))) [.op .sub (.op .add (.v 3) (.call 13 [.v 0, .c (.int 6)])) (.c (.int 1))])
noncomputable abbrev m18 (way s : Int) : Fm := [some r1, some (iv way), some (iv s), none, none, none, none, none]
/-- ends, one behind the other -/
theorem ends_i (S : Sc w so) (l : Lv 4 H) {m : Fm} (hm : locV m 0 = some (.ref 1)) {KK : List PyData → Hp → Prop} : ∀ (items : List PyData) (ps : List (PyData × Re Rv)) (k sp : Int) (row : List Int), (∀ p ∈ ps, En w so p.1 p.2) → ps.length + items.length ≤ 3 → Bd cs k sp row (b + 12 * items.length) →
    (∀ (ps : List (PyData × Re Rv)) k' sp' row', (∀ p ∈ ps, En w so p.1 p.2) → ps.length ≤ 3 → Bd cs k' sp' row' b → KK (ps.map (·.1)) (hp cs k' sp' row')) → compN (turnC H m (.call 17 [.v 0]) none E) (fun _ k => k) KK items (ps.map (·.1)) (hp cs k sp row)
  | [], ps, k, sp, row, hp', hl, q, h => h ps k sp row hp' hl q
  | i :: r, ps, k, sp, row, hp', hl, q, h => by
    rw [List.length_cons] at hl
    refine when_i (by rw [List.length_map, sz]; exact Nat.le_trans (Nat.le_trans (Nat.le_add_right _ _) hl) (by decide)) ?_
    show need (locV m 0) _
    refine need_i hm (end_i S l (b := b + 12 * r.length) (q.le (by rw [List.length_cons]; omega)) fun d x k' sp' row' hd q' => need_i rfl ?_)
    have e : ps.map (·.1) ++ [d] = (ps ++ [(d, x)]).map (·.1) := by rw [List.map_append]; rfl
    show compN (turnC H m (.call 17 [.v 0]) none E) (fun _ k => k) KK r (ps.map (·.1) ++ [d]) (hp cs k' sp' row')
    rw [e]
    refine ends_i S l hm r (ps ++ [(d, x)]) k' sp' row' (fun p hpm => ?_) (by rw [List.length_append]; exact len1 hl) q' h
    rcases List.mem_append.mp hpm with hpm | hpm
    · exact hp' p hpm
    · rw [List.mem_singleton.mp hpm]; exact hd
theorem lot_i (S : Sc w so) (l : Lv 5 G) (q : Bd cs k sp row (b + 40)) (h : ∀ d r k' sp' row', Lt w so d r → Bd cs k' sp' row' b → K (.pd d) (hp cs k' sp' row')) : G 18 [r1] (hp cs k sp row) K E := by
  obtain ⟨H, l1, u⟩ := l.dn
  obtain ⟨I, l2, u1⟩ := l1.dn
  refine u 17 _ _ _ _ (Eq.mpr (by kernel_rfl : _ = H 13 [r1, iv 8] (hp cs k sp row) (fun a σ => H 14 [r1] σ (fun c σ => evSs H gc1 (fn18.body.drop 1) [some r1, some (.v a), some (.v c), none, none, none, none, none] σ (retK K) E) E) E) ?_)
  refine draw u1 (by decide) q fun way w0 w1 q1 => spot u1 q1 fun q2 => ?_
  have hs := q2.sp6
  refine Eq.mpr (by kernel_rfl : _ = brn (decide (way < 4)) (H 13 [r1, iv 9] (hp cs (k + 1) (sp + 1) row) (fun a σ => need (evOp .sub a (.pd (.int 4)) σ) fun lo => evSs H gc1 [exRng, retRng] [some r1, some (iv way), some (iv (sp + 1)), some (pv lo), none, none, none, none] σ (seqK H (fn18.body.drop 2) (retK K) E) E) E)
    (evSs H gc1 (fn18.body.drop 2) (m18 way (sp + 1)) (hp cs (k + 1) (sp + 1) row) (retK K) E)) ?_
  cases decide (way < 4) with
  | true =>
    have q2 := q2.le (Nat.add_le_add_left (show 5 ≤ 38 by decide) b)
    refine draw u1 (by decide) q2 fun a a0 a1 q3 => need_i rfl ?_
    refine Eq.mpr (by kernel_rfl : _ = H 13 [r1, iv 6] (hp cs (k + 1 + 1) (sp + 1) row) (fun c σ => need (evOp .add (.pd (.int (a - 4))) c σ) fun x => need (evOp .sub (.pd x) (.pd (.int 1)) σ) fun hi => need (lstR σ (.ref 0)) fun p => when (p.2.length < sizeLine) (evSs H gc1 [retRng] [some r1, some (iv way), some (iv (sp + 1)), some (iv (a - 4)), none, none, none, none] (σ.set p.1 (.list (p.2 ++ [hi]))) (seqK H (fn18.body.drop 2) (retK K) E) E)) E) ?_
    refine draw u1 (by decide) q3 fun c c0 c1 q4 => need_i rfl (need_i rfl (need_i rfl (when_i (row_room q4) ?_)))
    refine hp_push (P := fun σ => evSs H gc1 [retRng] [some r1, some (iv way), some (iv (sp + 1)), some (iv (a - 4)), none, none, none, none] σ (seqK H (fn18.body.drop 2) (retK K) E) E) ?_
    have hv : (a - 4 + c - 1).natAbs ≤ 10 := by omega
    have q5 := q4.push (v := a - 4 + c - 1) (room_bd (base := 0) (step := a - 4 + c - 1) (by
      obtain ⟨rr, v, e⟩ := row_split q4.ne
      have := q4.rb v (by rw [e]; exact List.mem_append_right _ (List.mem_singleton.mpr rfl))
      rw [Int.natAbs_zero, Nat.zero_add]
      exact Nat.le_trans (Nat.le_add_left _ _) this) (Nat.le_trans hv (by decide +kernel)) (.inr (Int.zero_add _).symm))
    refine Eq.mpr (by kernel_rfl : _ = H 14 [r1] (hp cs (k + 1 + 1 + 1) (sp + 1) (row ++ [a - 4 + c - 1])) (fun x σ => tk [.pd tInt, x, .pd (.int (a - 4))] fun x => H 14 [r1] σ (fun y σ => need (evSub σ (.ref 1) (.pd (.str ⟨#[114,111,119]⟩))) fun x' => need (evSub σ x' (.pd (.int (-1)))) fun z => tk [.pd tInt, y, z] fun y => tk [.pd tRange, .pd (.int (sp + 1)), .pd x, .pd y] fun d => K (.pd d) σ) E) E) ?_
    refine spot u1 q5 fun q6 => tk_i rfl (show 3 ≤ 100 by decide) (spot u1 q6 fun q7 => need_i rfl ?_)
    refine last_i (K := fun z σ => tk [.pd tInt, .pd (.int (sp + 1 + 1 + 1)), z] fun y => tk [.pd tRange, .pd (.int (sp + 1)), .pd (lit (sp + 1 + 1) (a - 4)), .pd y] fun d => K (.pd d) σ) q7 ?_
    exact tk_i rfl (show 3 ≤ 100 by decide) (tk_i rfl (show 4 ≤ 100 by decide) (h _ _ _ _ _ (.rng hs (by omega) hv (by omega)) q7))
  | false =>
  refine Eq.mpr (by kernel_rfl : _ = brn (way == 4) (tk [.pd tName, .pd (.int (sp + 1)), .pd (.str Nam.s.str)] fun d => K (.pd d) (hp cs (k + 1) (sp + 1) row)) (evSs H gc1 (fn18.body.drop 3) (m18 way (sp + 1)) (hp cs (k + 1) (sp + 1) row) (retK K) E)) ?_
  cases way == 4 with
  | true => exact tk_i (P := fun d => K (.pd d) (hp cs (k + 1) (sp + 1) row)) (l := [.pd tName, .pd (.int (sp + 1)), .pd (.str Nam.s.str)]) rfl (show 3 ≤ 100 by decide) (h _ _ _ _ _ (.lf (.name hs .s)) (q2.le (Nat.le_add_right _ _)))
  | false =>
  refine Eq.mpr (by kernel_rfl : _ = brn (way == 5) (H 13 [r1, iv 4] (hp cs (k + 1) (sp + 1) row) (fun i σ => need (evSub σ (.pd (.tuple [.str Nam.s.str, .str Nam.w.str, .str Nam.z.str, .str Nam.r.str])) i) fun z => tk [.pd tName, .pd (.int (sp + 1)), z] fun d => K (.pd d) σ) E) (evSs H gc1 (fn18.body.drop 4) (m18 way (sp + 1)) (hp cs (k + 1) (sp + 1) row) (retK K) E)) ?_
  cases way == 5 with
  | true =>
    refine draw u1 (by decide) (q2.le (Nat.add_le_add_left (show 1 ≤ 38 by decide) b)) fun r h0 h1 B => ?_
    have fin : ∀ n : Nam, tk [.pd tName, .pd (.int (sp + 1)), .pd (.str n.str)] fun d => K (.pd d) (hp cs (k + 1 + 1) (sp + 1) row) := fun n => tk_i rfl (show 3 ≤ 100 by decide) (h _ _ _ _ _ (.lf (.name hs n)) B)
    have e := four h0 h1
    rcases e with rfl | rfl | rfl | rfl
    · exact need_i (by kernel_rfl) (fin .s)
    · exact need_i (by kernel_rfl) (fin .w)
    · exact need_i (by kernel_rfl) (fin .z)
    · exact need_i (by kernel_rfl) (fin .r)
  | false =>
  refine Eq.mpr (by kernel_rfl : _ = H 13 [r1, iv 4] (hp cs (k + 1) (sp + 1) row) (fun n σ => need (intV n) fun n => need (itemsOf σ (.rng 0 n)) fun l => compN (turnC H (m18 way (sp + 1)) (.call 17 [.v 0]) none E) (fun _ k => k) (fun ds σ => when (ds.length ≤ sizeLine) (when (ds.length ≤ sizeLine) (tk [.pd tSet, .pd (.int (sp + 1)), .pd (.tuple ds)] fun d => K (.pd d) σ))) l [] σ) E) ?_
  have q2 := q2.le (Nat.add_le_add_left (show 37 ≤ 38 by decide) b)
  refine draw u1 (by decide) q2 fun n n0 n1 q3 => need_i rfl (need_i (a := rangeL 0 n) (gd_i (by show -(2 ^ 62) ≤ (0 : Int) ∧ (0 : Int) < 2 ^ 62 ∧ -(2 ^ 62) ≤ n ∧ n < 2 ^ 62; omega)) ?_)
  have ln : (rangeL 0 n).length ≤ 3 := by unfold rangeL; rw [List.length_map, List.length_range]; omega
  refine ends_i (b := b) S (l1.le (by decide)) rfl (rangeL 0 n) [] _ _ _ (fun p hpm => nomatch hpm) (by rw [List.length_nil, Nat.zero_add]; exact ln) (q3.le (by omega)) fun ps k' sp' row' hps hl q4 => ?_
  have lz : (ps.map (·.1)).length ≤ sizeLine := by rw [List.length_map, sz]; exact Nat.le_trans hl (by decide)
  exact when_i lz (when_i lz (tk_i rfl (show 3 ≤ 100 by decide) (h _ _ _ _ _ (.set hs hps hl) q4)))
end
section
variable {w : Int} {so : List Int} {cs : List Int} {k sp : Int} {row : List Int} {b c : Nat} {K : KV} {E : KE} {G H : CallS} {σ : Hp}
noncomputable abbrev m19 (way s : Int) (a b : Option Loc) : Fm := [some r1, some (iv way), some (iv s), none, a, b, none, none, none, none, none]
theorem right_i (S : Sc w so) (l : Lv 6 G) (q : Bd cs k sp row (b + 90)) (h : ∀ d r k' sp' row', Rt w so d r → Bd cs k' sp' row' b → K (.pd d) (hp cs k' sp' row')) : G 19 [r1] (hp cs k sp row) K E := by
  obtain ⟨H, l1, u⟩ := l.dn
  obtain ⟨I, l2, u1⟩ := l1.dn
  refine u 18 _ _ _ _ (Eq.mpr (by kernel_rfl : _ = H 13 [r1, iv 10] (hp cs k sp row) (fun a σ => H 14 [r1] σ (fun c σ => evSs H gc1 (fn19.body.drop 1) [some r1, some (.v a), some (.v c), none, none, none, none, none, none, none, none] σ (retK K) E) E) E) ?_)
  refine draw u1 (by decide) q fun way w0 w1 q1 => spot u1 q1 fun q2 => ?_
  have hs := q2.sp6
  refine Eq.mpr (by kernel_rfl : _ = brn (decide (way < 5)) (H 17 [r1] (hp cs (k + 1) (sp + 1) row) (fun x σ => H 17 [r1] σ (fun y σ => tk [.pd tRange, .pd (.int (sp + 1)), x, y] fun d => K (.pd d) σ) E) E) (evSs H gc1 (fn19.body.drop 2) (m19 way (sp + 1) none none) (hp cs (k + 1) (sp + 1) row) (retK K) E)) ?_
  cases decide (way < 5) with
  | true =>
    exact end_i S (l1.le (by decide)) (b := b + 12) (q2.le (Nat.add_le_add_left (show 24 ≤ 88 by decide) b)) fun d r k' sp' row' hd q3 => end_i S (l1.le (by decide)) q3 fun d' r' k2 sp2 row2 hd' q4 => tk_i rfl (show 4 ≤ 100 by decide) (h _ _ _ _ _ (.rng hs hd hd') q4)
  | false =>
  refine Eq.mpr (by kernel_rfl : _ = brn (decide (way < 8)) (H 13 [r1, iv 4] (hp cs (k + 1) (sp + 1) row) (fun i σ => need (evSub σ (.pd (.tuple [.str Sg.union.str, .str Sg.diff.str, .str Sg.symdiff.str, .str Sg.intersect.str])) i) fun z => H 18 [r1] σ (fun x σ => H 18 [r1] σ (fun y σ => tk [.pd tBin, .pd (.int (sp + 1)), z, x, y] fun d => K (.pd d) σ) E) E) E)
    (brn (way == 8) (H 18 [r1] (hp cs (k + 1) (sp + 1) row) K E) (H 16 [r1] (hp cs (k + 1) (sp + 1) row) K E))) ?_
  cases decide (way < 8) with
  | true =>
    refine draw u1 (by decide) (b := b + 80) (q2.le (Nat.add_le_add_left (show 81 ≤ 88 by decide) b)) fun r h0 h1 B => ?_
    have fin : ∀ g : Sg, H 18 [r1] (hp cs (k + 1 + 1) (sp + 1) row) (fun x σ => H 18 [r1] σ (fun y σ => tk [.pd tBin, .pd (.int (sp + 1)), .pd (.str g.str), x, y] fun d => K (.pd d) σ) E) E := fun g =>
      lot_i S (l1.le (by decide)) (b := b + 40) B fun d r k' sp' row' hd q3 => lot_i S (l1.le (by decide)) q3 fun d' r' k2 sp2 row2 hd' q4 => tk_i rfl (show 5 ≤ 100 by decide) (h _ _ _ _ _ (.un g hs hd hd') q4)
    have e := four h0 h1
    rcases e with rfl | rfl | rfl | rfl
    · exact need_i (by kernel_rfl) (fin .union)
    · exact need_i (by kernel_rfl) (fin .diff)
    · exact need_i (by kernel_rfl) (fin .symdiff)
    · exact need_i (by kernel_rfl) (fin .intersect)
  | false =>
    cases way == 8 with
    | true => exact lot_i S (l1.le (by decide)) (q2.le (Nat.add_le_add_left (show 40 ≤ 88 by decide) b)) fun d r k' sp' row' hd q3 => h _ _ _ _ _ (.lt hd) q3
    | false => exact wrong_i u1 (l2.le (by decide)) (q2.le (Nat.add_le_add_left (show 5 ≤ 88 by decide) b)) fun d r k' sp' row' hw q3 => h _ _ _ _ _ (.lt (.lf hw)) q3
theorem sub_row {i : Int} (q : Bd cs k sp row b) (h0 : 0 ≤ i) (h1 : i < row.length) : ∃ v, v.natAbs ≤ 2 ^ 190 ∧ evSub (hp cs k sp row) (.ref 0) (.pd (.int i)) = some (.pd (.int v)) := by
  have hj : i.toNat < row.length := by omega
  refine ⟨row[i.toNat], q.small (List.getElem_mem hj), ?_⟩
  have : idx (row.map .int) i = some (PyData.int row[i.toNat]) := by
    unfold idx
    rw [List.length_map, if_pos ⟨by omega, h1, by rw [sz]; have := q.rl; omega⟩, if_neg (by omega), List.getElem?_map, List.getElem?_eq_getElem hj]; rfl
  exact congrArg (fun o => alt (Option.map V.pd o) _) this
noncomputable abbrev m20 (way s : Int) (near : Int) : Fm := [some r1, some (iv way), some (iv s), some (.v (.ref 0)), some (iv near), none, none, none, none, none]
theorem near_bd {v x : Int} (hv : v.natAbs ≤ 2 ^ 190) (h0 : 0 ≤ x) (h1 : x < 3) (c : Int) (hc : c = 0 ∨ c = 1) : (v + x - 1 - c).natAbs ≤ 2 ^ 200 := by
  have e : (2 : Nat) ^ 190 + 10 ≤ 2 ^ 200 := by decide +kernel
  have e1 : x.natAbs ≤ 2 := abs_lt h0 h1
  have e2 : c.natAbs ≤ 1 := by rcases hc with h | h <;> rw [h] <;> decide
  exact Nat.le_trans (Int.natAbs_sub_le _ _) (Nat.le_trans (Nat.add_le_add (Nat.le_trans (Int.natAbs_sub_le _ _) (Nat.add_le_add_right (Nat.le_trans (Int.natAbs_add_le _ _) (Nat.add_le_add hv e1)) 1)) e2) (Nat.le_trans (by decide +kernel) e))
theorem left_i (S : Sc w so) (l : Lv 3 G) (q : Bd cs k sp row (b + 10)) (h : ∀ d r k' sp' row', En w so d r → Bd cs k' sp' row' b → K (.pd d) (hp cs k' sp' row')) : G 20 [r1] (hp cs k sp row) K E := by
  obtain ⟨H, l1, u⟩ := l.dn
  obtain ⟨I, l2, u1⟩ := l1.dn
  refine u 19 _ _ _ _ (Eq.mpr (by kernel_rfl : _ = H 13 [r1, iv 10] (hp cs k sp row) (fun a σ => H 14 [r1] σ (fun c σ => need (evSub σ (.ref 1) (.pd (.str ⟨#[114,111,119]⟩))) fun x => evSs H gc1 (fn20.body.drop 1) [some r1, some (.v a), some (.v c), some (.v x), none, none, none, none, none, none] σ (retK K) E) E) E) ?_)
  refine draw u1 (by decide) q fun way w0 w1 q1 => spot u1 q1 fun q2 => need_i rfl ?_
  have hs := q2.sp6
  refine Eq.mpr (by kernel_rfl : _ = when ((row.map PyData.int).length ≤ sizeLine) (when ((row.map PyData.int).length ≤ sizeLine) (H 13 [r1, iv (if ((row.map PyData.int).length : Int) < 4 then ((row.map PyData.int).length : Int) else 4)] (hp cs (k + 1) (sp + 1) row) (fun x σ => need (evOp .sub (.pd (.int ((row.map PyData.int).length - 1))) x σ) fun i => need (evSub σ (.ref 0) (.pd i)) fun v => H 13 [r1, iv 3] σ (fun x σ => need (evOp .add v x σ) fun y => need (evOp .sub (.pd y) (.pd (.int 1)) σ) fun near => evSs H gc1 (fn20.body.drop 2) [some r1, some (iv way), some (iv (sp + 1)), some (.v (.ref 0)), some (pv near), none, none, none, none, none] σ (retK K) E) E) E))) ?_
  have rr := Nat.le_of_lt (row_room q2)
  have ne : 0 < row.length := List.length_pos_iff.mpr q2.ne
  refine when_i rr (when_i rr ?_)
  rw [List.length_map]
  refine draw u1 (by split <;> omega) q2 fun x x0 x1 q3 => need_i rfl ?_
  obtain ⟨v, hv, e⟩ := sub_row (i := (row.length : Int) - 1 - x) q3 (by split at x1 <;> omega) (by omega)
  refine need_i e (draw u1 (by decide) q3 fun y y0 y1 q4 => need_i rfl (need_i rfl ?_))
  have n0 : (v + y - 1).natAbs ≤ 2 ^ 200 := by have := near_bd hv y0 y1 0 (.inl rfl); rw [Int.sub_zero] at this; exact this
  have n1 := near_bd hv y0 y1 1 (.inr rfl)
  generalize v + y - 1 = near at n0 n1
  refine Eq.mpr (by kernel_rfl : _ = brn (decide (way < 7)) (tk [.pd tInt, .pd (.int (sp + 1)), .pd (.int near)] fun d => K (.pd d) (hp cs (k + 1 + 1 + 1) (sp + 1) row)) (evSs H gc1 (fn20.body.drop 3) (m20 way (sp + 1) near) (hp cs (k + 1 + 1 + 1) (sp + 1) row) (retK K) E)) ?_
  cases decide (way < 7) with
  | true => exact tk_i (P := fun d => K (.pd d) (hp cs (k + 1 + 1 + 1) (sp + 1) row)) (l := [.pd tInt, .pd (.int (sp + 1)), .pd (.int near)]) rfl (show 3 ≤ 100 by decide) (h _ _ _ _ _ (.lf (.int n0)) (q4.le (Nat.le_add_right _ _)))
  | false =>
  refine Eq.mpr (by kernel_rfl : _ = brn (way == 7) (H 14 [r1] (hp cs (k + 1 + 1 + 1) (sp + 1) row) (fun a σ => tk [.pd tInt, a, .pd (.int (near - 1))] fun x => H 14 [r1] σ (fun a σ => tk [.pd tName, a, .pd (.str Nam.b.str)] fun y => tk [.pd tBin, .pd (.int (sp + 1)), .pd tAdd, .pd x, .pd y] fun d => K (.pd d) σ) E) E)
    (brn (way == 8) (H 13 [r1, iv 2] (hp cs (k + 1 + 1 + 1) (sp + 1) row) (fun i σ => need (evSub σ (.pd (.tuple [.str Nam.b.str, .str Nam.w.str])) i) fun z => tk [.pd tName, .pd (.int (sp + 1)), z] fun d => K (.pd d) σ) E) (H 16 [r1] (hp cs (k + 1 + 1 + 1) (sp + 1) row) K E))) ?_
  cases way == 7 with
  | true =>
    exact spot u1 (b := b + 1) (q4.le (Nat.add_le_add_left (show 2 ≤ 6 by decide) b)) fun q5 => tk_i rfl (show 3 ≤ 100 by decide) (spot u1 q5 fun q6 => tk_i rfl (show 3 ≤ 100 by decide) (tk_i rfl (show 5 ≤ 100 by decide) (h _ _ _ _ _ (.add hs (.int n1) (.name q6.sp6 .b)) q6)))
  | false =>
    cases way == 8 with
    | true =>
      refine draw u1 (by decide) (b := b) (q4.le (Nat.add_le_add_left (show 1 ≤ 6 by decide) b)) fun r h0 h1 B => ?_
      have fin : ∀ n : Nam, tk [.pd tName, .pd (.int (sp + 1)), .pd (.str n.str)] fun d => K (.pd d) (hp cs (k + 1 + 1 + 1 + 1) (sp + 1) row) := fun n => tk_i rfl (show 3 ≤ 100 by decide) (h _ _ _ _ _ (.lf (.name hs n)) B)
      have e : r = 0 ∨ r = 1 := by omega
      rcases e with rfl | rfl
      · exact need_i (by kernel_rfl) (fin .b)
      · exact need_i (by kernel_rfl) (fin .w)
    | false => exact wrong_i u1 (l2.le (by decide)) (q4.le (Nat.add_le_add_left (show 5 ≤ 6 by decide) b)) fun d r k' sp' row' hw q5 => h _ _ _ _ _ (.lf hw) q5
end
/-! WHAT IS SHOWN -/
structure Sh (n j : Nat) (d : PyData) : Prop where
  len : d.shown.length ≤ n
  able : d.showable = true
  deep : d.depth ≤ j
theorem sh_int {i : Int} (h : i.natAbs ≤ 2 ^ 200) : Sh 2000 0 (.int i) := by
  have l : i.natAbs.log2 < 1920 := Nat.lt_of_le_of_lt (by
    have := Nat.log2_le_self i.natAbs
    by_cases q : i.natAbs = 0
    · rw [q]; exact Nat.zero_le 201
    · exact Nat.le_of_lt ((Nat.log2_lt q).mpr (Nat.lt_of_le_of_lt h (show 2 ^ 200 < 2 ^ 201 by decide +kernel)))) (show 201 < 1920 by decide)
  exact ⟨Nat.le_trans (int_text_len_1921 l) (by decide), decide_eq_true l, Nat.zero_le _⟩
theorem sh_str {x : Str} (h : PyData.strOk x = true) (hl : x.length ≤ 100) : Sh 2000 0 (.str x) := by
  have := StrLaws.reprText_len x fun c hc => Nat.lt_trans (of_decide_eq_true (Array.all_eq_true_iff_forall_mem.mp h c (Array.mem_toList_iff.mp hc))) (by decide)
  exact ⟨Nat.le_trans this (Nat.le_trans (Nat.add_le_add_right (Nat.mul_le_mul_left 10 hl) 2) (by decide)), rfl, Nat.zero_le _⟩
theorem sh_all {n j : Nat} : ∀ {l : List PyData}, (∀ d ∈ l, Sh n j d) → ((PyData.shownAll l).map (·.length)).sum ≤ l.length * n ∧ PyData.showableAll l = true ∧ PyData.depthAll l ≤ j
  | [], _ => ⟨Nat.zero_le _, rfl, Nat.zero_le _⟩
  | d :: r, h => by
    obtain ⟨a, b⟩ := List.forall_mem_cons.mp h
    obtain ⟨p, q, z⟩ := sh_all b
    exact ⟨by show d.shown.length + ((PyData.shownAll r).map (·.length)).sum ≤ (r.length + 1) * n; rw [Nat.add_mul, Nat.one_mul, Nat.add_comm]; exact Nat.add_le_add p a.len, Bool.and_eq_true_iff.mpr ⟨a.able, q⟩, Nat.max_le.mpr ⟨a.deep, z⟩⟩
theorem sh_tup {n j m : Nat} {l : List PyData} (h : ∀ d ∈ l, Sh n j d) (hm : l.length * n + 2 * l.length + 3 ≤ m) : Sh m (j + 1) (.tuple l) := by
  obtain ⟨a, b, c⟩ := sh_all h
  refine ⟨?_, b, Nat.succ_le_succ c⟩
  have e := tupleText_len_le (PyData.shownAll l)
  rw [PyData.shownAll_length] at e
  exact Nat.le_trans e (Nat.le_trans (Nat.add_le_add_right (Nat.add_le_add_right a _) 3) hm)
theorem sh_bool (b : Bool) : Sh 2000 0 (.bool b) := ⟨by cases b <;> decide +kernel, rfl, Nat.zero_le _⟩
theorem due_sh {r : Re Bool} (h : ∀ t s, r = .bad t s → PyData.strOk t = true ∧ t.length ≤ 100 ∧ s.natAbs ≤ 10000) : Sh 10000 1 (dueD r) := by
  cases r with
  | ok b => exact sh_tup (n := 2000) (two_all (sh_str (by decide +kernel) (by decide)) (sh_bool b)) (show 2 * 2000 + 2 * 2 + 3 ≤ 10000 by decide)
  | bad t s =>
    obtain ⟨h1, h2, h3⟩ := h t s rfl
    exact sh_tup (n := 2000) (List.forall_mem_cons.mpr ⟨sh_str (by decide +kernel) (by decide), two_all (sh_str h1 h2) (sh_int (Nat.le_trans h3 (by decide +kernel)))⟩) (show 3 * 2000 + 2 * 3 + 3 ≤ 10000 by decide)
theorem sh_arr : Sh 2000 10 arrD := ⟨by decide +kernel, by decide +kernel, by decide +kernel⟩
theorem app_len (x y : Str) : (x ++ y).length = x.length + y.length := by
  show (x.cps ++ y.cps).size = _
  rw [Array.size_append]; rfl
theorem pair_len {v : PyData} {n : Nat} (m : Nam) (hv : v.shown.length ≤ n) : (PyData.shown (.str m.str) ++ ": " ++ v.shown).length ≤ 2002 + n := by
  rw [app_len, app_len]
  exact Nat.add_le_add (Nat.add_le_add (sh_str (by cases m <;> decide +kernel) (by cases m <;> decide)).len (show (2 : Nat) ≤ 2 by decide)) hv
theorem sh_here {w : Int} {so : List Int} (hw : w.natAbs ≤ 2 ^ 200) (hs : so.length ≤ 12) (hi : ∀ i ∈ so, i.natAbs ≤ 10) : (here w so).showable = true ∧ (here w so).depth ≤ 64 ∧ (here w so).shown.length ≤ sizeLine := by
  have s1 := sh_int hw
  have s2 : Sh 30000 1 (intsD so) := sh_tup (n := 2000) (fun d hd => by
    obtain ⟨i, h, rfl⟩ := List.mem_map.mp hd
    exact sh_int (Nat.le_trans (hi i h) (by decide +kernel))) (by rw [List.length_map]; exact Nat.le_trans (Nat.add_le_add_right (Nat.add_le_add (Nat.mul_le_mul_right 2000 hs) (Nat.mul_le_mul_left 2 hs)) 3) (by decide))
  refine ⟨?_, ?_, ?_⟩
  · show ((PyData.int w).showable && (true && ((intsD so).showable && (arrD.showable && true)))) = true
    rw [s1.able, s2.able, sh_arr.able]; rfl
  · show max 0 (max (max 0 0) (max (intsD so).depth (max arrD.depth 0))) + 1 ≤ 64
    exact Nat.succ_le_succ (Nat.max_le.mpr ⟨Nat.zero_le 63, Nat.max_le.mpr ⟨Nat.zero_le 63, Nat.max_le.mpr ⟨Nat.le_trans s2.deep (by decide), Nat.max_le.mpr ⟨Nat.le_trans sh_arr.deep (by decide), Nat.zero_le 63⟩⟩⟩⟩)
  · have e := dictText_len_le (PyData.shownKv [(.str Nam.w.str, .int w), (.str Nam.b.str, .bool true), (.str Nam.s.str, intsD so), (.str Nam.r.str, arrD)])
    refine Nat.le_trans e (Nat.le_trans (Nat.add_le_add_right (Nat.add_le_add_right (Nat.add_le_add (pair_len .w s1.len) (Nat.add_le_add (pair_len .b (sh_bool true).len) (Nat.add_le_add (pair_len .s s2.len) (Nat.add_le_add (pair_len .r sh_arr.len) (Nat.le_refl 0))))) _) 3) ?_)
    show 2002 + 2000 + (2002 + 2000 + (2002 + 30000 + (2002 + 2000 + 0))) + 2 * 4 + 3 ≤ 2 ^ 24
    decide
section
variable {w : Int} {so : List Int} {d : PyData} {ra rb r : Re Rv} {s : Int}
theorem seq_len {α : Type} {rs : List (Re α)} {vs : List α} (h : seqR rs = .ok vs) : vs.length = rs.length := by
  cases seq_c rs with
  | ok us e q f => rw [h] at q; cases q; rw [e, List.length_map]
  | bad t s r f q => rw [h] at q; cases q
theorem set_sm {rs : List (Re Rv)} (hl : rs.length ≤ 12) : SmR (numsR s rs finSet) := by
  unfold numsR
  cases h : seqR rs with
  | bad t z => trivial
  | ok vs =>
    show SmR ((seqR (vs.map fun v => cnt s v .ok)).bind finSet)
    cases q : seqR (vs.map fun v => cnt s v .ok) with
    | bad t z => trivial
    | ok ns =>
      show ns.length ≤ 12
      rw [seq_len q, List.length_map, seq_len h]; exact hl
theorem lf_sm (S : Sc w so) (h : Lf w so d r) : SmR r := by
  cases h with
  | name hs m => cases m <;> first | trivial | exact S.so
  | _ => trivial
theorem lt_sm (S : Sc w so) (h : Lt w so d r) : SmR r := by
  cases h with
  | lf h => exact lf_sm S h
  | set hs hp hl => exact set_sm (by rw [List.length_map]; exact Nat.le_trans hl (by decide))
  | rng => trivial
theorem ends_ok (hs : s.natAbs ≤ 10000) (ha : Ok ra) (hb : Ok rb) : Ok (endsR s ra rb) := bind_ok ha fun u => bind_ok hb fun v => cnt_ok hs fun i => cnt_ok hs fun j => trivial
theorem un2_ok (hs : s.natAbs ≤ 10000) (g : Sg) (u v : Rv) : Ok (un2 s g u v) := by
  cases u with
  | set x =>
    cases x with
    | op => exact ok_set hs
    | lo x =>
      cases v with
      | set y => cases y <;> first | trivial | exact ok_set hs
      | _ => exact ok_set hs
  | _ => exact ok_set hs
theorem rt_ok (h : Rt w so d r) : Ok r := by
  cases h with
  | lt h => exact lt_ok h
  | rng hs ha hb => exact ends_ok hs (en_ok ha) (en_ok hb)
  | un g hs ha hb => exact bind_ok (lt_ok ha) fun u => bind_ok (lt_ok hb) fun v => un2_ok hs g u v
theorem rt_sm (S : Sc w so) (h : Rt w so d r) : SmR r := by
  cases h with
  | lt h => exact lt_sm S h
  | @rng s a b ra rb hs ha hb =>
    cases pair_c s ra rb with
    | bad t z e q => rw [q]; trivial
    | ok i j e q => rw [q]; trivial
  | @un s g a b ra rb hs ha hb =>
    cases ra with
    | bad t z => trivial
    | ok u =>
      cases rb with
      | bad t z => trivial
      | ok v =>
        have x1 := lt_sm S ha
        have x2 := lt_sm S hb
        show SmR (un2 s g u v)
        cases u with
        | set x =>
          cases x with
          | op => trivial
          | lo x =>
            cases v with
            | set y =>
              cases y with
              | op => trivial
              | lo y => exact ⟨x1, x2⟩
            | _ => trivial
        | _ => trivial
theorem due_ok (hs : s.natAbs ≤ 10000) (ha : Ok ra) (hb : Ok rb) : ∀ t z, dueR s ra rb = .bad t z → PyData.strOk t = true ∧ t.length ≤ 100 ∧ z.natAbs ≤ 10000 := by
  intro t z e
  cases ra with
  | bad t' z' => cases e; exact ha
  | ok u =>
    cases rb with
    | bad t' z' => cases e; exact hb
    | ok v =>
      have e : (cnt s u fun i => lot s v fun x => Re.ok (x.holds i)) = .bad t z := e
      rcases cnt_c s u with ⟨i, h⟩ | h
      · rw [h] at e
        cases v with
        | set x => cases e
        | _ => cases e; exact ok_set hs
      · rw [h] at e; cases e; exact ok_num hs
theorem not_ok {r : Re Bool} (h : ∀ t z, r = .bad t z → PyData.strOk t = true ∧ t.length ≤ 100 ∧ z.natAbs ≤ 10000) : ∀ t z, notR r = .bad t z → PyData.strOk t = true ∧ t.length ≤ 100 ∧ z.natAbs ≤ 10000 := by
  intro t z e
  cases r with
  | ok b => cases e
  | bad t' z' => cases e; exact h _ _ rfl
end
/-! ONE TURN OF THE LAW -/
noncomputable def forB : Option Mine.S → List Mine.S
  | some (.for _ _ b) => b
  | _ => []
noncomputable def hOf : Option Mine.S → List (Bool × Option Nat × List Mine.S)
  | some (.try _ h) => h
  | _ => []
noncomputable abbrev bT : List Mine.S := forB fn26.body[6]?
noncomputable abbrev f26 (a0 : Loc) (w : Int) (so : List Int) (kept : Str) (a6 a7 a8 a9 a11 a12 a13 : Option Loc) : Fm :=
  [some a0, some r1, some (pv (.list (so.map .int))), some (iv w), some (pv (scope w so)), some (pv (.str kept)), a6, a7, a8, a9, some (pv (here w so)), a11, a12, a13, none, none, none, none, none, none, none, none, none, none, none, none]
noncomputable abbrev lam26 (m : Fm) : Loc := .lam (.meth 27 (.new (.v 10)) [.tup [.c tUn, .c (.int 0), .c tNot, .tup [.c tBin, .v 13, .c tIn, .v 11, .v 12]]]) (snap [10, 11, 12, 13] 0 m)
section
variable {w : Int} {so : List Int} {cs : List Int} {k sp s : Int} {row : List Int} {b c : Nat} {l r : PyData} {ra rb : Re Rv} {K : KV} {KN : KS} {E : KE} {G H : CallS} {σ : Hp} {a0 : Loc} {kept : Str} {a6 a7 a8 a9 a11 a12 a13 : Option Loc}
theorem reprK {d : PyData} (s : d.showable = true ∧ d.depth ≤ 64 ∧ d.shown.length ≤ sizeLine) (h : K (.pd (.str d.shown)) σ) : evPrim .repr [.pd d] σ K := need_i rfl (whenL_i s h)
theorem nsb (t : Str) : evOp .ne (.pd (.str t)) (.pd (.str t)) σ = some (.bool false) := by
  have : sb t t = true := beq_self_eq_true _
  show some (PyData.bool (!sb t t)) = _
  rw [this]; rfl
theorem sh_ok {d : PyData} (h : Sh 10000 1 d) : d.showable = true ∧ d.depth ≤ 64 ∧ d.shown.length ≤ sizeLine := ⟨h.able, Nat.le_trans h.deep (by decide), Nat.le_trans h.len (by rw [sz]; decide)⟩
theorem heard (S : Sc w so) (lv : Lv 20 G) (hl : En w so l ra) (hr : Rt w so r rb) (h : K (.pd (dueD (notR (dueR s ra rb)))) σ) : G 25 [lam26 (f26 a0 w so kept a6 a7 a8 a9 (some (pv l)) (some (pv r)) (some (iv s)))] σ K E := by
  obtain ⟨n, hn, rfl⟩ := lv
  obtain ⟨n, rfl⟩ := Nat.exists_eq_add_of_le' (Nat.le_trans (show 2 ≤ 20 by decide) hn)
  have hn : 18 ≤ n := by omega
  refine up_at (n + 1) 24 _ _ _ _ (Eq.mpr (by kernel_rfl : _ = G1 (n + 1) 0 [lam26 (f26 a0 w so kept a6 a7 a8 a9 (some (pv l)) (some (pv r)) (some (iv s)))] σ (fun v σ => tk [.pd tTold, v] fun d => K (.pd d) σ) (fun e σ => evH (G1 (n + 1)) gc1 (hOf fn25.body[0]?) e [some (lam26 (f26 a0 w so kept a6 a7 a8 a9 (some (pv l)) (some (pv r)) (some (iv s)))), none, none, none] σ (retK K) E)) ?_)
  refine Eq.mpr (by kernel_rfl : _ = G1 n 27 [se w so, pv (.tuple [tUn, .int 0, tNot, .tuple [tBin, .int s, tIn, l, r]])] σ (fun v σ => tk [.pd tTold, v] fun d => K (.pd d) σ) (fun e σ => evH (G1 (n + 1)) gc1 (hOf fn25.body[0]?) e [some (lam26 (f26 a0 w so kept a6 a7 a8 a9 (some (pv l)) (some (pv r)) (some (iv s)))), none, none, none] σ (retK K) E)) ?_
  refine not_i S ⟨n, Nat.le_trans (by decide) hn, rfl⟩ hl hr ?_
  cases q : notR (dueR s ra rb) with
  | ok b => rw [q] at h; exact tk_i (P := fun d => K (.pd d) σ) (l := [.pd tTold, .pd (.bool b)]) rfl (show 2 ≤ 100 by decide) h
  | bad t z => rw [q] at h; exact Eq.mpr (by kernel_rfl) h
theorem turn_end (hk : kept = (here w so).shown) (S2 : (here w so).showable = true ∧ (here w so).depth ≤ 64 ∧ (here w so).shown.length ≤ sizeLine) {q : Re Bool} (sh : Sh 10000 1 (dueD (notR q))) (h : KN .next (f26 a0 w so kept a6 (some (pv (dueD q))) (some (pv (dueD (notR q)))) a9 a11 a12 a13) σ) :
    evSs G gc1 (bT.drop 7) (f26 a0 w so kept a6 (some (pv (dueD q))) (some (pv (dueD (notR q)))) a9 a11 a12 a13) σ KN E := by
  refine Eq.mpr (by cases q <;> kernel_rfl : _ = evPrim .repr [.pd (dueD (notR q))] σ (fun t σ => evPrim .repr [.pd (dueD (notR q))] σ (fun u σ => need (evOp .ne t u σ) fun x1 => truth (.pd x1) fun z => brn z (truth (.pd x1) fun z => brn z (KN (.ret (.pd (.bool false))) (f26 a0 w so kept a6 (some (pv (dueD q))) (some (pv (dueD (notR q)))) a9 a11 a12 a13) σ) (KN .next (f26 a0 w so kept a6 (some (pv (dueD q))) (some (pv (dueD (notR q)))) a9 a11 a12 a13) σ))
    (evPrim .repr [.pd (here w so)] σ (fun t σ => need (evOp .ne t (.pd (.str kept)) σ) fun x1 => truth (.pd x1) fun z => brn z (KN (.ret (.pd (.bool false))) (f26 a0 w so kept a6 (some (pv (dueD q))) (some (pv (dueD (notR q)))) a9 a11 a12 a13) σ) (KN .next (f26 a0 w so kept a6 (some (pv (dueD q))) (some (pv (dueD (notR q)))) a9 a11 a12 a13) σ)))))) ?_
  refine reprK (sh_ok sh) (reprK (K := fun u σ => need (evOp .ne (.pd (.str (dueD (notR q)).shown)) u σ) _) (sh_ok sh) (need_i (nsb _) (need_i rfl (brn_f rfl ?_))))
  refine reprK (K := fun t σ => need (evOp .ne t (.pd (.str kept)) σ) _) S2 ?_
  rw [hk] at h ⊢
  exact need_i (nsb _) (need_i rfl (brn_f rfl h))
/-- one turn -/
theorem turn (S : Sc w so) (hk : kept = (here w so).shown) (S2 : (here w so).showable = true ∧ (here w so).depth ≤ 64 ∧ (here w so).shown.length ≤ sizeLine) (lv : Lv 30 G) (q : Bd cs k sp row (b + 101))
    (h : ∀ k' sp' row' a7 a8 a9 a11 a12 a13, Bd cs k' sp' row' b → KN .next (f26 a0 w so kept a6 a7 a8 a9 a11 a12 a13) (hp cs k' sp' row')) : evSs G gc1 bT (f26 a0 w so kept a6 a7 a8 a9 a11 a12 a13) (hp cs k sp row) KN E := by
  obtain ⟨H, l1, u⟩ := lv.dn
  refine Eq.mpr (by kernel_rfl : _ = G 19 [r1] (hp cs k sp row) (fun r σ => G 20 [r1] σ (fun l σ => G 14 [r1] σ (fun s σ => G 24 [.v l, .v r, pv (scope w so), .v s] σ (fun d σ => evSs G gc1 (bT.drop 4) (f26 a0 w so kept a6 (some (.v d)) a8 a9 (some (.v l)) (some (.v r)) (some (.v s))) σ KN E) E) E) E) E) ?_
  refine right_i S (lv.le (by decide)) (b := b + 11) q fun r rb k1 sp1 row1 hr q1 => left_i S (lv.le (by decide)) (b := b + 1) q1 fun l ra k2 sp2 row2 hl q2 => spot u q2 fun q3 => ?_
  have hs := q3.sp6
  refine due_i (lv.le (by decide)) (fun G l => tl_en hl G (l.le (by decide))) (tl_rt hr) (rt_sm S hr) ?_
  have dok := due_ok hs (en_ok hl) (rt_ok hr)
  have s1 := due_sh dok
  have s2 := due_sh (not_ok dok)
  refine Eq.mpr (by kernel_rfl : _ = G 31 [se w so, pv tIn, pv l, pv r, iv (sp2 + 1)] (hp cs k2 (sp2 + 1) row2) (fun v σ => tk [.pd tTold, v] fun d => evSs G gc1 (bT.drop 5) (f26 a0 w so kept a6 (some (pv (dueD (dueR (sp2 + 1) ra rb)))) (some (pv d)) a9 (some (pv l)) (some (pv r)) (some (iv (sp2 + 1)))) σ KN E)
    (fun e σ => evH G gc1 (hOf bT[4]?) e (f26 a0 w so kept a6 (some (pv (dueD (dueR (sp2 + 1) ra rb)))) a8 a9 (some (pv l)) (some (pv r)) (some (iv (sp2 + 1)))) σ (seqK G (bT.drop 5) KN E) E)) ?_
  have fin : ∀ a9, evSs G gc1 (bT.drop 5) (f26 a0 w so kept a6 (some (pv (dueD (dueR (sp2 + 1) ra rb)))) (some (pv (dueD (dueR (sp2 + 1) ra rb)))) a9 (some (pv l)) (some (pv r)) (some (iv (sp2 + 1)))) (hp cs k2 (sp2 + 1) row2) KN E := fun a9 => by
    refine Eq.mpr (by kernel_rfl : _ = evPrim .repr [.pd (dueD (dueR (sp2 + 1) ra rb))] (hp cs k2 (sp2 + 1) row2) (fun t σ => evPrim .repr [.pd (dueD (dueR (sp2 + 1) ra rb))] σ (fun u σ => need (evOp .ne t u σ) fun x => truth (.pd x) fun z => brn z (KN (.ret (.pd (.bool false))) (f26 a0 w so kept a6 (some (pv (dueD (dueR (sp2 + 1) ra rb)))) (some (pv (dueD (dueR (sp2 + 1) ra rb)))) a9 (some (pv l)) (some (pv r)) (some (iv (sp2 + 1)))) σ)
      (G 25 [lam26 (f26 a0 w so kept a6 (some (pv (dueD (dueR (sp2 + 1) ra rb)))) (some (pv (dueD (dueR (sp2 + 1) ra rb)))) a9 (some (pv l)) (some (pv r)) (some (iv (sp2 + 1))))] σ (fun v σ => evSs G gc1 (bT.drop 7) (f26 a0 w so kept a6 (some (pv (dueD (dueR (sp2 + 1) ra rb)))) (some (.v v)) a9 (some (pv l)) (some (pv r)) (some (iv (sp2 + 1)))) σ KN E) E)))) ?_
    refine reprK (sh_ok s1) (reprK (K := fun u σ => need (evOp .ne (.pd (.str (dueD (dueR (sp2 + 1) ra rb)).shown)) u σ) _) (sh_ok s1) (need_i (nsb _) (need_i rfl (brn_f rfl ?_))))
    exact heard S (lv.le (by decide)) hl hr (turn_end hk S2 s2 (h _ _ _ _ _ _ _ _ _ q3))
  refine in_i S (lv.le (by decide)) hl hr ?_
  generalize hq : dueR (sp2 + 1) ra rb = q at fin
  cases q with
  | ok z => exact tk_i (P := fun d => evSs G gc1 (bT.drop 5) (f26 a0 w so kept a6 (some (pv (dueD (.ok z)))) (some (pv d)) a9 (some (pv l)) (some (pv r)) (some (iv (sp2 + 1)))) (hp cs k2 (sp2 + 1) row2) KN E) (l := [.pd tTold, .pd (.bool z)]) rfl (show 2 ≤ 100 by decide) (fin a9)
  | bad t z => exact Eq.mpr (by kernel_rfl) (fin none)
end
section
variable {w : Int} {so : List Int} {cs : List Int} {k sp s : Int} {row : List Int} {b c : Nat} {K : KV} {KN : KS} {E : KE} {G H : CallS} {σ : Hp} {a0 : Loc} {kept : Str}
theorem cut_ints (l : List Int) (hl : l.length ≤ 63) : ∃ cs : List Int, evCut [] (.pd (.list (l.map .int))) none (some 60) = some (.list (cs.map .int)) ∧ cs.length ≤ 60 := by
  refine ⟨l.take (clipAt (l.map PyData.int).length 60), (congrArg (fun o => alt o _) (gd_i (by rw [List.length_map]; exact Nat.le_trans hl (by decide)))).trans ?_, ?_⟩
  · unfold cut
    simp only [Option.elim, List.drop_zero, Nat.sub_zero, List.map_take]
    rfl
  · rw [List.length_take, List.length_map]
    exact Nat.le_trans (Nat.min_le_left _ _) (Int.ofNat_le.mp (by rw [clipAt_cast]; exact Int.max_le.mpr ⟨by decide, Int.min_le_left _ _⟩))
/-- the numbers that are drawn into the scope's set -/
theorem some_i (X : Up H G) {m : Fm} (hm : locV m 1 = some (.ref 1)) {KK : List PyData → Hp → Prop} : ∀ (items acc : List Int) (k : Int), (∀ i ∈ acc, i.natAbs ≤ 10) → (∀ i ∈ items, i.natAbs ≤ 10) → acc.length + items.length ≤ 12 → Bd cs k sp row (b + items.length) →
    (∀ (so : List Int) k', (∀ i ∈ so, i.natAbs ≤ 10) → so.length ≤ 12 → Bd cs k' sp row b → KK (so.map .int) (hp cs k' sp row)) →
    compN (turnC G m (.w 1) (some (.op .eq (.call 13 [.v 1, .c (.int 2)]) (.c (.int 0)))) E) (fun _ k => k) KK (items.map .int) (acc.map .int) (hp cs k sp row)
  | [], acc, k, ha, hi, hl, q, h => h acc k ha hl q
  | i :: r, acc, k, ha, hi, hl, q, h => by
    rw [List.length_cons] at hl
    obtain ⟨h1, h2⟩ := List.forall_mem_cons.mp hi
    refine when_i (by rw [List.length_map, sz]; exact Nat.le_trans (Nat.le_trans (Nat.le_add_right _ _) hl) (by decide)) ?_
    show need (locV m 1) _
    refine need_i hm (draw X (by decide) (b := b + r.length) (q.le (by rw [List.length_cons]; omega)) fun d d0 d1 q' => ?_)
    refine Eq.mpr (by kernel_rfl : _ = brn (d == 0) (compN (turnC G m (.w 1) (some (.op .eq (.call 13 [.v 1, .c (.int 2)]) (.c (.int 0)))) E) (fun _ k => k) KK (r.map .int) (acc.map .int ++ [.int i]) (hp cs (k + 1) sp row)) (compN (turnC G m (.w 1) (some (.op .eq (.call 13 [.v 1, .c (.int 2)]) (.c (.int 0)))) E) (fun _ k => k) KK (r.map .int) (acc.map .int ++ []) (hp cs (k + 1) sp row))) ?_
    cases d == 0 with
    | true =>
      have e : acc.map PyData.int ++ [.int i] = (acc ++ [i]).map .int := by rw [List.map_append]; rfl
      show compN _ _ KK (r.map .int) (acc.map .int ++ [.int i]) _
      rw [e]
      refine some_i X hm r (acc ++ [i]) (k + 1) (fun j hj => ?_) h2 (by rw [List.length_append]; exact len1 hl) q' h
      rcases List.mem_append.mp hj with hj | hj
      · exact ha j hj
      · rw [List.mem_singleton.mp hj]; exact h1
    | false =>
      show compN _ _ KK (r.map .int) (acc.map .int ++ []) _
      rw [List.append_nil]
      exact some_i X hm r acc (k + 1) ha h2 (by omega) q' h
noncomputable abbrev TW (G : CallS) (E : KE) : PyData → Fm → Hp → KS → Prop := fun d m' σ' k => need (tgFm m' (.n 6) d) fun m'' => evSs G gc1 bT m'' σ' k E
theorem loop_i (S : Sc w so) (hk : kept = (here w so).shown) (S2 : (here w so).showable = true ∧ (here w so).depth ≤ 64 ∧ (here w so).shown.length ≤ sizeLine) (lv : Lv 30 G) : ∀ (items : List PyData) (a6 a7 a8 a9 a11 a12 a13 : Option Loc) (k sp : Int) (row : List Int), Bd cs k sp row (b + 101 * items.length) →
    (∀ k' sp' row' a6 a7 a8 a9 a11 a12 a13, KN .next (f26 a0 w so kept a6 a7 a8 a9 a11 a12 a13) (hp cs k' sp' row')) → forN (TW G E) (fun _ k => k) KN items (f26 a0 w so kept a6 a7 a8 a9 a11 a12 a13) (hp cs k sp row)
  | [], a6, a7, a8, a9, a11, a12, a13, k, sp, row, q, h => h _ _ _ _ _ _ _ _ _ _
  | d :: r, a6, a7, a8, a9, a11, a12, a13, k, sp, row, q, h =>
    turn (a6 := some (pv d)) S hk S2 lv (b := b + 101 * r.length) (q.le (by rw [List.length_cons]; omega)) fun k' sp' row' a7 a8 a9 a11 a12 a13 q' => loop_i S hk S2 lv r _ _ _ _ _ _ _ _ _ _ q' h
noncomputable abbrev m26 (a0 : Loc) (a1 a2 a3 : Option Loc) : Fm := [some a0, a1, a2, a3, none, none, none, none, none, none, none, none, none, none, none, none, none, none, none, none, none, none, none, none, none, none]
noncomputable abbrev bL : List Mine.S := fn26.body
theorem aa1 {l : List Int} : stp G 26 [pv (.list (l.map .int))] [] K E = evX G gc1 (m26 (pv (.list (l.map .int))) none none none) [] (.comp false (.op .mod (.prim .int [.w 1]) (.c (.int 1000003))) (.n 1) (.slice (.v 0) none (some 60)) none) []
    (fun v σ => evKs G gc1 (m26 (pv (.list (l.map .int))) none none none) [] [(⟨#[107]⟩, .c (.int 0)), (⟨#[115,112,111,116]⟩, .c (.int 0)), (⟨#[114,111,119]⟩, .lst true [.c (.int 0)])] σ (fun vs σ' => when (nodupK (((⟨#[99,101,108,108,115]⟩, v) :: vs).map (·.1)) = true) (evSs G gc1 (bL.drop 1) (m26 (pv (.list (l.map .int))) (some (.v (.ref σ'.length))) none none) (σ' ++ [.dict ((⟨#[99,101,108,108,115]⟩, v) :: vs)]) (retK K) E)) E) E := by kernel_rfl
theorem aa2 {m1 : Loc} {cs : List Int} : evKs G gc1 (m26 m1 none none none) [] [(⟨#[107]⟩, .c (.int 0)), (⟨#[115,112,111,116]⟩, .c (.int 0)), (⟨#[114,111,119]⟩, .lst true [.c (.int 0)])] [] (fun vs σ' => when (nodupK (((⟨#[99,101,108,108,115]⟩, .pd (.list (cs.map .int))) :: vs).map (·.1)) = true) (evSs G gc1 (bL.drop 1) (m26 m1 (some (.v (.ref σ'.length))) none none) (σ' ++ [.dict ((⟨#[99,101,108,108,115]⟩, .pd (.list (cs.map .int))) :: vs)]) (retK K) E)) E = compN (turnC G (m26 m1 (some r1) none none) (.w 1) (some (.op .eq (.call 13 [.v 1, .c (.int 2)]) (.c (.int 0)))) E) (fun _ k => k) (fun ds σ => when (ds.length ≤ sizeLine) (evSs G gc1 (bL.drop 2) (m26 m1 (some r1) (some (pv (.list ds))) none) σ (retK K) E)) (([-2, -1, 0, 1, 2, 3] : List Int).map .int) (([] : List Int).map .int) (hp cs 0 0 [0]) := by kernel_rfl
theorem aa3 {m1 : Loc} {row : List Int} : evSs G gc1 (bL.drop 2) (m26 m1 (some r1) (some (pv (.list (so.map .int)))) none) (hp cs k sp row) KN E = G 15 [r1] (hp cs k sp row) (fun v σ => evSs G gc1 (bL.drop 3) (m26 m1 (some r1) (some (pv (.list (so.map .int)))) (some (.v v))) σ KN E) E := by kernel_rfl
theorem aa4 {m1 : Loc} {row : List Int} : evSs G gc1 (bL.drop 3) (m26 m1 (some r1) (some (pv (.list (so.map .int)))) (some (iv w))) (hp cs k sp row) KN E = when ((so.map PyData.int).length ≤ sizeLine) (evPrim .repr [.pd (here w so)] (hp cs k sp row) (fun t σ => evSs G gc1 (bL.drop 6) [some m1, some r1, some (pv (.list (so.map .int))), some (iv w), some (pv (scope w so)), some (.v t), none, none, none, none, some (pv (here w so)), none, none, none, none, none, none, none, none, none, none, none, none, none, none, none] σ KN E)) := by kernel_rfl
theorem aa6 {m1 : Loc} {row : List Int} {a6 a7 a8 a9 a11 a12 a13 : Option Loc} : (fun (f : Fl) (m' : Fm) (σ' : Hp) => match f with
  | .next => evSs G gc1 (bL.drop 7) m' σ' (retK K) E
  | f => retK K f m' σ') .next (f26 m1 w so kept a6 a7 a8 a9 a11 a12 a13) (hp cs k sp row) = K (.pd (.bool true)) (hp cs k sp row) := by kernel_rfl
theorem bd_0 (cl : cs.length ≤ 60) : Bd cs 0 0 [0] 4999 := ⟨cl, Int.le_refl _, by decide, Int.le_refl _, by decide, by simp, by decide, fun i hi => by rw [List.mem_singleton.mp hi]; decide +kernel⟩
theorem for_gen {gc : Nat → PyData} {b rest : List Mine.S} {m : Fm} : evSs G gc (.for (.n 6) (.prim .range [.c (.int 10)]) b :: rest) m σ KN E = forN (fun d m' σ' k => need (tgFm m' (.n 6) d) fun m'' => evSs G gc b m'' σ' k E) (fun _ k => k) (fun f m' σ' => match f with
  | .next => evSs G gc rest m' σ' KN E
  | f => KN f m' σ') (([0, 1, 2, 3, 4, 5, 6, 7, 8, 9] : List Int).map .int) m σ := by kernel_rfl
theorem drop6 : bL.drop 6 = .for (.n 6) (.prim .range [.c (.int 10)]) bT :: bL.drop 7 := by kernel_rfl
theorem law_main (l : List Int) (hl : l.length ≤ 63) (lv : Lv 40 G) (h : ∀ σ, K (.pd (.bool true)) σ) : stp G 26 [pv (.list (l.map .int))] [] K E := by
  obtain ⟨H, l1, u⟩ := lv.dn
  obtain ⟨cs0, hc, cl⟩ := cut_ints l hl
  refine Eq.mpr aa1 ?_
  refine cmp_i (d := .list (cs0.map .int)) (fun K' => ?_) rfl (cmp_pure (R := fun i => [.int (Int.emod i 1000003)]) cs0 [] (fun i _ k h => Eq.mpr (by kernel_rfl) h) ?_ ?_)
  · show need (evCut [] (.pd (.list (l.map .int))) none (some 60)) _ = _
    rw [hc]; rfl
  · rw [fm_one, List.length_nil, Nat.zero_add, List.length_map, sz]; exact Nat.le_trans cl (by decide)
  · rw [fm_one, List.nil_append]
    have e : cs0.map (fun i => PyData.int (Int.emod i 1000003)) = (cs0.map fun i => Int.emod i 1000003).map .int := by rw [List.map_map]; rfl
    rw [e]
    have cl : (cs0.map fun i => Int.emod i 1000003).length ≤ 60 := by rw [List.length_map]; exact cl
    generalize (cs0.map fun i => Int.emod i 1000003) = cs at cl
    refine when_i (by rw [List.length_map, sz]; exact Nat.le_trans cl (by decide)) (Eq.mpr aa2 ?_)
    refine some_i u rfl [-2, -1, 0, 1, 2, 3] [] 0 (fun i h => nomatch h) (by decide) (by decide) (b := 4993) (bd_0 cl) fun so k1 hso hsl q1 => ?_
    refine when_i (by rw [List.length_map, sz]; exact Nat.le_trans hsl (by decide)) (Eq.mpr aa3 ?_)
    refine number_i (lv.le (by decide)) (b := 4988) q1 fun w k2 q2 => ?_
    have hw : w.natAbs ≤ 2 ^ 200 := Nat.le_trans (q2.small (List.mem_append_right _ (List.mem_singleton.mpr rfl))) (by decide +kernel)
    have S2 := sh_here hw hsl hso
    refine Eq.mpr aa4 (when_i (by rw [List.length_map, sz]; exact Nat.le_trans hsl (by decide)) (reprK S2 ?_))
    rw [drop6]
    refine Eq.mpr for_gen (loop_i (b := 0) ⟨hw, hsl⟩ rfl S2 (lv.le (by decide)) _ none none none none none none none k2 0 _ (q2.le (by decide)) fun k' sp' row' a6 a7 a8 a9 a11 a12 a13 => ?_)
    exact Eq.mpr aa6 (h _)
end
theorem law2n (n : Nat) (hn : 40 ≤ n) (l : List Int) (hl : l.length ≤ 63) : callN tab1 gc1 (n + 1) 26 [.v (.pd (.list (l.map .int)))] [] (fun v _ => v = .pd (.bool true)) (fun _ _ => False) :=
  up_at n 25 _ _ _ _ (law_main l hl ⟨n, hn, rfl⟩ fun _ => rfl)
theorem law2 : ∀ l : List Int, l.length ≤ 63 → callN tab1 gc1 500 26 [.v (.pd (.list (l.map .int)))] [] (fun v _ => v = .pd (.bool true)) (fun _ _ => False) := law2n 499 (by decide)
end Mine.Pl
open PySem PySem.W PyProof.Rows
namespace Mine
theorem prom1 : rw.row.toRowW.promised := by w_witness
end Mine
theorem PySem.Challenge.cw_pq0379_02_holds : PySem.Challenge.rw_pq0379_02.Holds :=
  Mine.holds_of (Mine.walk1 Mine.Pl.law2) Mine.prom1
