/- The tables and the entries of the law FnExactIsBeginning and FnExactIsAmong, and what the evaluator says of each function that it reaches. -/
import Derived.Test.YtijelhbbkjjciaaEv3
import Derived.Test.YtijelhbbkjjciaaChecked
import Derived.KernelRfl
set_option linter.unusedVariables false
set_option linter.unusedSimpArgs false
namespace Go.Proofs.Ytijelhbbkjjciaa.Sm
open Go Go.Evr
def tt : List (Option Ty) := [
  none,
  some .ref,
  some (.int .i64),
  some (.int .i64),
  some .bool,
  some (.int .u8),
  some (.int .u8),
  some (.st (.pair (.int .i64) (.pair (.int .i64) (.pair .bool (.pair (.int .u8) .unit))))),
  some (.st (.pair (.int .i64) (.pair (.int .i64) (.pair .bool (.pair (.int .u8) .unit))))),
  some .str,
  some .str,
  some .str,
  some (.int .u64),
  none,
  none,
  some .ref,
  some .ref,
  some .ref,
  none,
  none,
  none,
  some (.int .i32),
  some (.sl (.int .u8)),
  some (.st (.pair (.int .i64) (.pair .str .unit))),
  some (.st (.pair (.int .i64) (.pair .str .unit))),
  some .ref,
  some .ref,
  some .ref,
  some .ref,
  some .ref,
  some (.st (.pair (.int .i64) (.pair (.sl (.int .u8)) .unit))),
  some (.st (.pair (.int .i64) (.pair (.sl (.int .u8)) .unit))),
  some .ref,
  some .ref,
  some .ref,
  some .ref,
  some (.sl (.st (.pair (.int .i64) (.pair .bool (.pair (.sl (.int .u8)) .unit))))),
  some .ref,
  some .ref,
  some (.sl (.st (.pair (.int .i64) (.pair .bool (.pair (.sl (.int .u8)) .unit))))),
  some .ref,
  some .ref,
  some (.sl .str),
  some (.st (.pair (.int .i64) (.pair (.sl .str) .unit))),
  some (.st (.pair (.int .i64) (.pair (.sl .str) .unit))),
  some .ref,
  some .ref,
  some .ref,
  some (.st (.pair (.int .i64) (.pair (.sl (.st (.pair (.int .i64) (.pair .bool (.pair (.sl (.int .u8)) .unit))))) .unit))),
  some (.st (.pair (.int .i64) (.pair (.sl (.st (.pair (.int .i64) (.pair .bool (.pair (.sl (.int .u8)) .unit))))) .unit))),
  some .ref,
  some .ref,
  some .ref,
  some .ref,
  some .ref,
  some .ref,
  some .ref,
  some .ref,
  some (.int .u64),
  some .ref,
  some .ref,
  some (.st (.pair (.int .i64) (.pair .bool (.pair (.sl (.int .u8)) .unit)))),
  some (.st (.pair (.int .i64) (.pair .bool (.pair (.sl (.int .u8)) .unit)))),
  some (.st (.pair (.int .i64) (.pair .bool (.pair (.sl (.int .u8)) .unit)))),
  some .ref,
  some .ref,
  some .ref,
  some .ref,
  some .ref,
  some .ref,
  some .ref,
  some .ref,
  some .ref,
  some .ref,
  some .ref,
  some .ref,
  some .ref,
  some (.sl (.st (.pair (.int .i64) (.pair (.int .i64) .unit)))),
  some (.st (.pair (.int .i64) (.pair (.int .i64) .unit))),
  some (.st (.pair (.int .i64) (.pair (.int .i64) .unit))),
  some .ref,
  some .ref,
  some .ref,
  some .ref,
  none,
  none,
  none,
  none,
  none,
  some .ref,
  some (.int .u32),
  some (.int .u8),
  some (.int .u8),
  some .ref,
  some .ref,
  some (.int .i32),
  some (.int .i32),
  none,
  none,
  none]
def live : List (Nat × List (Nat × List Nat)) := [
  (10, [(3, [0, 3, 4])]),
  (13, [(4, [0, 1, 5])]),
  (14, [(5, [0, 2, 3, 4])]),
  (15, [(5, [0, 2, 3, 4])]),
  (19, [(5, [0, 1, 5])]),
  (21, [(3, [0, 3, 4])]),
  (23, [(4, [0, 1, 5])]),
  (29, [(2, [0, 1, 5])]),
  (31, [(5, [0, 2, 3, 4])]),
  (34, [(2, [0, 1, 5])]),
  (37, [(4, [0, 3, 4, 5])]),
  (38, [(3, [3, 7, 8, 9])]),
  (41, [(2, [0, 1, 5])]),
  (42, [(2, [0, 1, 5])]),
  (44, [(4, [0, 1, 5])]),
  (48, [(4, [3, 4, 5])]),
  (49, [(4, [0, 1, 5, 6, 14]), (16, [0, 9, 47, 48, 49])]),
  (51, [(4, [0, 1, 5])]),
  (52, [(2, [0, 1, 5])]),
  (53, [(2, [0, 1, 5])]),
  (54, [(3, [0, 3, 5, 6])]),
  (57, [(3, [3, 5, 8, 9, 10])]),
  (58, [(3, [0, 3, 4])]),
  (60, [(2, [0, 1, 5])]),
  (63, [(4, [1, 2, 15, 16, 17])]),
  (65, [(4, [0, 1, 12, 13])]),
  (66, [(4, [0, 1, 5, 6, 7])]),
  (67, [(4, [0, 3])]),
  (68, [(2, [0, 1, 7, 8])]),
  (70, [(3, [1, 5, 9, 10, 11])]),
  (73, [(3, [3, 7, 8, 9])])]
def E65 : Entry := { id := 66, fid := 65, ps := [.view (.sl (.int .u8)), .view (.sl (.int .u8))], rs := [.bool], hook := none }
def E62 : Entry := { id := 63, fid := 62, ps := [.view (.sl (.int .u8)), .view (.int .i64)], rs := [(.int .i64)], hook := none }
def E63 : Entry := { id := 64, fid := 63, ps := [.view (.sl (.st (.pair (.int .i64) (.pair .bool (.pair (.sl (.int .u8)) .unit))))), .view (.sl (.st (.pair (.int .i64) (.pair .bool (.pair (.sl (.int .u8)) .unit))))), .clo 64 0 0], rs := [.bool], hook := none }
def E64 : Entry := { id := 65, fid := 64, ps := [.view (.st (.pair (.int .i64) (.pair .bool (.pair (.sl (.int .u8)) .unit)))), .view (.st (.pair (.int .i64) (.pair .bool (.pair (.sl (.int .u8)) .unit))))], rs := [.bool], hook := none }
def E10 : Entry := { id := 11, fid := 10, ps := [.view (.sl (.int .u8))], rs := [(.sl (.int .u8))], hook := none }
def E13 : Entry := { id := 14, fid := 13, ps := [.view (.sl (.int .u8)), .view (.sl (.int .u8))], rs := [.bool], hook := none }
def E43 : Entry := { id := 44, fid := 43, ps := [.view (.st (.pair (.int .i64) (.pair .bool (.pair (.sl (.int .u8)) .unit)))), .view (.int .i64)], rs := [(.int .i64)], hook := none }
def E44 : Entry := { id := 45, fid := 44, ps := [.view (.sl (.st (.pair (.int .i64) (.pair .bool (.pair (.sl (.int .u8)) .unit))))), .view (.sl (.st (.pair (.int .i64) (.pair .bool (.pair (.sl (.int .u8)) .unit)))))], rs := [.bool], hook := none }
def E46 : Entry := { id := 47, fid := 46, ps := [.view (.sl (.st (.pair (.int .i64) (.pair .bool (.pair (.sl (.int .u8)) .unit))))), .view (.sl (.st (.pair (.int .i64) (.pair .bool (.pair (.sl (.int .u8)) .unit)))))], rs := [.bool], hook := none }
def E45 : Entry := { id := 46, fid := 45, ps := [.view (.st (.pair (.int .i64) (.pair .bool (.pair (.sl (.int .u8)) .unit))))], rs := [(.st (.pair (.int .i64) (.pair .bool (.pair (.sl (.int .u8)) .unit))))], hook := none }
def E47 : Entry := { id := 48, fid := 47, ps := [.view (.st (.pair (.int .i64) (.pair .bool (.pair (.sl (.int .u8)) .unit)))), .view (.st (.pair (.int .i64) (.pair .bool (.pair (.sl (.int .u8)) .unit))))], rs := [.bool], hook := none }
def E19 : Entry := { id := 20, fid := 19, ps := [.view (.sl (.st (.pair (.int .i64) (.pair .bool (.pair (.sl (.int .u8)) .unit))))), .view (.int .i64)], rs := [(.int .i64)], hook := none }
def E20 : Entry := { id := 21, fid := 20, ps := [.view (.sl (.st (.pair (.int .i64) (.pair .bool (.pair (.sl (.int .u8)) .unit))))), .view (.sl (.st (.pair (.int .i64) (.pair .bool (.pair (.sl (.int .u8)) .unit)))))], rs := [.bool], hook := none }
def E22 : Entry := { id := 23, fid := 22, ps := [.view (.sl (.st (.pair (.int .i64) (.pair .bool (.pair (.sl (.int .u8)) .unit))))), .view (.sl (.st (.pair (.int .i64) (.pair .bool (.pair (.sl (.int .u8)) .unit)))))], rs := [.bool], hook := none }
def E21 : Entry := { id := 22, fid := 21, ps := [.view (.sl (.st (.pair (.int .i64) (.pair .bool (.pair (.sl (.int .u8)) .unit)))))], rs := [(.sl (.st (.pair (.int .i64) (.pair .bool (.pair (.sl (.int .u8)) .unit)))))], hook := none }
def E23 : Entry := { id := 24, fid := 23, ps := [.view (.sl (.st (.pair (.int .i64) (.pair .bool (.pair (.sl (.int .u8)) .unit))))), .view (.sl (.st (.pair (.int .i64) (.pair .bool (.pair (.sl (.int .u8)) .unit)))))], rs := [.bool], hook := none }
def E5 : Entry := { id := 6, fid := 5, ps := [.view (.sl (.st (.pair (.int .i64) (.pair .bool (.pair (.sl (.int .u8)) .unit))))), .view (.sl (.st (.pair (.int .i64) (.pair .bool (.pair (.sl (.int .u8)) .unit)))))], rs := [.bool], hook := none }
def E57 : Entry := { id := 58, fid := 57, ps := [.view (.sl (.st (.pair (.int .i64) (.pair .bool (.pair (.sl (.int .u8)) .unit))))), .view (.st (.pair (.int .i64) (.pair .bool (.pair (.sl (.int .u8)) .unit))))], rs := [(.int .i64)], hook := none }
def E68 : Entry := { id := 69, fid := 68, ps := [.view (.sl (.st (.pair (.int .i64) (.pair .bool (.pair (.sl (.int .u8)) .unit))))), .clo 56 0 2, .ro (.sl (.st (.pair (.int .i64) (.pair .bool (.pair (.sl (.int .u8)) .unit))))), .ro (.sl (.st (.pair (.int .i64) (.pair .bool (.pair (.sl (.int .u8)) .unit)))))], rs := [(.int .i64)], hook := none }
def E54 : Entry := { id := 55, fid := 54, ps := [.view (.sl (.st (.pair (.int .i64) (.pair .bool (.pair (.sl (.int .u8)) .unit))))), .view (.st (.pair (.int .i64) (.pair .bool (.pair (.sl (.int .u8)) .unit))))], rs := [(.int .i64)], hook := none }
def E56 : Entry := { id := 57, fid := 56, ps := [.view (.st (.pair (.int .i64) (.pair .bool (.pair (.sl (.int .u8)) .unit)))), .ro (.sl (.st (.pair (.int .i64) (.pair .bool (.pair (.sl (.int .u8)) .unit))))), .ro (.sl (.st (.pair (.int .i64) (.pair .bool (.pair (.sl (.int .u8)) .unit)))))], rs := [.bool], hook := none }
def E55 : Entry := { id := 56, fid := 55, ps := [.view (.sl (.st (.pair (.int .i64) (.pair .bool (.pair (.sl (.int .u8)) .unit))))), .clo 56 0 2, .ro (.sl (.st (.pair (.int .i64) (.pair .bool (.pair (.sl (.int .u8)) .unit))))), .ro (.sl (.st (.pair (.int .i64) (.pair .bool (.pair (.sl (.int .u8)) .unit)))))], rs := [.bool], hook := none }
def E29 : Entry := { id := 30, fid := 29, ps := [.view (.sl (.st (.pair (.int .i64) (.pair .bool (.pair (.sl (.int .u8)) .unit))))), .view (.sl (.st (.pair (.int .i64) (.pair .bool (.pair (.sl (.int .u8)) .unit)))))], rs := [.bool], hook := none }
def E30 : Entry := { id := 31, fid := 30, ps := [.view (.sl (.st (.pair (.int .i64) (.pair .bool (.pair (.sl (.int .u8)) .unit))))), .view (.sl (.st (.pair (.int .i64) (.pair .bool (.pair (.sl (.int .u8)) .unit)))))], rs := [.bool], hook := none }
def E7 : Entry := { id := 8, fid := 7, ps := [.view (.sl (.st (.pair (.int .i64) (.pair .bool (.pair (.sl (.int .u8)) .unit))))), .view (.sl (.st (.pair (.int .i64) (.pair .bool (.pair (.sl (.int .u8)) .unit)))))], rs := [.bool], hook := none }
def C : Ctx := { tt := tt, es := [E65, E62, E63, E64, E10, E13, E43, E44, E46, E45, E47, E19, E20, E22, E21, E23, E5, E57, E68, E54, E56, E55, E29, E30, E7], live := live }
theorem cok : CtxOk C Try.prog := ctx_ok (by kernel_rfl)
theorem eok : EntOk C Try.prog := ent_ok (by kernel_rfl) (by
  intro en hm h hh
  simp only [C, List.mem_cons, List.not_mem_nil, or_false] at hm
  rcases hm with rfl | rfl | rfl | rfl | rfl | rfl | rfl | rfl | rfl | rfl | rfl | rfl | rfl | rfl | rfl | rfl | rfl | rfl | rfl | rfl | rfl | rfl | rfl | rfl | rfl <;> cases hh)
theorem mix : Try.prog.follows .mixedOrders = true := by kernel_rfl
noncomputable def Fn (en : Entry) (x : (argT en.ps).den) : Option en.R := callE Try.prog (MM C Try.prog) en x
theorem fn_eq {en : Entry} {x : (argT en.ps).den} {r : Option en.R} (hh : en.hook = none) (hc : (codeOf Try.prog en).isSome = true)
    (h : body C Try.prog (MM C Try.prog) en (startOf Try.prog en) (entered en x (ntmpsOf Try.prog en)) = r) : Fn en x = r := fnC_eq hh hc h
noncomputable def fE65 (a0 : (List Int)) (a1 : (List Int)) : Option (Bool × Unit) := Fn E65 (a0, (a1, ()))
noncomputable def E65_L4 (x0 : (List Int)) (x1 : (List Int)) (x2 : Int) (x3 : Int) : Option (Bool × Unit) := MM C Try.prog E65 (loopAt Try.prog E65 4) ⟨slots 26 0 [(0, .isl none (.int .u8) x0), (1, .isl none (.int .u8) x1), (12, .int .i64 x2), (13, .int .i64 x3)], []⟩
noncomputable def fE62 (a0 : (List Int)) (a1 : Int) : Option (Int × Unit) := Fn E62 (a0, (a1, ()))
noncomputable def fE63 (a0 : (List (Int × (Bool × ((List Int) × Unit))))) (a1 : (List (Int × (Bool × ((List Int) × Unit))))) : Option (Bool × Unit) := Fn E63 (a0, (a1, ()))
noncomputable def E63_L4 (x0 : (List (Int × (Bool × ((List Int) × Unit))))) (x1 : (List (Int × (Bool × ((List Int) × Unit))))) (x2 : Int) (x3 : Int) : Option (Bool × Unit) := MM C Try.prog E63 (loopAt Try.prog E63 4) ⟨slots 32 0 [(1, .isl none (.st (.pair (.int .i64) (.pair .bool (.pair (.sl (.int .u8)) .unit)))) x0), (2, .clo 64 [] []), (15, .isl none (.st (.pair (.int .i64) (.pair .bool (.pair (.sl (.int .u8)) .unit)))) x1), (16, .int .i64 x2), (17, .int .i64 x3)], []⟩
noncomputable def fE64 (a0 : (Int × (Bool × ((List Int) × Unit)))) (a1 : (Int × (Bool × ((List Int) × Unit)))) : Option (Bool × Unit) := Fn E64 (a0, (a1, ()))
noncomputable def fE10 (a0 : (List Int)) : Option ((List Int) × Unit) := Fn E10 (a0, ())
noncomputable def E10_L3 (x0 : (List Int)) (x1 : Int) (x2 : (List Int)) : Option ((List Int) × Unit) := MM C Try.prog E10 (loopAt Try.prog E10 3) ⟨slots 22 0 [(0, .isl none (.int .u8) x0), (3, .fsl 0), (4, .int .i64 x1)], [some (.arr (.int .u8) x2 true true 0)]⟩
noncomputable def fE13 (a0 : (List Int)) (a1 : (List Int)) : Option (Bool × Unit) := Fn E13 (a0, (a1, ()))
noncomputable def E13_L4 (x0 : (List Int)) (x1 : (List Int)) (x2 : Int) : Option (Bool × Unit) := MM C Try.prog E13 (loopAt Try.prog E13 4) ⟨slots 26 0 [(0, .isl none (.int .u8) x0), (1, .isl none (.int .u8) x1), (5, .int .i64 x2)], []⟩
noncomputable def fE43 (a0 : (Int × (Bool × ((List Int) × Unit)))) (a1 : Int) : Option (Int × Unit) := Fn E43 (a0, (a1, ()))
noncomputable def fE44 (a0 : (List (Int × (Bool × ((List Int) × Unit))))) (a1 : (List (Int × (Bool × ((List Int) × Unit))))) : Option (Bool × Unit) := Fn E44 (a0, (a1, ()))
noncomputable def E44_L4 (x0 : (List (Int × (Bool × ((List Int) × Unit))))) (x1 : (List (Int × (Bool × ((List Int) × Unit))))) (x2 : Int) : Option (Bool × Unit) := MM C Try.prog E44 (loopAt Try.prog E44 4) ⟨slots 56 0 [(0, .isl none (.st (.pair (.int .i64) (.pair .bool (.pair (.sl (.int .u8)) .unit)))) x0), (1, .isl none (.st (.pair (.int .i64) (.pair .bool (.pair (.sl (.int .u8)) .unit)))) x1), (5, .int .i64 x2)], []⟩
noncomputable def fE46 (a0 : (List (Int × (Bool × ((List Int) × Unit))))) (a1 : (List (Int × (Bool × ((List Int) × Unit))))) : Option (Bool × Unit) := Fn E46 (a0, (a1, ()))
noncomputable def fE45 (a0 : (Int × (Bool × ((List Int) × Unit)))) : Option ((Int × (Bool × ((List Int) × Unit))) × Unit) := Fn E45 (a0, ())
noncomputable def fE47 (a0 : (Int × (Bool × ((List Int) × Unit)))) (a1 : (Int × (Bool × ((List Int) × Unit)))) : Option (Bool × Unit) := Fn E47 (a0, (a1, ()))
noncomputable def fE19 (a0 : (List (Int × (Bool × ((List Int) × Unit))))) (a1 : Int) : Option (Int × Unit) := Fn E19 (a0, (a1, ()))
noncomputable def E19_L5 (x0 : (List (Int × (Bool × ((List Int) × Unit))))) (x1 : Int) (x2 : Int) : Option (Int × Unit) := MM C Try.prog E19 (loopAt Try.prog E19 5) ⟨slots 27 0 [(0, .isl none (.st (.pair (.int .i64) (.pair .bool (.pair (.sl (.int .u8)) .unit)))) x0), (1, .int .i64 x1), (5, .int .i64 x2)], []⟩
noncomputable def fE20 (a0 : (List (Int × (Bool × ((List Int) × Unit))))) (a1 : (List (Int × (Bool × ((List Int) × Unit))))) : Option (Bool × Unit) := Fn E20 (a0, (a1, ()))
noncomputable def fE22 (a0 : (List (Int × (Bool × ((List Int) × Unit))))) (a1 : (List (Int × (Bool × ((List Int) × Unit))))) : Option (Bool × Unit) := Fn E22 (a0, (a1, ()))
noncomputable def fE21 (a0 : (List (Int × (Bool × ((List Int) × Unit))))) : Option ((List (Int × (Bool × ((List Int) × Unit)))) × Unit) := Fn E21 (a0, ())
noncomputable def E21_L3 (x0 : (List (Int × (Bool × ((List Int) × Unit))))) (x1 : Int) (x2 : (List (Int × (Bool × ((List Int) × Unit))))) : Option ((List (Int × (Bool × ((List Int) × Unit)))) × Unit) := MM C Try.prog E21 (loopAt Try.prog E21 3) ⟨slots 23 0 [(0, .isl none (.st (.pair (.int .i64) (.pair .bool (.pair (.sl (.int .u8)) .unit)))) x0), (3, .fsl 0), (4, .int .i64 x1)], [some (.arr (.st (.pair (.int .i64) (.pair .bool (.pair (.sl (.int .u8)) .unit)))) x2 true true 0)]⟩
noncomputable def fE23 (a0 : (List (Int × (Bool × ((List Int) × Unit))))) (a1 : (List (Int × (Bool × ((List Int) × Unit))))) : Option (Bool × Unit) := Fn E23 (a0, (a1, ()))
noncomputable def E23_L4 (x0 : (List (Int × (Bool × ((List Int) × Unit))))) (x1 : (List (Int × (Bool × ((List Int) × Unit))))) (x2 : Int) : Option (Bool × Unit) := MM C Try.prog E23 (loopAt Try.prog E23 4) ⟨slots 27 0 [(0, .isl none (.st (.pair (.int .i64) (.pair .bool (.pair (.sl (.int .u8)) .unit)))) x0), (1, .isl none (.st (.pair (.int .i64) (.pair .bool (.pair (.sl (.int .u8)) .unit)))) x1), (5, .int .i64 x2)], []⟩
noncomputable def fE5 (a0 : (List (Int × (Bool × ((List Int) × Unit))))) (a1 : (List (Int × (Bool × ((List Int) × Unit))))) : Option (Bool × Unit) := Fn E5 (a0, (a1, ()))
noncomputable def fE57 (a0 : (List (Int × (Bool × ((List Int) × Unit))))) (a1 : (Int × (Bool × ((List Int) × Unit)))) : Option (Int × Unit) := Fn E57 (a0, (a1, ()))
noncomputable def E57_L3 (x0 : Int) (x1 : (List (Int × (Bool × ((List Int) × Unit))))) (x2 : Int) (x3 : Int) (x4 : Int) (x5 : Bool) (x6 : (List Int)) : Option (Int × Unit) := MM C Try.prog E57 (loopAt Try.prog E57 3) ⟨slots 23 0 [(3, .ptr 0 0), (5, .int .i64 x0), (8, .isl none (.st (.pair (.int .i64) (.pair .bool (.pair (.sl (.int .u8)) .unit)))) x1), (9, .int .i64 x2), (10, .int .i64 x3)], [some (.box [.int .i64 x4, .bool x5, .isl none (.int .u8) x6])]⟩
noncomputable def fE68 (a0 : (List (Int × (Bool × ((List Int) × Unit))))) (a1 : (List (Int × (Bool × ((List Int) × Unit))))) (a2 : (List (Int × (Bool × ((List Int) × Unit))))) : Option (Int × Unit) := Fn E68 (a0, (a1, (a2, ())))
noncomputable def E68_L2 (x0 : (List (Int × (Bool × ((List Int) × Unit))))) (x1 : (List (Int × (Bool × ((List Int) × Unit))))) (x2 : (List (Int × (Bool × ((List Int) × Unit))))) (x3 : Int) (x4 : Int) : Option (Int × Unit) := MM C Try.prog E68 (loopAt Try.prog E68 2) ⟨slots 19 0 [(0, .isl none (.st (.pair (.int .i64) (.pair .bool (.pair (.sl (.int .u8)) .unit)))) x0), (1, .clo 56 [] [.vpt none [.isl none (.st (.pair (.int .i64) (.pair .bool (.pair (.sl (.int .u8)) .unit)))) x1], .vpt none [.isl none (.st (.pair (.int .i64) (.pair .bool (.pair (.sl (.int .u8)) .unit)))) x2]]), (7, .int .i64 x3), (8, .int .i64 x4)], []⟩
noncomputable def fE54 (a0 : (List (Int × (Bool × ((List Int) × Unit))))) (a1 : (Int × (Bool × ((List Int) × Unit)))) : Option (Int × Unit) := Fn E54 (a0, (a1, ()))
noncomputable def E54_L3 (x0 : (List (Int × (Bool × ((List Int) × Unit))))) (x1 : Int) (x2 : Int) (x3 : Int) (x4 : Bool) (x5 : (List Int)) : Option (Int × Unit) := MM C Try.prog E54 (loopAt Try.prog E54 3) ⟨slots 24 0 [(0, .isl none (.st (.pair (.int .i64) (.pair .bool (.pair (.sl (.int .u8)) .unit)))) x0), (3, .ptr 0 0), (5, .int .i64 x1), (6, .int .i64 x2)], [some (.box [.int .i64 x3, .bool x4, .isl none (.int .u8) x5])]⟩
noncomputable def fE56 (a0 : (Int × (Bool × ((List Int) × Unit)))) (a1 : (List (Int × (Bool × ((List Int) × Unit))))) (a2 : (List (Int × (Bool × ((List Int) × Unit))))) : Option (Bool × Unit) := Fn E56 (a0, (a1, (a2, ())))
noncomputable def fE55 (a0 : (List (Int × (Bool × ((List Int) × Unit))))) (a1 : (List (Int × (Bool × ((List Int) × Unit))))) (a2 : (List (Int × (Bool × ((List Int) × Unit))))) : Option (Bool × Unit) := Fn E55 (a0, (a1, (a2, ())))
noncomputable def fE29 (a0 : (List (Int × (Bool × ((List Int) × Unit))))) (a1 : (List (Int × (Bool × ((List Int) × Unit))))) : Option (Bool × Unit) := Fn E29 (a0, (a1, ()))
noncomputable def E29_L2 (x0 : (List (Int × (Bool × ((List Int) × Unit))))) (x1 : (List (Int × (Bool × ((List Int) × Unit))))) (x2 : Int) : Option (Bool × Unit) := MM C Try.prog E29 (loopAt Try.prog E29 2) ⟨slots 25 0 [(0, .isl none (.st (.pair (.int .i64) (.pair .bool (.pair (.sl (.int .u8)) .unit)))) x0), (1, .isl none (.st (.pair (.int .i64) (.pair .bool (.pair (.sl (.int .u8)) .unit)))) x1), (5, .int .i64 x2)], []⟩
noncomputable def fE30 (a0 : (List (Int × (Bool × ((List Int) × Unit))))) (a1 : (List (Int × (Bool × ((List Int) × Unit))))) : Option (Bool × Unit) := Fn E30 (a0, (a1, ()))
noncomputable def fE7 (a0 : (List (Int × (Bool × ((List Int) × Unit))))) (a1 : (List (Int × (Bool × ((List Int) × Unit))))) : Option (Bool × Unit) := Fn E7 (a0, (a1, ()))
theorem E65_eq (a0 : (List Int)) (a1 : (List Int)) : fE65 a0 a1 = br (icm .neq (lnat (llen a0)) (lnat (llen a1))) (some (false, ())) (E65_L4 a0 a1 (lnat (llen a0)) 0) := fn_eq (en := E65) rfl (by kernel_rfl) (by kernel_rfl)
theorem E65_L4_eq (x0 : (List Int)) (x1 : (List Int)) (x2 : Int) (x3 : Int) : E65_L4 x0 x1 x2 x3 = br (icm .lss x3 x2) (br (inb x3 (lnat (llen x0))) (br (inb x3 (lnat (llen x1))) (br (icm .neq (lget x0 (itn x3) (0 : Int)) (lget x1 (itn x3) (0 : Int))) (some (false, ())) (E65_L4 x0 x1 x2 (iar .add .i64 x3 1))) (none)) (none)) (some (true, ())) := (MM_eq _ _ _ _ _).trans (by kernel_rfl)
theorem E62_eq (a0 : (List Int)) (a1 : Int) : fE62 a0 a1 = br (icm .lss (iar .sub .i64 a1 (lnat (llen a0))) 0) (some ((-1 : Int), ())) (some ((iar .sub .i64 a1 (lnat (llen a0))), ())) := fn_eq (en := E62) rfl (by kernel_rfl) (by kernel_rfl)
theorem E63_eq (a0 : (List (Int × (Bool × ((List Int) × Unit))))) (a1 : (List (Int × (Bool × ((List Int) × Unit))))) : fE63 a0 a1 = br (icm .neq (lnat (llen a0)) (lnat (llen a1))) (some (false, ())) (E63_L4 a1 a0 (lnat (llen a0)) 0) := fn_eq (en := E63) rfl (by kernel_rfl) (by kernel_rfl)
theorem E63_L4_eq (x0 : (List (Int × (Bool × ((List Int) × Unit))))) (x1 : (List (Int × (Bool × ((List Int) × Unit))))) (x2 : Int) (x3 : Int) : E63_L4 x0 x1 x2 x3 = br (icm .lss x3 x2) (br (inb x3 (lnat (llen x1))) (br (inb x3 (lnat (llen x0))) (bd (fE64 ((lget x1 (itn x3) ((0 : Int), (false, (([] : List Int), ())))).1, ((lget x1 (itn x3) ((0 : Int), (false, (([] : List Int), ())))).2.1, ((lget x1 (itn x3) ((0 : Int), (false, (([] : List Int), ())))).2.2.1, ()))) ((lget x0 (itn x3) ((0 : Int), (false, (([] : List Int), ())))).1, ((lget x0 (itn x3) ((0 : Int), (false, (([] : List Int), ())))).2.1, ((lget x0 (itn x3) ((0 : Int), (false, (([] : List Int), ())))).2.2.1, ())))) fun y0 => br (bnot y0.1) (some (false, ())) (E63_L4 x0 x1 x2 (iar .add .i64 x3 1))) (none)) (none)) (some (true, ())) := (MM_eq _ _ _ _ _).trans (by kernel_rfl)
theorem E64_eq (a0 : (Int × (Bool × ((List Int) × Unit)))) (a1 : (Int × (Bool × ((List Int) × Unit)))) : fE64 a0 a1 = br (icm .eql a0.1 a1.1) (br (beqv a0.2.1 a1.2.1) (bd (fE65 a0.2.2.1 a1.2.2.1) fun y0 => some (y0.1, ())) (some (false, ()))) (some (false, ())) := fn_eq (en := E64) rfl (by kernel_rfl) (by kernel_rfl)
theorem E10_eq (a0 : (List Int)) : fE10 a0 = br (ile (lnat (llen a0)) (lnat (llen a0))) (br (fits (itn (lnat (llen a0)))) (E10_L3 a0 0 (lrep (itn (lnat (llen a0))) (0 : Int))) (none)) (none) := fn_eq (en := E10) rfl (by kernel_rfl) (by kernel_rfl)
theorem E10_L3_eq (x0 : (List Int)) (x1 : Int) (x2 : (List Int)) : E10_L3 x0 x1 x2 = br (icm .lss x1 (lnat (llen x0))) (br (inb x1 (lnat (llen x0))) (br (inb x1 (lnat (llen x2))) (E10_L3 x0 (iar .add .i64 x1 1) (lmod x2 (itn x1) (fun r0 => (lget x0 (itn x1) (0 : Int))))) (none)) (none)) (some (x2, ())) := (MM_eq _ _ _ _ _).trans (by kernel_rfl)
theorem E13_eq (a0 : (List Int)) (a1 : (List Int)) : fE13 a0 a1 = br (icm .neq (lnat (llen a0)) (lnat (llen a1))) (some (false, ())) (E13_L4 a0 a1 0) := fn_eq (en := E13) rfl (by kernel_rfl) (by kernel_rfl)
theorem E13_L4_eq (x0 : (List Int)) (x1 : (List Int)) (x2 : Int) : E13_L4 x0 x1 x2 = br (icm .lss x2 (lnat (llen x0))) (br (inb x2 (lnat (llen x0))) (br (inb x2 (lnat (llen x1))) (br (icm .neq (lget x0 (itn x2) (0 : Int)) (lget x1 (itn x2) (0 : Int))) (some (false, ())) (E13_L4 x0 x1 (iar .add .i64 x2 1))) (none)) (none)) (some (true, ())) := (MM_eq _ _ _ _ _).trans (by kernel_rfl)
theorem E43_eq (a0 : (Int × (Bool × ((List Int) × Unit)))) (a1 : Int) : fE43 a0 a1 = bd (fE62 a0.2.2.1 a1) fun y0 => br (icm .lss y0.1 0) (some ((-1 : Int), ())) (some (y0.1, ())) := fn_eq (en := E43) rfl (by kernel_rfl) (by kernel_rfl)
theorem E44_eq (a0 : (List (Int × (Bool × ((List Int) × Unit))))) (a1 : (List (Int × (Bool × ((List Int) × Unit))))) : fE44 a0 a1 = br (icm .neq (lnat (llen a0)) (lnat (llen a1))) (some (false, ())) (E44_L4 a0 a1 0) := fn_eq (en := E44) rfl (by kernel_rfl) (by kernel_rfl)
theorem E44_L4_eq (x0 : (List (Int × (Bool × ((List Int) × Unit))))) (x1 : (List (Int × (Bool × ((List Int) × Unit))))) (x2 : Int) : E44_L4 x0 x1 x2 = br (icm .lss x2 (lnat (llen x0))) (br (inb x2 (lnat (llen x0))) (br (inb x2 (lnat (llen x1))) (br (icm .neq (lget x0 (itn x2) ((0 : Int), (false, (([] : List Int), ())))).1 (lget x1 (itn x2) ((0 : Int), (false, (([] : List Int), ())))).1) (some (false, ())) (br (inb x2 (lnat (llen x0))) (br (inb x2 (lnat (llen x1))) (br (bnot (beqv (lget x0 (itn x2) ((0 : Int), (false, (([] : List Int), ())))).2.1 (lget x1 (itn x2) ((0 : Int), (false, (([] : List Int), ())))).2.1)) (some (false, ())) (br (inb x2 (lnat (llen x0))) (br (inb x2 (lnat (llen x1))) (br (scm .neq (bytesStr (lget x0 (itn x2) ((0 : Int), (false, (([] : List Int), ())))).2.2.1) (bytesStr (lget x1 (itn x2) ((0 : Int), (false, (([] : List Int), ())))).2.2.1)) (some (false, ())) (E44_L4 x0 x1 (iar .add .i64 x2 1))) (none)) (none))) (none)) (none))) (none)) (none)) (some (true, ())) := (MM_eq _ _ _ _ _).trans (by kernel_rfl)
theorem E46_eq (a0 : (List (Int × (Bool × ((List Int) × Unit))))) (a1 : (List (Int × (Bool × ((List Int) × Unit))))) : fE46 a0 a1 = bd (fE63 a0 a1) fun y0 => some (y0.1, ()) := fn_eq (en := E46) rfl (by kernel_rfl) (by kernel_rfl)
theorem E45_eq (a0 : (Int × (Bool × ((List Int) × Unit)))) : fE45 a0 = bd (fE10 a0.2.2.1) fun y0 => some ((a0.1, (a0.2.1, (y0.1, ()))), ()) := fn_eq (en := E45) rfl (by kernel_rfl) (by kernel_rfl)
theorem E47_eq (a0 : (Int × (Bool × ((List Int) × Unit)))) (a1 : (Int × (Bool × ((List Int) × Unit)))) : fE47 a0 a1 = br (icm .neq a0.1 a1.1) (some (false, ())) (br (bnot (beqv a0.2.1 a1.2.1)) (some (false, ())) (bd (fE13 a0.2.2.1 a1.2.2.1) fun y0 => br (bnot y0.1) (some (false, ())) (some (true, ())))) := fn_eq (en := E47) rfl (by kernel_rfl) (by kernel_rfl)
theorem E19_eq (a0 : (List (Int × (Bool × ((List Int) × Unit))))) (a1 : Int) : fE19 a0 a1 = br (icm .lss (iar .sub .i64 a1 (lnat (llen a0))) 0) (some ((-1 : Int), ())) (E19_L5 a0 (iar .sub .i64 a1 (lnat (llen a0))) 0) := fn_eq (en := E19) rfl (by kernel_rfl) (by kernel_rfl)
theorem E19_L5_eq (x0 : (List (Int × (Bool × ((List Int) × Unit))))) (x1 : Int) (x2 : Int) : E19_L5 x0 x1 x2 = br (icm .lss x2 (lnat (llen x0))) (br (inb x2 (lnat (llen x0))) (bd (fE43 ((lget x0 (itn x2) ((0 : Int), (false, (([] : List Int), ())))).1, ((lget x0 (itn x2) ((0 : Int), (false, (([] : List Int), ())))).2.1, ((lget x0 (itn x2) ((0 : Int), (false, (([] : List Int), ())))).2.2.1, ()))) x1) fun y0 => br (icm .lss y0.1 0) (some ((-1 : Int), ())) (E19_L5 x0 y0.1 (iar .add .i64 x2 1))) (none)) (some (x1, ())) := (MM_eq _ _ _ _ _).trans (by kernel_rfl)
theorem E20_eq (a0 : (List (Int × (Bool × ((List Int) × Unit))))) (a1 : (List (Int × (Bool × ((List Int) × Unit))))) : fE20 a0 a1 = br (icm .leq (lnat (llen a0)) (lnat (llen a1))) (br (ile (lnat (llen a0)) (lnat (llen a1))) (bd (fE44 a0 (lsub a1 (itn 0) (itn (isub (lnat (llen a0)) 0)))) fun y0 => some (y0.1, ())) (none)) (some (false, ())) := fn_eq (en := E20) rfl (by kernel_rfl) (by kernel_rfl)
theorem E22_eq (a0 : (List (Int × (Bool × ((List Int) × Unit))))) (a1 : (List (Int × (Bool × ((List Int) × Unit))))) : fE22 a0 a1 = br (icm .leq (lnat (llen a0)) (lnat (llen a1))) (br (ile (lnat (llen a0)) (lnat (llen a1))) (bd (fE46 a0 (lsub a1 (itn 0) (itn (isub (lnat (llen a0)) 0)))) fun y0 => some (y0.1, ())) (none)) (some (false, ())) := fn_eq (en := E22) rfl (by kernel_rfl) (by kernel_rfl)
theorem E21_eq (a0 : (List (Int × (Bool × ((List Int) × Unit))))) : fE21 a0 = br (ile (lnat (llen a0)) (lnat (llen a0))) (br (fits (itn (lnat (llen a0)))) (E21_L3 a0 0 (lrep (itn (lnat (llen a0))) ((0 : Int), (false, (([] : List Int), ()))))) (none)) (none) := fn_eq (en := E21) rfl (by kernel_rfl) (by kernel_rfl)
theorem E21_L3_eq (x0 : (List (Int × (Bool × ((List Int) × Unit))))) (x1 : Int) (x2 : (List (Int × (Bool × ((List Int) × Unit))))) : E21_L3 x0 x1 x2 = br (icm .lss x1 (lnat (llen x0))) (br (inb x1 (lnat (llen x0))) (bd (fE45 ((lget x0 (itn x1) ((0 : Int), (false, (([] : List Int), ())))).1, ((lget x0 (itn x1) ((0 : Int), (false, (([] : List Int), ())))).2.1, ((lget x0 (itn x1) ((0 : Int), (false, (([] : List Int), ())))).2.2.1, ())))) fun y0 => br (inb x1 (lnat (llen x2))) (E21_L3 x0 (iar .add .i64 x1 1) (lmod x2 (itn x1) (fun r1 => (y0.1.1, (y0.1.2.1, (y0.1.2.2.1, ())))))) (none)) (none)) (some (x2, ())) := (MM_eq _ _ _ _ _).trans (by kernel_rfl)
theorem E23_eq (a0 : (List (Int × (Bool × ((List Int) × Unit))))) (a1 : (List (Int × (Bool × ((List Int) × Unit))))) : fE23 a0 a1 = br (icm .neq (lnat (llen a0)) (lnat (llen a1))) (some (false, ())) (E23_L4 a0 a1 0) := fn_eq (en := E23) rfl (by kernel_rfl) (by kernel_rfl)
theorem E23_L4_eq (x0 : (List (Int × (Bool × ((List Int) × Unit))))) (x1 : (List (Int × (Bool × ((List Int) × Unit))))) (x2 : Int) : E23_L4 x0 x1 x2 = br (icm .lss x2 (lnat (llen x0))) (br (inb x2 (lnat (llen x0))) (br (inb x2 (lnat (llen x1))) (bd (fE47 ((lget x0 (itn x2) ((0 : Int), (false, (([] : List Int), ())))).1, ((lget x0 (itn x2) ((0 : Int), (false, (([] : List Int), ())))).2.1, ((lget x0 (itn x2) ((0 : Int), (false, (([] : List Int), ())))).2.2.1, ()))) ((lget x1 (itn x2) ((0 : Int), (false, (([] : List Int), ())))).1, ((lget x1 (itn x2) ((0 : Int), (false, (([] : List Int), ())))).2.1, ((lget x1 (itn x2) ((0 : Int), (false, (([] : List Int), ())))).2.2.1, ())))) fun y0 => br (bnot y0.1) (some (false, ())) (E23_L4 x0 x1 (iar .add .i64 x2 1))) (none)) (none)) (some (true, ())) := (MM_eq _ _ _ _ _).trans (by kernel_rfl)
theorem E5_eq (a0 : (List (Int × (Bool × ((List Int) × Unit))))) (a1 : (List (Int × (Bool × ((List Int) × Unit))))) : fE5 a0 a1 = bd (fE19 a0 (1048576 : Int)) fun y0 => br (icm .lss y0.1 0) (some (true, ())) (bd (fE19 a1 y0.1) fun y1 => br (icm .lss y1.1 0) (some (true, ())) (bd (fE21 a0) fun y2 => bd (fE21 a1) fun y3 => bd (fE20 y2.1 y3.1) fun y4 => bd (fE21 a0) fun y5 => bd (fE21 a1) fun y6 => bd (fE22 y5.1 y6.1) fun y7 => br (bnot (beqv y7.1 y4.1)) (some (false, ())) (bd (fE21 a0) fun y8 => bd (fE23 y5.1 y8.1) fun y9 => br (bnot y9.1) (some (false, ())) (bd (fE21 a1) fun y10 => bd (fE23 y6.1 y10.1) fun y11 => br (bnot y11.1) (some (false, ())) (some (true, ())))))) := fn_eq (en := E5) rfl (by kernel_rfl) (by kernel_rfl)
theorem E57_eq (a0 : (List (Int × (Bool × ((List Int) × Unit))))) (a1 : (Int × (Bool × ((List Int) × Unit)))) : fE57 a0 a1 = E57_L3 0 a0 (lnat (llen a0)) 0 a1.1 a1.2.1 a1.2.2.1 := fn_eq (en := E57) rfl (by kernel_rfl) (by kernel_rfl)
theorem E57_L3_eq (x0 : Int) (x1 : (List (Int × (Bool × ((List Int) × Unit))))) (x2 : Int) (x3 : Int) (x4 : Int) (x5 : Bool) (x6 : (List Int)) : E57_L3 x0 x1 x2 x3 x4 x5 x6 = br (icm .lss x3 x2) (br (inb x3 (lnat (llen x1))) (bd (fE46 (((lget x1 (itn x3) ((0 : Int), (false, (([] : List Int), ())))).1, ((lget x1 (itn x3) ((0 : Int), (false, (([] : List Int), ())))).2.1, ((lget x1 (itn x3) ((0 : Int), (false, (([] : List Int), ())))).2.2.1, ()))) :: ([] : List (Int × (Bool × ((List Int) × Unit))))) ((x4, (x5, (x6, ()))) :: ([] : List (Int × (Bool × ((List Int) × Unit)))))) fun y0 => br y0.1 (E57_L3 (iar .add .i64 x0 1) x1 x2 (iar .add .i64 x3 1) x4 x5 x6) (E57_L3 x0 x1 x2 (iar .add .i64 x3 1) x4 x5 x6)) (none)) (some (x0, ())) := (MM_eq _ _ _ _ _).trans (by kernel_rfl)
theorem E68_eq (a0 : (List (Int × (Bool × ((List Int) × Unit))))) (a1 : (List (Int × (Bool × ((List Int) × Unit))))) (a2 : (List (Int × (Bool × ((List Int) × Unit))))) : fE68 a0 a1 a2 = E68_L2 a0 a1 a2 (lnat (llen a0)) 0 := fn_eq (en := E68) rfl (by kernel_rfl) (by kernel_rfl)
theorem E68_L2_eq (x0 : (List (Int × (Bool × ((List Int) × Unit))))) (x1 : (List (Int × (Bool × ((List Int) × Unit))))) (x2 : (List (Int × (Bool × ((List Int) × Unit))))) (x3 : Int) (x4 : Int) : E68_L2 x0 x1 x2 x3 x4 = br (icm .lss x4 x3) (br (inb x4 (lnat (llen x0))) (bd (fE56 ((lget x0 (itn x4) ((0 : Int), (false, (([] : List Int), ())))).1, ((lget x0 (itn x4) ((0 : Int), (false, (([] : List Int), ())))).2.1, ((lget x0 (itn x4) ((0 : Int), (false, (([] : List Int), ())))).2.2.1, ()))) x1 x2) fun y0 => br y0.1 (some (x4, ())) (E68_L2 x0 x1 x2 x3 (iar .add .i64 x4 1))) (none)) (some ((-1 : Int), ())) := (MM_eq _ _ _ _ _).trans (by kernel_rfl)
theorem E54_eq (a0 : (List (Int × (Bool × ((List Int) × Unit))))) (a1 : (Int × (Bool × ((List Int) × Unit)))) : fE54 a0 a1 = E54_L3 a0 0 0 a1.1 a1.2.1 a1.2.2.1 := fn_eq (en := E54) rfl (by kernel_rfl) (by kernel_rfl)
theorem E54_L3_eq (x0 : (List (Int × (Bool × ((List Int) × Unit))))) (x1 : Int) (x2 : Int) (x3 : Int) (x4 : Bool) (x5 : (List Int)) : E54_L3 x0 x1 x2 x3 x4 x5 = br (icm .lss x2 (lnat (llen x0))) (br (ile 0 x2) (br (ile x2 (iar .add .i64 x2 1)) (br (ile (iar .add .i64 x2 1) (lnat (llen x0))) (bd (fE44 (lsub x0 (itn x2) (itn (isub (iar .add .i64 x2 1) x2))) ((x3, (x4, (x5, ()))) :: ([] : List (Int × (Bool × ((List Int) × Unit)))))) fun y0 => br y0.1 (E54_L3 x0 (iar .add .i64 x1 1) (iar .add .i64 x2 1) x3 x4 x5) (E54_L3 x0 x1 (iar .add .i64 x2 1) x3 x4 x5)) (none)) (none)) (none)) (some (x1, ())) := (MM_eq _ _ _ _ _).trans (by kernel_rfl)
theorem E56_eq (a0 : (Int × (Bool × ((List Int) × Unit)))) (a1 : (List (Int × (Bool × ((List Int) × Unit))))) (a2 : (List (Int × (Bool × ((List Int) × Unit))))) : fE56 a0 a1 a2 = bd (fE57 a1 (a0.1, (a0.2.1, (a0.2.2.1, ())))) fun y0 => bd (fE57 a2 (a0.1, (a0.2.1, (a0.2.2.1, ())))) fun y1 => some ((icm .gtr y0.1 y1.1), ()) := fn_eq (en := E56) rfl (by kernel_rfl) (by kernel_rfl)
theorem E55_eq (a0 : (List (Int × (Bool × ((List Int) × Unit))))) (a1 : (List (Int × (Bool × ((List Int) × Unit))))) (a2 : (List (Int × (Bool × ((List Int) × Unit))))) : fE55 a0 a1 a2 = bd (fE68 a0 a1 a2) fun y0 => some ((icm .geq y0.1 0), ()) := fn_eq (en := E55) rfl (by kernel_rfl) (by kernel_rfl)
theorem E29_eq (a0 : (List (Int × (Bool × ((List Int) × Unit))))) (a1 : (List (Int × (Bool × ((List Int) × Unit))))) : fE29 a0 a1 = E29_L2 a0 a1 0 := fn_eq (en := E29) rfl (by kernel_rfl) (by kernel_rfl)
theorem E29_L2_eq (x0 : (List (Int × (Bool × ((List Int) × Unit))))) (x1 : (List (Int × (Bool × ((List Int) × Unit))))) (x2 : Int) : E29_L2 x0 x1 x2 = br (icm .lss x2 (lnat (llen x0))) (br (inb x2 (lnat (llen x0))) (bd (fE54 x1 ((lget x0 (itn x2) ((0 : Int), (false, (([] : List Int), ())))).1, ((lget x0 (itn x2) ((0 : Int), (false, (([] : List Int), ())))).2.1, ((lget x0 (itn x2) ((0 : Int), (false, (([] : List Int), ())))).2.2.1, ())))) fun y0 => br (inb x2 (lnat (llen x0))) (bd (fE54 x0 ((lget x0 (itn x2) ((0 : Int), (false, (([] : List Int), ())))).1, ((lget x0 (itn x2) ((0 : Int), (false, (([] : List Int), ())))).2.1, ((lget x0 (itn x2) ((0 : Int), (false, (([] : List Int), ())))).2.2.1, ())))) fun y1 => br (icm .lss y0.1 y1.1) (some (false, ())) (E29_L2 x0 x1 (iar .add .i64 x2 1))) (none)) (none)) (some (true, ())) := (MM_eq _ _ _ _ _).trans (by kernel_rfl)
theorem E30_eq (a0 : (List (Int × (Bool × ((List Int) × Unit))))) (a1 : (List (Int × (Bool × ((List Int) × Unit))))) : fE30 a0 a1 = bd (fE55 a0 a0 a1) fun y0 => some ((bnot y0.1), ()) := fn_eq (en := E30) rfl (by kernel_rfl) (by kernel_rfl)
theorem E7_eq (a0 : (List (Int × (Bool × ((List Int) × Unit))))) (a1 : (List (Int × (Bool × ((List Int) × Unit))))) : fE7 a0 a1 = bd (fE19 a0 (1048576 : Int)) fun y0 => br (icm .lss y0.1 0) (some (true, ())) (bd (fE19 a1 y0.1) fun y1 => br (icm .lss y1.1 0) (some (true, ())) (bd (fE21 a0) fun y2 => bd (fE21 a1) fun y3 => bd (fE29 y2.1 y3.1) fun y4 => bd (fE21 a0) fun y5 => bd (fE21 a1) fun y6 => bd (fE30 y5.1 y6.1) fun y7 => br (bnot (beqv y7.1 y4.1)) (some (false, ())) (bd (fE21 a0) fun y8 => bd (fE23 y5.1 y8.1) fun y9 => br (bnot y9.1) (some (false, ())) (bd (fE21 a1) fun y10 => bd (fE23 y6.1 y10.1) fun y11 => br (bnot y11.1) (some (false, ())) (some (true, ())))))) := fn_eq (en := E7) rfl (by kernel_rfl) (by kernel_rfl)
end Go.Proofs.Ytijelhbbkjjciaa.Sm
