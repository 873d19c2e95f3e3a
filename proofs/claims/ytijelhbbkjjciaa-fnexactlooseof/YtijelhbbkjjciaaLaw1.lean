/- The tables and the entries of the law FnExactLooseOf, and what the evaluator says of each function that it reaches. -/
import Derived.Test.YtijelhbbkjjciaaEv4
import Derived.Test.YtijelhbbkjjciaaChecked
import Derived.KernelRfl
set_option linter.unusedVariables false
set_option linter.unusedSimpArgs false
namespace Go.Proofs.Ytijelhbbkjjciaa.Lo
open Go Go.Evr
def tt : List (Option Ty) := [
  none,
  some .ref,
  some (.int .i64),
  some (.int .i64),
  some .bool,
  some (.int .u8),
  some (.int .u8),
  some (.st (.pair (.int .i64) (.pair (.int .i64) (.pair .bool (.pair (.int .u8) .unit))))),
  some (.st (.pair (.int .i64) (.pair (.int .i64) (.pair .bool (.pair (.int .u8) .unit))))),
  some .str,
  some .str,
  some .str,
  some (.int .u64),
  none,
  none,
  some .ref,
  some .ref,
  some .ref,
  none,
  none,
  none,
  some (.int .i32),
  some (.sl (.int .u8)),
  some (.st (.pair (.int .i64) (.pair .str .unit))),
  some (.st (.pair (.int .i64) (.pair .str .unit))),
  some .ref,
  some .ref,
  some .ref,
  some .ref,
  some .ref,
  some (.st (.pair (.int .i64) (.pair (.sl (.int .u8)) .unit))),
  some (.st (.pair (.int .i64) (.pair (.sl (.int .u8)) .unit))),
  some .ref,
  some .ref,
  some .ref,
  some .ref,
  some (.sl (.st (.pair (.int .i64) (.pair .bool (.pair (.sl (.int .u8)) .unit))))),
  some .ref,
  some .ref,
  some (.sl (.st (.pair (.int .i64) (.pair .bool (.pair (.sl (.int .u8)) .unit))))),
  some .ref,
  some .ref,
  some (.sl .str),
  some (.st (.pair (.int .i64) (.pair (.sl .str) .unit))),
  some (.st (.pair (.int .i64) (.pair (.sl .str) .unit))),
  some .ref,
  some .ref,
  some .ref,
  some (.st (.pair (.int .i64) (.pair (.sl (.st (.pair (.int .i64) (.pair .bool (.pair (.sl (.int .u8)) .unit))))) .unit))),
  some (.st (.pair (.int .i64) (.pair (.sl (.st (.pair (.int .i64) (.pair .bool (.pair (.sl (.int .u8)) .unit))))) .unit))),
  some .ref,
  some .ref,
  some .ref,
  some .ref,
  some .ref,
  some .ref,
  some .ref,
  some .ref,
  some (.int .u64),
  some .ref,
  some .ref,
  some (.st (.pair (.int .i64) (.pair .bool (.pair (.sl (.int .u8)) .unit)))),
  some (.st (.pair (.int .i64) (.pair .bool (.pair (.sl (.int .u8)) .unit)))),
  some (.st (.pair (.int .i64) (.pair .bool (.pair (.sl (.int .u8)) .unit)))),
  some .ref,
  some .ref,
  some .ref,
  some .ref,
  some .ref,
  some .ref,
  some .ref,
  some .ref,
  some .ref,
  some .ref,
  some .ref,
  some .ref,
  some .ref,
  some (.sl (.st (.pair (.int .i64) (.pair (.int .i64) .unit)))),
  some (.st (.pair (.int .i64) (.pair (.int .i64) .unit))),
  some (.st (.pair (.int .i64) (.pair (.int .i64) .unit))),
  some .ref,
  some .ref,
  some .ref,
  some .ref,
  none,
  none,
  none,
  none,
  none,
  some .ref,
  some (.int .u32),
  some (.int .u8),
  some (.int .u8),
  some .ref,
  some .ref,
  some (.int .i32),
  some (.int .i32),
  none,
  none,
  none]
def live : List (Nat × List (Nat × List Nat)) := [
  (10, [(3, [0, 3, 4])]),
  (13, [(4, [0, 1, 5])]),
  (14, [(5, [0, 2, 3, 4])]),
  (15, [(5, [0, 2, 3, 4])]),
  (19, [(5, [0, 1, 5])]),
  (21, [(3, [0, 3, 4])]),
  (23, [(4, [0, 1, 5])]),
  (29, [(2, [0, 1, 5])]),
  (31, [(5, [0, 2, 3, 4])]),
  (34, [(2, [0, 1, 5])]),
  (37, [(4, [0, 3, 4, 5])]),
  (38, [(3, [3, 7, 8, 9])]),
  (41, [(2, [0, 1, 5])]),
  (42, [(2, [0, 1, 5])]),
  (44, [(4, [0, 1, 5])]),
  (48, [(4, [3, 4, 5])]),
  (49, [(4, [0, 1, 5, 6, 14]), (16, [0, 9, 47, 48, 49])]),
  (51, [(4, [0, 1, 5])]),
  (52, [(2, [0, 1, 5])]),
  (53, [(2, [0, 1, 5])]),
  (54, [(3, [0, 3, 5, 6])]),
  (57, [(3, [3, 5, 8, 9, 10])]),
  (58, [(3, [0, 3, 4])]),
  (60, [(2, [0, 1, 5])]),
  (63, [(4, [1, 2, 15, 16, 17])]),
  (65, [(4, [0, 1, 12, 13])]),
  (66, [(4, [0, 1, 5, 6, 7])]),
  (67, [(4, [0, 3])]),
  (68, [(2, [0, 1, 7, 8])]),
  (70, [(3, [1, 5, 9, 10, 11])]),
  (73, [(3, [3, 7, 8, 9])])]
def E74 : Entry := { id := 75, fid := 74, ps := [.view (.sl (.int .u8))], rs := [(.sl (.int .u8))], hook := none }
def E73 : Entry := { id := 74, fid := 73, ps := [.view (.sl (.st (.pair (.int .i64) (.pair .bool (.pair (.sl (.int .u8)) .unit)))))], rs := [(.sl (.st (.pair (.int .i64) (.pair .bool (.pair (.sl (.int .u8)) .unit)))))], hook := none }
def E62 : Entry := { id := 63, fid := 62, ps := [.view (.sl (.int .u8)), .view (.int .i64)], rs := [(.int .i64)], hook := none }
def E69 : Entry := { id := 70, fid := 69, ps := [.view (.sl (.int .u8))], rs := [(.sl (.int .u8))], hook := none }
def E13 : Entry := { id := 14, fid := 13, ps := [.view (.sl (.int .u8)), .view (.sl (.int .u8))], rs := [.bool], hook := none }
def E10 : Entry := { id := 11, fid := 10, ps := [.view (.sl (.int .u8))], rs := [(.sl (.int .u8))], hook := none }
def E70 : Entry := { id := 71, fid := 70, ps := [.view (.sl (.st (.pair (.int .i64) (.pair .bool (.pair (.sl (.int .u8)) .unit))))), .clo 71 0 0], rs := [(.sl (.st (.pair (.int .i64) (.pair .bool (.pair (.sl (.int .u8)) .unit)))))], hook := none }
def E71 : Entry := { id := 72, fid := 71, ps := [.view (.st (.pair (.int .i64) (.pair .bool (.pair (.sl (.int .u8)) .unit))))], rs := [.bool], hook := none }
def E42 : Entry := { id := 43, fid := 42, ps := [.view (.sl (.int .u8)), .view (.int .i64)], rs := [(.int .i64)], hook := none }
def E43 : Entry := { id := 44, fid := 43, ps := [.view (.st (.pair (.int .i64) (.pair .bool (.pair (.sl (.int .u8)) .unit)))), .view (.int .i64)], rs := [(.int .i64)], hook := none }
def E58 : Entry := { id := 59, fid := 58, ps := [.view (.sl (.st (.pair (.int .i64) (.pair .bool (.pair (.sl (.int .u8)) .unit)))))], rs := [(.sl (.st (.pair (.int .i64) (.pair .bool (.pair (.sl (.int .u8)) .unit)))))], hook := none }
def E47 : Entry := { id := 48, fid := 47, ps := [.view (.st (.pair (.int .i64) (.pair .bool (.pair (.sl (.int .u8)) .unit)))), .view (.st (.pair (.int .i64) (.pair .bool (.pair (.sl (.int .u8)) .unit))))], rs := [.bool], hook := none }
def E41 : Entry := { id := 42, fid := 41, ps := [.mut (.int .u8), .view (.int .i64)], rs := [(.int .i64)], hook := none }
def E45 : Entry := { id := 46, fid := 45, ps := [.view (.st (.pair (.int .i64) (.pair .bool (.pair (.sl (.int .u8)) .unit))))], rs := [(.st (.pair (.int .i64) (.pair .bool (.pair (.sl (.int .u8)) .unit))))], hook := none }
def E59 : Entry := { id := 60, fid := 59, ps := [.view (.sl (.st (.pair (.int .i64) (.pair .bool (.pair (.sl (.int .u8)) .unit)))))], rs := [(.sl (.st (.pair (.int .i64) (.pair .bool (.pair (.sl (.int .u8)) .unit)))))], hook := none }
def E60 : Entry := { id := 61, fid := 60, ps := [.view (.sl (.st (.pair (.int .i64) (.pair .bool (.pair (.sl (.int .u8)) .unit))))), .view (.int .i64)], rs := [(.int .i64)], hook := none }
def E19 : Entry := { id := 20, fid := 19, ps := [.view (.sl (.st (.pair (.int .i64) (.pair .bool (.pair (.sl (.int .u8)) .unit))))), .view (.int .i64)], rs := [(.int .i64)], hook := none }
def E31 : Entry := { id := 32, fid := 31, ps := [.view (.sl (.st (.pair (.int .i64) (.pair .bool (.pair (.sl (.int .u8)) .unit)))))], rs := [(.st (.pair (.int .i64) (.pair (.sl (.st (.pair (.int .i64) (.pair .bool (.pair (.sl (.int .u8)) .unit))))) .unit)))], hook := none }
def E23 : Entry := { id := 24, fid := 23, ps := [.view (.sl (.st (.pair (.int .i64) (.pair .bool (.pair (.sl (.int .u8)) .unit))))), .view (.sl (.st (.pair (.int .i64) (.pair .bool (.pair (.sl (.int .u8)) .unit)))))], rs := [.bool], hook := none }
def E34 : Entry := { id := 35, fid := 34, ps := [.mut (.st (.pair (.int .i64) (.pair .bool (.pair (.sl (.int .u8)) .unit)))), .view (.int .i64)], rs := [(.int .i64)], hook := none }
def E35 : Entry := { id := 36, fid := 35, ps := [.agg 2, .view (.int .i64), .mut (.st (.pair (.int .i64) (.pair .bool (.pair (.sl (.int .u8)) .unit)))), .view (.int .i64)], rs := [(.int .i64)], hook := none }
def E21 : Entry := { id := 22, fid := 21, ps := [.view (.sl (.st (.pair (.int .i64) (.pair .bool (.pair (.sl (.int .u8)) .unit)))))], rs := [(.sl (.st (.pair (.int .i64) (.pair .bool (.pair (.sl (.int .u8)) .unit)))))], hook := none }
def E32 : Entry := { id := 33, fid := 32, ps := [.view (.sl (.st (.pair (.int .i64) (.pair .bool (.pair (.sl (.int .u8)) .unit)))))], rs := [(.st (.pair (.int .i64) (.pair (.sl (.st (.pair (.int .i64) (.pair .bool (.pair (.sl (.int .u8)) .unit))))) .unit)))], hook := none }
def E33 : Entry := { id := 34, fid := 33, ps := [.view (.st (.pair (.int .i64) (.pair (.sl (.st (.pair (.int .i64) (.pair .bool (.pair (.sl (.int .u8)) .unit))))) .unit))), .view (.st (.pair (.int .i64) (.pair (.sl (.st (.pair (.int .i64) (.pair .bool (.pair (.sl (.int .u8)) .unit))))) .unit)))], rs := [.bool], hook := none }
def E36 : Entry := { id := 37, fid := 36, ps := [.view (.st (.pair (.int .i64) (.pair (.sl (.st (.pair (.int .i64) (.pair .bool (.pair (.sl (.int .u8)) .unit))))) .unit))), .view (.int .i64)], rs := [(.int .i64)], hook := none }
def E8 : Entry := { id := 9, fid := 8, ps := [.view (.sl (.st (.pair (.int .i64) (.pair .bool (.pair (.sl (.int .u8)) .unit)))))], rs := [.bool], hook := none }
def C : Ctx := { tt := tt, es := [E74, E73, E62, E69, E13, E10, E70, E71, E42, E43, E58, E47, E41, E45, E59, E60, E19, E31, E23, E34, E35, E21, E32, E33, E36, E8], live := live }
theorem cok : CtxOk C Try.prog := ctx_ok (by kernel_rfl)
theorem eok : EntOk C Try.prog := ent_ok (by kernel_rfl) (by
  intro en hm h hh
  simp only [C, List.mem_cons, List.not_mem_nil, or_false] at hm
  rcases hm with rfl | rfl | rfl | rfl | rfl | rfl | rfl | rfl | rfl | rfl | rfl | rfl | rfl | rfl | rfl | rfl | rfl | rfl | rfl | rfl | rfl | rfl | rfl | rfl | rfl | rfl <;> cases hh)
theorem mix : Try.prog.follows .mixedOrders = true := by kernel_rfl
noncomputable def Fn (en : Entry) (x : (argT en.ps).den) : Option en.R := callE Try.prog (MM C Try.prog) en x
theorem fn_eq {en : Entry} {x : (argT en.ps).den} {r : Option en.R} (hh : en.hook = none) (hc : (codeOf Try.prog en).isSome = true)
    (h : body C Try.prog (MM C Try.prog) en (startOf Try.prog en) (entered en x (ntmpsOf Try.prog en)) = r) : Fn en x = r := fnC_eq hh hc h
noncomputable def fE74 (a0 : (List Int)) : Option ((List Int) × Unit) := Fn E74 (a0, ())
noncomputable def fE73 (a0 : (List (Int × (Bool × ((List Int) × Unit))))) : Option ((List (Int × (Bool × ((List Int) × Unit)))) × Unit) := Fn E73 (a0, ())
noncomputable def E73_L3 (x0 : (List (Int × (Bool × ((List Int) × Unit))))) (x1 : Int) (x2 : Int) (x3 : (List (Int × (Bool × ((List Int) × Unit))))) : Option ((List (Int × (Bool × ((List Int) × Unit)))) × Unit) := MM C Try.prog E73 (loopAt Try.prog E73 3) ⟨slots 23 0 [(3, .fsl 0), (7, .isl none (.st (.pair (.int .i64) (.pair .bool (.pair (.sl (.int .u8)) .unit)))) x0), (8, .int .i64 x1), (9, .int .i64 x2)], [some (.arr (.st (.pair (.int .i64) (.pair .bool (.pair (.sl (.int .u8)) .unit)))) x3 true true 0)]⟩
noncomputable def fE62 (a0 : (List Int)) (a1 : Int) : Option (Int × Unit) := Fn E62 (a0, (a1, ()))
noncomputable def fE69 (a0 : (List Int)) : Option ((List Int) × Unit) := Fn E69 (a0, ())
noncomputable def fE13 (a0 : (List Int)) (a1 : (List Int)) : Option (Bool × Unit) := Fn E13 (a0, (a1, ()))
noncomputable def E13_L4 (x0 : (List Int)) (x1 : (List Int)) (x2 : Int) : Option (Bool × Unit) := MM C Try.prog E13 (loopAt Try.prog E13 4) ⟨slots 26 0 [(0, .isl none (.int .u8) x0), (1, .isl none (.int .u8) x1), (5, .int .i64 x2)], []⟩
noncomputable def fE10 (a0 : (List Int)) : Option ((List Int) × Unit) := Fn E10 (a0, ())
noncomputable def E10_L3 (x0 : (List Int)) (x1 : Int) (x2 : (List Int)) : Option ((List Int) × Unit) := MM C Try.prog E10 (loopAt Try.prog E10 3) ⟨slots 22 0 [(0, .isl none (.int .u8) x0), (3, .fsl 0), (4, .int .i64 x1)], [some (.arr (.int .u8) x2 true true 0)]⟩
noncomputable def fE70 (a0 : (List (Int × (Bool × ((List Int) × Unit))))) : Option ((List (Int × (Bool × ((List Int) × Unit)))) × Unit) := Fn E70 (a0, ())
noncomputable def E70_L3 (x0 : (List (Int × (Bool × ((List Int) × Unit))))) (x1 : Int) (x2 : Int) (x3 : (List (Int × (Bool × ((List Int) × Unit))))) : Option ((List (Int × (Bool × ((List Int) × Unit)))) × Unit) := MM C Try.prog E70 (loopAt Try.prog E70 3) ⟨slots 25 0 [(1, .clo 71 [] []), (5, .fsl 0), (9, .isl none (.st (.pair (.int .i64) (.pair .bool (.pair (.sl (.int .u8)) .unit)))) x0), (10, .int .i64 x1), (11, .int .i64 x2)], [some (.arr (.st (.pair (.int .i64) (.pair .bool (.pair (.sl (.int .u8)) .unit)))) x3 true true 0)]⟩
noncomputable def E70_L3_1 (x0 : (List (Int × (Bool × ((List Int) × Unit))))) (x1 : Int) (x2 : Int) (x3 : (List (Int × (Bool × ((List Int) × Unit))))) : Option ((List (Int × (Bool × ((List Int) × Unit)))) × Unit) := MM C Try.prog E70 (loopAt Try.prog E70 3) ⟨slots 25 0 [(1, .clo 71 [] []), (5, .fsl 0), (9, .isl none (.st (.pair (.int .i64) (.pair .bool (.pair (.sl (.int .u8)) .unit)))) x0), (10, .int .i64 x1), (11, .int .i64 x2)], [some (.arr (.st (.pair (.int .i64) (.pair .bool (.pair (.sl (.int .u8)) .unit)))) x3 true false 0)]⟩
noncomputable def fE71 (a0 : (Int × (Bool × ((List Int) × Unit)))) : Option (Bool × Unit) := Fn E71 (a0, ())
noncomputable def fE42 (a0 : (List Int)) (a1 : Int) : Option (Int × Unit) := Fn E42 (a0, (a1, ()))
noncomputable def E42_L2 (x0 : (List Int)) (x1 : Int) (x2 : Int) : Option (Int × Unit) := MM C Try.prog E42 (loopAt Try.prog E42 2) ⟨slots 22 0 [(0, .isl none (.int .u8) x0), (1, .int .i64 x1), (5, .int .i64 x2)], []⟩
noncomputable def fE43 (a0 : (Int × (Bool × ((List Int) × Unit)))) (a1 : Int) : Option (Int × Unit) := Fn E43 (a0, (a1, ()))
noncomputable def fE58 (a0 : (List (Int × (Bool × ((List Int) × Unit))))) : Option ((List (Int × (Bool × ((List Int) × Unit)))) × Unit) := Fn E58 (a0, ())
noncomputable def E58_L3 (x0 : (List (Int × (Bool × ((List Int) × Unit))))) (x1 : Int) (x2 : (List (Int × (Bool × ((List Int) × Unit))))) : Option ((List (Int × (Bool × ((List Int) × Unit)))) × Unit) := MM C Try.prog E58 (loopAt Try.prog E58 3) ⟨slots 26 0 [(0, .isl none (.st (.pair (.int .i64) (.pair .bool (.pair (.sl (.int .u8)) .unit)))) x0), (3, .fsl 0), (4, .int .i64 x1)], [some (.arr (.st (.pair (.int .i64) (.pair .bool (.pair (.sl (.int .u8)) .unit)))) x2 true true 0)]⟩
noncomputable def fE47 (a0 : (Int × (Bool × ((List Int) × Unit)))) (a1 : (Int × (Bool × ((List Int) × Unit)))) : Option (Bool × Unit) := Fn E47 (a0, (a1, ()))
noncomputable def fE41 (a0 : (List Int)) (a1 : Int) : Option (Int × ((List Int) × Unit)) := Fn E41 (a0, (a1, ()))
noncomputable def E41_L2 (x0 : Int) (x1 : Int) (x2 : (List Int)) : Option (Int × ((List Int) × Unit)) := MM C Try.prog E41 (loopAt Try.prog E41 2) ⟨slots 20 0 [(0, .fsl 0), (1, .int .i64 x0), (5, .int .i64 x1)], [some (.arr (.int .u8) x2 true true 0)]⟩
noncomputable def fE45 (a0 : (Int × (Bool × ((List Int) × Unit)))) : Option ((Int × (Bool × ((List Int) × Unit))) × Unit) := Fn E45 (a0, ())
noncomputable def fE59 (a0 : (List (Int × (Bool × ((List Int) × Unit))))) : Option ((List (Int × (Bool × ((List Int) × Unit)))) × Unit) := Fn E59 (a0, ())
noncomputable def fE60 (a0 : (List (Int × (Bool × ((List Int) × Unit))))) (a1 : Int) : Option (Int × Unit) := Fn E60 (a0, (a1, ()))
noncomputable def E60_L2 (x0 : (List (Int × (Bool × ((List Int) × Unit))))) (x1 : Int) (x2 : Int) : Option (Int × Unit) := MM C Try.prog E60 (loopAt Try.prog E60 2) ⟨slots 42 0 [(0, .isl none (.st (.pair (.int .i64) (.pair .bool (.pair (.sl (.int .u8)) .unit)))) x0), (1, .int .i64 x1), (5, .int .i64 x2)], []⟩
noncomputable def fE19 (a0 : (List (Int × (Bool × ((List Int) × Unit))))) (a1 : Int) : Option (Int × Unit) := Fn E19 (a0, (a1, ()))
noncomputable def E19_L5 (x0 : (List (Int × (Bool × ((List Int) × Unit))))) (x1 : Int) (x2 : Int) : Option (Int × Unit) := MM C Try.prog E19 (loopAt Try.prog E19 5) ⟨slots 27 0 [(0, .isl none (.st (.pair (.int .i64) (.pair .bool (.pair (.sl (.int .u8)) .unit)))) x0), (1, .int .i64 x1), (5, .int .i64 x2)], []⟩
noncomputable def fE31 (a0 : (List (Int × (Bool × ((List Int) × Unit))))) : Option ((Int × ((List (Int × (Bool × ((List Int) × Unit)))) × Unit)) × Unit) := Fn E31 (a0, ())
noncomputable def E31_L5 (x0 : (List (Int × (Bool × ((List Int) × Unit))))) (x1 : Int) (x2 : Int) (x3 : (List (Int × (Bool × ((List Int) × Unit))))) : Option ((Int × ((List (Int × (Bool × ((List Int) × Unit)))) × Unit)) × Unit) := MM C Try.prog E31 (loopAt Try.prog E31 5) ⟨slots 31 0 [(0, .isl none (.st (.pair (.int .i64) (.pair .bool (.pair (.sl (.int .u8)) .unit)))) x0), (2, .ptr 0 0), (3, .fsl 1), (4, .int .i64 x1)], [some (.box [.int .i64 x2, .nsl]), some (.arr (.st (.pair (.int .i64) (.pair .bool (.pair (.sl (.int .u8)) .unit)))) x3 true true 0)]⟩
noncomputable def E31_L5_1 (x0 : (List (Int × (Bool × ((List Int) × Unit))))) (x1 : Int) (x2 : Int) (x3 : (List (Int × (Bool × ((List Int) × Unit))))) : Option ((Int × ((List (Int × (Bool × ((List Int) × Unit)))) × Unit)) × Unit) := MM C Try.prog E31 (loopAt Try.prog E31 5) ⟨slots 31 0 [(0, .isl none (.st (.pair (.int .i64) (.pair .bool (.pair (.sl (.int .u8)) .unit)))) x0), (2, .ptr 0 0), (3, .fsl 1), (4, .int .i64 x1)], [some (.box [.int .i64 x2, .nsl]), some (.arr (.st (.pair (.int .i64) (.pair .bool (.pair (.sl (.int .u8)) .unit)))) x3 true false 0)]⟩
noncomputable def fE23 (a0 : (List (Int × (Bool × ((List Int) × Unit))))) (a1 : (List (Int × (Bool × ((List Int) × Unit))))) : Option (Bool × Unit) := Fn E23 (a0, (a1, ()))
noncomputable def E23_L4 (x0 : (List (Int × (Bool × ((List Int) × Unit))))) (x1 : (List (Int × (Bool × ((List Int) × Unit))))) (x2 : Int) : Option (Bool × Unit) := MM C Try.prog E23 (loopAt Try.prog E23 4) ⟨slots 27 0 [(0, .isl none (.st (.pair (.int .i64) (.pair .bool (.pair (.sl (.int .u8)) .unit)))) x0), (1, .isl none (.st (.pair (.int .i64) (.pair .bool (.pair (.sl (.int .u8)) .unit)))) x1), (5, .int .i64 x2)], []⟩
noncomputable def fE34 (a0 : (List (Int × (Bool × ((List Int) × Unit))))) (a1 : Int) : Option (Int × ((List (Int × (Bool × ((List Int) × Unit)))) × Unit)) := Fn E34 (a0, (a1, ()))
noncomputable def E34_L2 (x0 : Int) (x1 : Int) (x2 : (List (Int × (Bool × ((List Int) × Unit))))) : Option (Int × ((List (Int × (Bool × ((List Int) × Unit)))) × Unit)) := MM C Try.prog E34 (loopAt Try.prog E34 2) ⟨slots 36 0 [(0, .fsl 0), (1, .int .i64 x0), (5, .int .i64 x1)], [some (.arr (.st (.pair (.int .i64) (.pair .bool (.pair (.sl (.int .u8)) .unit)))) x2 true true 0)]⟩
noncomputable def fE35 (a0 : Int) (a1 : (List (Int × (Bool × ((List Int) × Unit))))) (a2 : Int) : Option (Int × ((List (Int × (Bool × ((List Int) × Unit)))) × Unit)) := Fn E35 (a0, (a1, (a2, ())))
noncomputable def fE21 (a0 : (List (Int × (Bool × ((List Int) × Unit))))) : Option ((List (Int × (Bool × ((List Int) × Unit)))) × Unit) := Fn E21 (a0, ())
noncomputable def E21_L3 (x0 : (List (Int × (Bool × ((List Int) × Unit))))) (x1 : Int) (x2 : (List (Int × (Bool × ((List Int) × Unit))))) : Option ((List (Int × (Bool × ((List Int) × Unit)))) × Unit) := MM C Try.prog E21 (loopAt Try.prog E21 3) ⟨slots 23 0 [(0, .isl none (.st (.pair (.int .i64) (.pair .bool (.pair (.sl (.int .u8)) .unit)))) x0), (3, .fsl 0), (4, .int .i64 x1)], [some (.arr (.st (.pair (.int .i64) (.pair .bool (.pair (.sl (.int .u8)) .unit)))) x2 true true 0)]⟩
noncomputable def fE32 (a0 : (List (Int × (Bool × ((List Int) × Unit))))) : Option ((Int × ((List (Int × (Bool × ((List Int) × Unit)))) × Unit)) × Unit) := Fn E32 (a0, ())
noncomputable def fE33 (a0 : (Int × ((List (Int × (Bool × ((List Int) × Unit)))) × Unit))) (a1 : (Int × ((List (Int × (Bool × ((List Int) × Unit)))) × Unit))) : Option (Bool × Unit) := Fn E33 (a0, (a1, ()))
noncomputable def fE36 (a0 : (Int × ((List (Int × (Bool × ((List Int) × Unit)))) × Unit))) (a1 : Int) : Option (Int × Unit) := Fn E36 (a0, (a1, ()))
noncomputable def fE8 (a0 : (List (Int × (Bool × ((List Int) × Unit))))) : Option (Bool × Unit) := Fn E8 (a0, ())
theorem E74_eq (a0 : (List Int)) : fE74 a0 = br (nsame (llen a0) 0) (both (some (([] : List Int), ())) (br (fits (nadd (llen ([] : List Int)) (llen a0))) (some ((lcat ([] : List Int) a0), ())) (none))) (br (fits (nadd (llen ([] : List Int)) (llen a0))) (some ((lcat ([] : List Int) a0), ())) (none)) := fn_eq (en := E74) rfl (by kernel_rfl) (by kernel_rfl)
theorem E73_eq (a0 : (List (Int × (Bool × ((List Int) × Unit))))) : fE73 a0 = E73_L3 a0 (lnat (llen a0)) 0 ([] : List (Int × (Bool × ((List Int) × Unit)))) := fn_eq (en := E73) rfl (by kernel_rfl) (by kernel_rfl)
theorem E73_L3_eq (x0 : (List (Int × (Bool × ((List Int) × Unit))))) (x1 : Int) (x2 : Int) (x3 : (List (Int × (Bool × ((List Int) × Unit))))) : E73_L3 x0 x1 x2 x3 = br (icm .lss x2 x1) (br (inb x2 (lnat (llen x0))) (bd (fE74 (lget x0 (itn x2) ((0 : Int), (false, (([] : List Int), ())))).2.2.1) fun y0 => br (fits (nadd (llen x3) (llen (((lget x0 (itn x2) ((0 : Int), (false, (([] : List Int), ())))).1, ((lget x0 (itn x2) ((0 : Int), (false, (([] : List Int), ())))).2.1, (y0.1, ()))) :: ([] : List (Int × (Bool × ((List Int) × Unit)))))))) (E73_L3 x0 x1 (iar .add .i64 x2 1) (lcat x3 (((lget x0 (itn x2) ((0 : Int), (false, (([] : List Int), ())))).1, ((lget x0 (itn x2) ((0 : Int), (false, (([] : List Int), ())))).2.1, (y0.1, ()))) :: ([] : List (Int × (Bool × ((List Int) × Unit))))))) (none)) (none)) (some (x3, ())) := (MM_eq _ _ _ _ _).trans (by kernel_rfl)
theorem E62_eq (a0 : (List Int)) (a1 : Int) : fE62 a0 a1 = br (icm .lss (iar .sub .i64 a1 (lnat (llen a0))) 0) (some ((-1 : Int), ())) (some ((iar .sub .i64 a1 (lnat (llen a0))), ())) := fn_eq (en := E62) rfl (by kernel_rfl) (by kernel_rfl)
theorem E69_eq (a0 : (List Int)) : fE69 a0 = br (fits (nadd (llen ([] : List Int)) (llen a0))) (some ((lcat ([] : List Int) a0), ())) (none) := fn_eq (en := E69) rfl (by kernel_rfl) (by kernel_rfl)
theorem E13_eq (a0 : (List Int)) (a1 : (List Int)) : fE13 a0 a1 = br (icm .neq (lnat (llen a0)) (lnat (llen a1))) (some (false, ())) (E13_L4 a0 a1 0) := fn_eq (en := E13) rfl (by kernel_rfl) (by kernel_rfl)
theorem E13_L4_eq (x0 : (List Int)) (x1 : (List Int)) (x2 : Int) : E13_L4 x0 x1 x2 = br (icm .lss x2 (lnat (llen x0))) (br (inb x2 (lnat (llen x0))) (br (inb x2 (lnat (llen x1))) (br (icm .neq (lget x0 (itn x2) (0 : Int)) (lget x1 (itn x2) (0 : Int))) (some (false, ())) (E13_L4 x0 x1 (iar .add .i64 x2 1))) (none)) (none)) (some (true, ())) := (MM_eq _ _ _ _ _).trans (by kernel_rfl)
theorem E10_eq (a0 : (List Int)) : fE10 a0 = br (ile (lnat (llen a0)) (lnat (llen a0))) (br (fits (itn (lnat (llen a0)))) (E10_L3 a0 0 (lrep (itn (lnat (llen a0))) (0 : Int))) (none)) (none) := fn_eq (en := E10) rfl (by kernel_rfl) (by kernel_rfl)
theorem E10_L3_eq (x0 : (List Int)) (x1 : Int) (x2 : (List Int)) : E10_L3 x0 x1 x2 = br (icm .lss x1 (lnat (llen x0))) (br (inb x1 (lnat (llen x0))) (br (inb x1 (lnat (llen x2))) (E10_L3 x0 (iar .add .i64 x1 1) (lmod x2 (itn x1) (fun r0 => (lget x0 (itn x1) (0 : Int))))) (none)) (none)) (some (x2, ())) := (MM_eq _ _ _ _ _).trans (by kernel_rfl)
theorem E70_eq (a0 : (List (Int × (Bool × ((List Int) × Unit))))) : fE70 a0 = E70_L3 a0 (lnat (llen a0)) 0 ([] : List (Int × (Bool × ((List Int) × Unit)))) := fn_eq (en := E70) rfl (by kernel_rfl) (by kernel_rfl)
theorem E70_L3_eq (x0 : (List (Int × (Bool × ((List Int) × Unit))))) (x1 : Int) (x2 : Int) (x3 : (List (Int × (Bool × ((List Int) × Unit))))) : E70_L3 x0 x1 x2 x3 = br (icm .lss x2 x1) (br (inb x2 (lnat (llen x0))) (bd (fE71 ((lget x0 (itn x2) ((0 : Int), (false, (([] : List Int), ())))).1, ((lget x0 (itn x2) ((0 : Int), (false, (([] : List Int), ())))).2.1, ((lget x0 (itn x2) ((0 : Int), (false, (([] : List Int), ())))).2.2.1, ())))) fun y0 => br y0.1 (br (fits (nadd (llen x3) (llen (((lget x0 (itn x2) ((0 : Int), (false, (([] : List Int), ())))).1, ((lget x0 (itn x2) ((0 : Int), (false, (([] : List Int), ())))).2.1, ((lget x0 (itn x2) ((0 : Int), (false, (([] : List Int), ())))).2.2.1, ()))) :: ([] : List (Int × (Bool × ((List Int) × Unit)))))))) (E70_L3_1 x0 x1 (iar .add .i64 x2 1) (lcat x3 (((lget x0 (itn x2) ((0 : Int), (false, (([] : List Int), ())))).1, ((lget x0 (itn x2) ((0 : Int), (false, (([] : List Int), ())))).2.1, ((lget x0 (itn x2) ((0 : Int), (false, (([] : List Int), ())))).2.2.1, ()))) :: ([] : List (Int × (Bool × ((List Int) × Unit))))))) (none)) (E70_L3 x0 x1 (iar .add .i64 x2 1) x3)) (none)) (bd (fE73 x3) fun y1 => some (y1.1, ())) := (MM_eq _ _ _ _ _).trans (by kernel_rfl)
theorem E70_L3_1_eq (x0 : (List (Int × (Bool × ((List Int) × Unit))))) (x1 : Int) (x2 : Int) (x3 : (List (Int × (Bool × ((List Int) × Unit))))) : E70_L3_1 x0 x1 x2 x3 = br (icm .lss x2 x1) (br (inb x2 (lnat (llen x0))) (bd (fE71 ((lget x0 (itn x2) ((0 : Int), (false, (([] : List Int), ())))).1, ((lget x0 (itn x2) ((0 : Int), (false, (([] : List Int), ())))).2.1, ((lget x0 (itn x2) ((0 : Int), (false, (([] : List Int), ())))).2.2.1, ())))) fun y0 => br y0.1 (br (fits (nadd (llen x3) (llen (((lget x0 (itn x2) ((0 : Int), (false, (([] : List Int), ())))).1, ((lget x0 (itn x2) ((0 : Int), (false, (([] : List Int), ())))).2.1, ((lget x0 (itn x2) ((0 : Int), (false, (([] : List Int), ())))).2.2.1, ()))) :: ([] : List (Int × (Bool × ((List Int) × Unit)))))))) (E70_L3_1 x0 x1 (iar .add .i64 x2 1) (lcat x3 (((lget x0 (itn x2) ((0 : Int), (false, (([] : List Int), ())))).1, ((lget x0 (itn x2) ((0 : Int), (false, (([] : List Int), ())))).2.1, ((lget x0 (itn x2) ((0 : Int), (false, (([] : List Int), ())))).2.2.1, ()))) :: ([] : List (Int × (Bool × ((List Int) × Unit))))))) (none)) (E70_L3_1 x0 x1 (iar .add .i64 x2 1) x3)) (none)) (bd (fE73 x3) fun y1 => some (y1.1, ())) := (MM_eq _ _ _ _ _).trans (by kernel_rfl)
theorem E71_eq (a0 : (Int × (Bool × ((List Int) × Unit)))) : fE71 a0 = some (a0.2.1, ()) := fn_eq (en := E71) rfl (by kernel_rfl) (by kernel_rfl)
theorem E42_eq (a0 : (List Int)) (a1 : Int) : fE42 a0 a1 = E42_L2 a0 a1 0 := fn_eq (en := E42) rfl (by kernel_rfl) (by kernel_rfl)
theorem E42_L2_eq (x0 : (List Int)) (x1 : Int) (x2 : Int) : E42_L2 x0 x1 x2 = br (icm .lss x2 (lnat (llen x0))) (br (inb x2 (lnat (llen x0))) (br (icm .neq (lget x0 (itn x2) (0 : Int)) (iwr .u8 x1)) (some ((-1 : Int), ())) (E42_L2 x0 (iar .add .i64 x1 1) (iar .add .i64 x2 1))) (none)) (some (x1, ())) := (MM_eq _ _ _ _ _).trans (by kernel_rfl)
theorem E43_eq (a0 : (Int × (Bool × ((List Int) × Unit)))) (a1 : Int) : fE43 a0 a1 = bd (fE62 a0.2.2.1 a1) fun y0 => br (icm .lss y0.1 0) (some ((-1 : Int), ())) (some (y0.1, ())) := fn_eq (en := E43) rfl (by kernel_rfl) (by kernel_rfl)
theorem E58_eq (a0 : (List (Int × (Bool × ((List Int) × Unit))))) : fE58 a0 = E58_L3 a0 0 ([] : List (Int × (Bool × ((List Int) × Unit)))) := fn_eq (en := E58) rfl (by kernel_rfl) (by kernel_rfl)
theorem E58_L3_eq (x0 : (List (Int × (Bool × ((List Int) × Unit))))) (x1 : Int) (x2 : (List (Int × (Bool × ((List Int) × Unit))))) : E58_L3 x0 x1 x2 = br (icm .lss x1 (lnat (llen x0))) (br (inb x1 (lnat (llen x0))) (bd (fE69 (lget x0 (itn x1) ((0 : Int), (false, (([] : List Int), ())))).2.2.1) fun y0 => br (fits (nadd (llen x2) (llen (((lget x0 (itn x1) ((0 : Int), (false, (([] : List Int), ())))).1, ((lget x0 (itn x1) ((0 : Int), (false, (([] : List Int), ())))).2.1, (y0.1, ()))) :: ([] : List (Int × (Bool × ((List Int) × Unit)))))))) (E58_L3 x0 (iar .add .i64 x1 1) (lcat x2 (((lget x0 (itn x1) ((0 : Int), (false, (([] : List Int), ())))).1, ((lget x0 (itn x1) ((0 : Int), (false, (([] : List Int), ())))).2.1, (y0.1, ()))) :: ([] : List (Int × (Bool × ((List Int) × Unit))))))) (none)) (none)) (some (x2, ())) := (MM_eq _ _ _ _ _).trans (by kernel_rfl)
theorem E47_eq (a0 : (Int × (Bool × ((List Int) × Unit)))) (a1 : (Int × (Bool × ((List Int) × Unit)))) : fE47 a0 a1 = br (icm .neq a0.1 a1.1) (some (false, ())) (br (bnot (beqv a0.2.1 a1.2.1)) (some (false, ())) (bd (fE13 a0.2.2.1 a1.2.2.1) fun y0 => br (bnot y0.1) (some (false, ())) (some (true, ())))) := fn_eq (en := E47) rfl (by kernel_rfl) (by kernel_rfl)
theorem E41_eq (a0 : (List Int)) (a1 : Int) : fE41 a0 a1 = E41_L2 a1 0 a0 := fn_eq (en := E41) rfl (by kernel_rfl) (by kernel_rfl)
theorem E41_L2_eq (x0 : Int) (x1 : Int) (x2 : (List Int)) : E41_L2 x0 x1 x2 = br (icm .lss x1 (lnat (llen x2))) (br (inb x1 (lnat (llen x2))) (E41_L2 (iar .add .i64 x0 1) (iar .add .i64 x1 1) (lmod x2 (itn x1) (fun r0 => (iwr .u8 x0)))) (none)) (some (x0, (x2, ()))) := (MM_eq _ _ _ _ _).trans (by kernel_rfl)
theorem E45_eq (a0 : (Int × (Bool × ((List Int) × Unit)))) : fE45 a0 = bd (fE10 a0.2.2.1) fun y0 => some ((a0.1, (a0.2.1, (y0.1, ()))), ()) := fn_eq (en := E45) rfl (by kernel_rfl) (by kernel_rfl)
theorem E59_eq (a0 : (List (Int × (Bool × ((List Int) × Unit))))) : fE59 a0 = bd (fE70 a0) fun y0 => some (y0.1, ()) := fn_eq (en := E59) rfl (by kernel_rfl) (by kernel_rfl)
theorem E60_eq (a0 : (List (Int × (Bool × ((List Int) × Unit))))) (a1 : Int) : fE60 a0 a1 = E60_L2 a0 a1 0 := fn_eq (en := E60) rfl (by kernel_rfl) (by kernel_rfl)
theorem E60_L2_eq (x0 : (List (Int × (Bool × ((List Int) × Unit))))) (x1 : Int) (x2 : Int) : E60_L2 x0 x1 x2 = br (icm .lss x2 (lnat (llen x0))) (br (inb x2 (lnat (llen x0))) (br (icm .neq (lget x0 (itn x2) ((0 : Int), (false, (([] : List Int), ())))).1 x1) (some ((-1 : Int), ())) (br (inb x2 (lnat (llen x0))) (br (bnot (beqv (lget x0 (itn x2) ((0 : Int), (false, (([] : List Int), ())))).2.1 (icm .eql (iar .rem .i64 (iar .add .i64 x1 1) 3) 0))) (some ((-1 : Int), ())) (br (inb x2 (lnat (llen x0))) (bd (fE42 (lget x0 (itn x2) ((0 : Int), (false, (([] : List Int), ())))).2.2.1 (iar .add .i64 (iar .add .i64 x1 1) 1)) fun y0 => br (icm .lss y0.1 0) (some ((-1 : Int), ())) (E60_L2 x0 y0.1 (iar .add .i64 x2 1))) (none))) (none))) (none)) (some (x1, ())) := (MM_eq _ _ _ _ _).trans (by kernel_rfl)
theorem E19_eq (a0 : (List (Int × (Bool × ((List Int) × Unit))))) (a1 : Int) : fE19 a0 a1 = br (icm .lss (iar .sub .i64 a1 (lnat (llen a0))) 0) (some ((-1 : Int), ())) (E19_L5 a0 (iar .sub .i64 a1 (lnat (llen a0))) 0) := fn_eq (en := E19) rfl (by kernel_rfl) (by kernel_rfl)
theorem E19_L5_eq (x0 : (List (Int × (Bool × ((List Int) × Unit))))) (x1 : Int) (x2 : Int) : E19_L5 x0 x1 x2 = br (icm .lss x2 (lnat (llen x0))) (br (inb x2 (lnat (llen x0))) (bd (fE43 ((lget x0 (itn x2) ((0 : Int), (false, (([] : List Int), ())))).1, ((lget x0 (itn x2) ((0 : Int), (false, (([] : List Int), ())))).2.1, ((lget x0 (itn x2) ((0 : Int), (false, (([] : List Int), ())))).2.2.1, ()))) x1) fun y0 => br (icm .lss y0.1 0) (some ((-1 : Int), ())) (E19_L5 x0 y0.1 (iar .add .i64 x2 1))) (none)) (some (x1, ())) := (MM_eq _ _ _ _ _).trans (by kernel_rfl)
theorem E31_eq (a0 : (List (Int × (Bool × ((List Int) × Unit))))) : fE31 a0 = br (icm .gtr (lnat (llen a0)) 200) (some (((2 : Int), (([] : List (Int × (Bool × ((List Int) × Unit)))), ())), ())) (E31_L5 a0 0 0 ([] : List (Int × (Bool × ((List Int) × Unit))))) := fn_eq (en := E31) rfl (by kernel_rfl) (by kernel_rfl)
theorem E31_L5_eq (x0 : (List (Int × (Bool × ((List Int) × Unit))))) (x1 : Int) (x2 : Int) (x3 : (List (Int × (Bool × ((List Int) × Unit))))) : E31_L5 x0 x1 x2 x3 = br (icm .lss x1 (lnat (llen x0))) (br (inb x1 (lnat (llen x0))) (br (lget x0 (itn x1) ((0 : Int), (false, (([] : List Int), ())))).2.1 (br (inb x1 (lnat (llen x0))) (br (fits (nadd (llen x3) (llen (((lget x0 (itn x1) ((0 : Int), (false, (([] : List Int), ())))).1, ((lget x0 (itn x1) ((0 : Int), (false, (([] : List Int), ())))).2.1, ((lget x0 (itn x1) ((0 : Int), (false, (([] : List Int), ())))).2.2.1, ()))) :: ([] : List (Int × (Bool × ((List Int) × Unit)))))))) (E31_L5_1 x0 (iar .add .i64 x1 1) x2 (lcat x3 (((lget x0 (itn x1) ((0 : Int), (false, (([] : List Int), ())))).1, ((lget x0 (itn x1) ((0 : Int), (false, (([] : List Int), ())))).2.1, ((lget x0 (itn x1) ((0 : Int), (false, (([] : List Int), ())))).2.2.1, ()))) :: ([] : List (Int × (Bool × ((List Int) × Unit))))))) (none)) (none)) (E31_L5 x0 (iar .add .i64 x1 1) x2 x3)) (none)) (bd (fE58 x3) fun y0 => some (((0 : Int), (y0.1, ())), ())) := (MM_eq _ _ _ _ _).trans (by kernel_rfl)
theorem E31_L5_1_eq (x0 : (List (Int × (Bool × ((List Int) × Unit))))) (x1 : Int) (x2 : Int) (x3 : (List (Int × (Bool × ((List Int) × Unit))))) : E31_L5_1 x0 x1 x2 x3 = br (icm .lss x1 (lnat (llen x0))) (br (inb x1 (lnat (llen x0))) (br (lget x0 (itn x1) ((0 : Int), (false, (([] : List Int), ())))).2.1 (br (inb x1 (lnat (llen x0))) (br (fits (nadd (llen x3) (llen (((lget x0 (itn x1) ((0 : Int), (false, (([] : List Int), ())))).1, ((lget x0 (itn x1) ((0 : Int), (false, (([] : List Int), ())))).2.1, ((lget x0 (itn x1) ((0 : Int), (false, (([] : List Int), ())))).2.2.1, ()))) :: ([] : List (Int × (Bool × ((List Int) × Unit)))))))) (E31_L5_1 x0 (iar .add .i64 x1 1) x2 (lcat x3 (((lget x0 (itn x1) ((0 : Int), (false, (([] : List Int), ())))).1, ((lget x0 (itn x1) ((0 : Int), (false, (([] : List Int), ())))).2.1, ((lget x0 (itn x1) ((0 : Int), (false, (([] : List Int), ())))).2.2.1, ()))) :: ([] : List (Int × (Bool × ((List Int) × Unit))))))) (none)) (none)) (E31_L5_1 x0 (iar .add .i64 x1 1) x2 x3)) (none)) (bd (fE58 x3) fun y0 => some (((0 : Int), (y0.1, ())), ())) := (MM_eq _ _ _ _ _).trans (by kernel_rfl)
theorem E23_eq (a0 : (List (Int × (Bool × ((List Int) × Unit))))) (a1 : (List (Int × (Bool × ((List Int) × Unit))))) : fE23 a0 a1 = br (icm .neq (lnat (llen a0)) (lnat (llen a1))) (some (false, ())) (E23_L4 a0 a1 0) := fn_eq (en := E23) rfl (by kernel_rfl) (by kernel_rfl)
theorem E23_L4_eq (x0 : (List (Int × (Bool × ((List Int) × Unit))))) (x1 : (List (Int × (Bool × ((List Int) × Unit))))) (x2 : Int) : E23_L4 x0 x1 x2 = br (icm .lss x2 (lnat (llen x0))) (br (inb x2 (lnat (llen x0))) (br (inb x2 (lnat (llen x1))) (bd (fE47 ((lget x0 (itn x2) ((0 : Int), (false, (([] : List Int), ())))).1, ((lget x0 (itn x2) ((0 : Int), (false, (([] : List Int), ())))).2.1, ((lget x0 (itn x2) ((0 : Int), (false, (([] : List Int), ())))).2.2.1, ()))) ((lget x1 (itn x2) ((0 : Int), (false, (([] : List Int), ())))).1, ((lget x1 (itn x2) ((0 : Int), (false, (([] : List Int), ())))).2.1, ((lget x1 (itn x2) ((0 : Int), (false, (([] : List Int), ())))).2.2.1, ())))) fun y0 => br (bnot y0.1) (some (false, ())) (E23_L4 x0 x1 (iar .add .i64 x2 1))) (none)) (none)) (some (true, ())) := (MM_eq _ _ _ _ _).trans (by kernel_rfl)
theorem E34_eq (a0 : (List (Int × (Bool × ((List Int) × Unit))))) (a1 : Int) : fE34 a0 a1 = E34_L2 a1 0 a0 := fn_eq (en := E34) rfl (by kernel_rfl) (by kernel_rfl)
theorem E34_L2_eq (x0 : Int) (x1 : Int) (x2 : (List (Int × (Bool × ((List Int) × Unit))))) : E34_L2 x0 x1 x2 = br (icm .lss x1 (lnat (llen x2))) (br (inb x1 (lnat (llen x2))) (br (inb x1 (lnat (llen (lmod x2 (itn x1) (fun r0 => (x0, r0.2)))))) (br (inb x1 (lnat (llen (lmod (lmod x2 (itn x1) (fun r1 => (x0, r1.2))) (itn x1) (fun r2 => (r2.1, ((icm .eql (iar .rem .i64 (iar .add .i64 x0 1) 3) 0), r2.2.2))))))) (bd (fE41 (lget (lmod (lmod x2 (itn x1) (fun r3 => (x0, r3.2))) (itn x1) (fun r4 => (r4.1, ((icm .eql (iar .rem .i64 (iar .add .i64 x0 1) 3) 0), r4.2.2)))) (itn x1) ((0 : Int), (false, (([] : List Int), ())))).2.2.1 (iar .add .i64 (iar .add .i64 x0 1) 1)) fun y5 => br (nsame (llen y5.2.1) (llen (lget (lmod (lmod x2 (itn x1) (fun r6 => (x0, r6.2))) (itn x1) (fun r7 => (r7.1, ((icm .eql (iar .rem .i64 (iar .add .i64 x0 1) 3) 0), r7.2.2)))) (itn x1) ((0 : Int), (false, (([] : List Int), ())))).2.2.1)) (E34_L2 y5.1 (iar .add .i64 x1 1) (lmod (lmod (lmod x2 (itn x1) (fun r8 => (x0, r8.2))) (itn x1) (fun r9 => (r9.1, ((icm .eql (iar .rem .i64 (iar .add .i64 x0 1) 3) 0), r9.2.2)))) (itn x1) (fun r10 => (r10.1, (r10.2.1, (y5.2.1, r10.2.2.2)))))) (none)) (none)) (none)) (none)) (some (x0, (x2, ()))) := (MM_eq _ _ _ _ _).trans (by kernel_rfl)
theorem E35_eq (a0 : Int) (a1 : (List (Int × (Bool × ((List Int) × Unit))))) (a2 : Int) : fE35 a0 a1 a2 = bd (fE34 a1 a2) fun y0 => br (nsame (llen y0.2.1) (llen a1)) (some (y0.1, (y0.2.1, ()))) (none) := fn_eq (en := E35) rfl (by kernel_rfl) (by kernel_rfl)
theorem E21_eq (a0 : (List (Int × (Bool × ((List Int) × Unit))))) : fE21 a0 = br (ile (lnat (llen a0)) (lnat (llen a0))) (br (fits (itn (lnat (llen a0)))) (E21_L3 a0 0 (lrep (itn (lnat (llen a0))) ((0 : Int), (false, (([] : List Int), ()))))) (none)) (none) := fn_eq (en := E21) rfl (by kernel_rfl) (by kernel_rfl)
theorem E21_L3_eq (x0 : (List (Int × (Bool × ((List Int) × Unit))))) (x1 : Int) (x2 : (List (Int × (Bool × ((List Int) × Unit))))) : E21_L3 x0 x1 x2 = br (icm .lss x1 (lnat (llen x0))) (br (inb x1 (lnat (llen x0))) (bd (fE45 ((lget x0 (itn x1) ((0 : Int), (false, (([] : List Int), ())))).1, ((lget x0 (itn x1) ((0 : Int), (false, (([] : List Int), ())))).2.1, ((lget x0 (itn x1) ((0 : Int), (false, (([] : List Int), ())))).2.2.1, ())))) fun y0 => br (inb x1 (lnat (llen x2))) (E21_L3 x0 (iar .add .i64 x1 1) (lmod x2 (itn x1) (fun r1 => (y0.1.1, (y0.1.2.1, (y0.1.2.2.1, ())))))) (none)) (none)) (some (x2, ())) := (MM_eq _ _ _ _ _).trans (by kernel_rfl)
theorem E32_eq (a0 : (List (Int × (Bool × ((List Int) × Unit))))) : fE32 a0 = br (icm .gtr (lnat (llen a0)) 200) (some (((2 : Int), (([] : List (Int × (Bool × ((List Int) × Unit)))), ())), ())) (bd (fE59 a0) fun y0 => some (((0 : Int), (y0.1, ())), ())) := fn_eq (en := E32) rfl (by kernel_rfl) (by kernel_rfl)
theorem E33_eq (a0 : (Int × ((List (Int × (Bool × ((List Int) × Unit)))) × Unit))) (a1 : (Int × ((List (Int × (Bool × ((List Int) × Unit)))) × Unit))) : fE33 a0 a1 = br (icm .neq a0.1 a1.1) (some (false, ())) (bd (fE23 a0.2.1 a1.2.1) fun y0 => br (bnot y0.1) (some (false, ())) (some (true, ()))) := fn_eq (en := E33) rfl (by kernel_rfl) (by kernel_rfl)
theorem E36_eq (a0 : (Int × ((List (Int × (Bool × ((List Int) × Unit)))) × Unit))) (a1 : Int) : fE36 a0 a1 = bd (fE60 a0.2.1 a1) fun y0 => br (icm .lss y0.1 0) (some ((-1 : Int), ())) (some (y0.1, ())) := fn_eq (en := E36) rfl (by kernel_rfl) (by kernel_rfl)
theorem E8_eq (a0 : (List (Int × (Bool × ((List Int) × Unit))))) : fE8 a0 = bd (fE19 a0 (1048576 : Int)) fun y0 => br (icm .lss y0.1 0) (some (true, ())) (bd (fE21 a0) fun y1 => bd (fE31 y1.1) fun y2 => bd (fE21 a0) fun y3 => bd (fE32 y3.1) fun y4 => bd (fE33 (y4.1.1, (y4.1.2.1, ())) (y2.1.1, (y2.1.2.1, ()))) fun y5 => br (bnot y5.1) (some (false, ())) (bd (fE21 a0) fun y6 => bd (fE23 y3.1 y6.1) fun y7 => br (bnot y7.1) (some (false, ())) (bd (fE34 y3.1 (1 : Int)) fun y8 => br (nsame (llen y8.2.1) (llen y3.1)) (br (icm .lss y8.1 0) (some (false, ())) (bd (fE33 (y4.1.1, (y4.1.2.1, ())) (y2.1.1, (y2.1.2.1, ()))) fun y9 => br (bnot y9.1) (some (false, ())) (bd (fE35 y4.1.1 y4.1.2.1 (1 : Int)) fun y10 => br (nsame (llen y10.2.1) (llen y4.1.2.1)) (bd (fE36 (y4.1.1, (y10.2.1, ())) (1 : Int)) fun y11 => br (icm .lss y11.1 0) (some (false, ())) (br (icm .neq y11.1 y10.1) (some (false, ())) (bd (fE21 a0) fun y12 => bd (fE32 y12.1) fun y13 => bd (fE33 (y13.1.1, (y13.1.2.1, ())) (y2.1.1, (y2.1.2.1, ()))) fun y14 => br (bnot y14.1) (some (false, ())) (bd (fE36 (y4.1.1, (y10.2.1, ())) (1 : Int)) fun y15 => br (icm .lss y15.1 0) (some (false, ())) (br (icm .neq y15.1 y10.1) (some (false, ())) (some (true, ()))))))) (none)))) (none)))) := fn_eq (en := E8) rfl (by kernel_rfl) (by kernel_rfl)
end Go.Proofs.Ytijelhbbkjjciaa.Lo
