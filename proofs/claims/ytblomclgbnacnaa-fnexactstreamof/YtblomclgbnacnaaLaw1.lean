/- The tables and the entries of the law FnExactStreamOf, and what the evaluator says of each function that it reaches. -/
import Derived.Test.YtblomclgbnacnaaEv4
import Derived.Test.YtblomclgbnacnaaChecked
import Derived.KernelRfl
set_option linter.unusedVariables false
set_option linter.unusedSimpArgs false
namespace Go.Proofs.Ytblomclgbnacnaa.So
open Go Go.Evr
def tt : List (Option Ty) := [
  none,
  some .ref,
  some (.int .i64),
  some (.int .i64),
  some .bool,
  some (.int .u8),
  some (.int .u8),
  some (.st (.pair (.int .i64) (.pair (.int .i64) (.pair .bool (.pair (.int .u8) .unit))))),
  some (.st (.pair (.int .i64) (.pair (.int .i64) (.pair .bool (.pair (.int .u8) .unit))))),
  some .str,
  some .str,
  some .str,
  some (.int .u64),
  none,
  none,
  some .ref,
  some .ref,
  some .ref,
  none,
  none,
  none,
  some (.int .i32),
  some (.sl (.st (.pair (.int .i64) (.pair .bool (.pair (.sl (.int .u8)) .unit))))),
  some .ref,
  some (.sl (.st (.pair (.int .i64) (.pair .bool (.pair (.sl (.int .u8)) .unit))))),
  some (.st (.pair (.int .i64) (.pair (.sl (.st (.pair (.int .i64) (.pair .bool (.pair (.sl (.int .u8)) .unit))))) .unit))),
  some (.st (.pair (.int .i64) (.pair (.sl (.st (.pair (.int .i64) (.pair .bool (.pair (.sl (.int .u8)) .unit))))) .unit))),
  some .ref,
  some .ref,
  some .ref,
  some .ref,
  some .ref,
  some .ref,
  some .ref,
  some (.sl (.int .u8)),
  some .ref,
  none,
  some .ref,
  some .ref,
  none,
  some .ref,
  some .ref,
  some (.sl (.st (.pair (.int .i64) (.pair (.int .i64) .unit)))),
  some (.st (.pair (.int .i64) (.pair (.sl (.st (.pair (.int .i64) (.pair (.int .i64) .unit)))) .unit))),
  some (.st (.pair (.int .i64) (.pair (.sl (.st (.pair (.int .i64) (.pair (.int .i64) .unit)))) .unit))),
  some .ref,
  some (.st (.pair (.int .i64) (.pair (.int .i64) (.pair (.sl (.int .u8)) .unit)))),
  some (.st (.pair (.int .i64) (.pair (.int .i64) (.pair (.sl (.int .u8)) .unit)))),
  some (.st (.pair (.int .i64) (.pair (.st (.pair (.int .i64) (.pair (.int .i64) (.pair (.sl (.int .u8)) .unit)))) .unit))),
  some (.st (.pair (.int .i64) (.pair (.st (.pair (.int .i64) (.pair (.int .i64) (.pair (.sl (.int .u8)) .unit)))) .unit))),
  some .ref,
  some (.sl (.int .i64)),
  some (.st (.pair (.int .i64) (.pair (.sl (.int .i64)) .unit))),
  some (.st (.pair (.int .i64) (.pair (.sl (.int .i64)) .unit))),
  some .ref,
  some .ref,
  some (.st (.pair (.int .i64) (.pair (.st (.pair (.int .i64) (.pair (.sl (.st (.pair (.int .i64) (.pair (.int .i64) .unit)))) .unit))) .unit))),
  some (.st (.pair (.int .i64) (.pair (.st (.pair (.int .i64) (.pair (.sl (.st (.pair (.int .i64) (.pair (.int .i64) .unit)))) .unit))) .unit))),
  some .ref,
  some (.st (.pair (.int .i64) (.pair (.int .i64) .unit))),
  some (.st (.pair (.int .i64) (.pair (.int .i64) .unit))),
  some (.st (.pair (.int .i64) (.pair (.st (.pair (.int .i64) (.pair (.sl (.int .i64)) .unit))) .unit))),
  some (.st (.pair (.int .i64) (.pair (.st (.pair (.int .i64) (.pair (.sl (.int .i64)) .unit))) .unit))),
  some .ref,
  some .ref,
  some (.st (.pair (.int .i64) (.pair (.int .i64) (.pair (.sl (.int .u8)) .unit)))),
  some .ref,
  some (.st (.pair (.int .i64) (.pair (.int .i64) (.pair (.int .i64) (.pair .bool (.pair .bool (.pair .bool (.pair (.sl (.int .u8)) .unit)))))))),
  some (.st (.pair (.int .i64) (.pair (.int .i64) (.pair (.int .i64) (.pair .bool (.pair .bool (.pair .bool (.pair (.sl (.int .u8)) .unit)))))))),
  some (.st (.pair (.int .i64) (.pair (.st (.pair (.int .i64) (.pair (.int .i64) (.pair (.int .i64) (.pair .bool (.pair .bool (.pair .bool (.pair (.sl (.int .u8)) .unit)))))))) .unit))),
  some (.st (.pair (.int .i64) (.pair (.st (.pair (.int .i64) (.pair (.int .i64) (.pair (.int .i64) (.pair .bool (.pair .bool (.pair .bool (.pair (.sl (.int .u8)) .unit)))))))) .unit))),
  some .ref,
  some .ref,
  some .ref,
  some .ref,
  some .ref,
  some .ref,
  some .ref,
  some .ref,
  some .ref,
  some .ref,
  some .ref,
  some .ref,
  some (.st (.pair (.int .i64) (.pair .bool (.pair (.sl (.int .u8)) .unit)))),
  some (.st (.pair (.int .i64) (.pair .bool (.pair (.sl (.int .u8)) .unit)))),
  some .ref,
  some (.st (.pair (.int .i64) (.pair .bool (.pair (.sl (.int .u8)) .unit)))),
  some .ref,
  some .ref,
  some .ref,
  some .ref,
  some .ref,
  some .ref,
  some .ref,
  some .ref,
  some .ref,
  some .ref,
  some .ref,
  some .ref,
  some .ref,
  some .ref,
  some .ref,
  some .ref,
  some .ref,
  some .ref,
  some .ref,
  some .ref,
  some .ref,
  some .ref,
  some .ref,
  some .ref,
  some .ref,
  some .ref,
  some .ref,
  some .ref,
  some .ref,
  some .ref,
  some .ref,
  some .ref,
  some (.st (.pair (.sl (.int .u8)) .unit)),
  some (.st (.pair (.sl (.int .u8)) .unit)),
  some .ref,
  some .ref,
  some .ref,
  some .ref,
  some .ref,
  some .ref,
  some .ref,
  some .ref,
  some .ref,
  some .ref,
  none,
  some .ref,
  some .ref,
  some .ref,
  some .ref,
  some .ref,
  some .ref,
  some (.st (.pair (.sl (.int .u8)) (.pair (.int .i64) .unit))),
  some (.st (.pair (.sl (.int .u8)) (.pair (.int .i64) .unit))),
  some .ref,
  some (.int .u64),
  some (.sl (.sl (.int .u8))),
  some .ref,
  some .ref,
  some .ref,
  some .ref,
  some .ref,
  some .ref,
  some .ref,
  some .ref,
  some .ref,
  some .ref,
  some .ref,
  none,
  none,
  none,
  none,
  none,
  some .ref,
  some (.int .u32),
  some (.int .u8),
  some (.int .u8),
  some .ref,
  some .ref,
  some (.int .i32),
  some (.int .i32),
  none,
  none,
  some .ref,
  none]
def live : List (Nat × List (Nat × List Nat)) := [
  (5, [(14, [3, 5, 6, 7, 8])]),
  (9, [(5, [0, 1, 5])]),
  (10, [(7, [0, 1, 4, 5, 6])]),
  (11, [(3, [0, 3, 4])]),
  (14, [(4, [0, 1, 5])]),
  (15, [(2, [0, 1, 5])]),
  (21, [(5, [4, 5, 6, 7])]),
  (23, [(5, [0, 2, 3, 4])]),
  (25, [(2, [0, 1, 5])]),
  (29, [(3, [0, 1, 5, 6])]),
  (31, [(6, [2, 4, 23, 24, 25])]),
  (36, [(4, [1, 2, 3, 4, 5])]),
  (37, [(4, [1, 2, 3, 4, 5])]),
  (38, [(4, [0, 1, 5])]),
  (52, [(8, [1, 2, 4, 5])]),
  (58, [(3, [0, 3, 4])]),
  (63, [(2, [0, 1, 5])]),
  (64, [(2, [0, 1, 5])]),
  (66, [(5, [0, 3, 4])]),
  (73, [(3, [3, 5, 8, 9, 10])]),
  (74, [(3, [0, 3, 5, 6])]),
  (75, [(4, [0, 1, 5])]),
  (76, [(4, [1, 2, 15, 16, 17])]),
  (78, [(4, [0, 1, 12, 13])]),
  (80, [(3, [0, 3, 4])]),
  (81, [(6, [17, 18, 19])]),
  (84, [(3, [0, 3, 4])]),
  (85, [(6, [17, 18, 19])]),
  (86, [(3, [3, 7, 8, 9])]),
  (87, [(6, [0, 3])]),
  (89, [(3, [0, 2, 3, 4])]),
  (90, [(6, [0, 3])]),
  (92, [(3, [5, 10, 11, 12])]),
  (101, [(3, [0, 3, 4])]),
  (105, [(4, [0, 1, 5])]),
  (108, [(8, [0, 1, 7, 8, 9])]),
  (116, [(3, [1, 5, 9, 10, 11])]),
  (118, [(2, [0, 1, 5])]),
  (120, [(2, [0, 1, 7, 8])]),
  (124, [(3, [0, 3, 9, 10, 11]), (11, [6, 25, 26, 27])]),
  (128, [(3, [0, 3, 4])]),
  (137, [(4, [0, 1, 5])]),
  (138, [(2, [0, 1, 5])]),
  (139, [(2, [0, 1, 5])]),
  (140, [(4, [0, 1, 5])]),
  (141, [(2, [0, 1, 5])]),
  (142, [(2, [0, 1, 5])]),
  (143, [(3, [3, 7, 8, 9])])]
def E102 : Entry := { id := 103, fid := 102, ps := [.view (.sl (.int .u8))], rs := [(.sl (.int .u8))], hook := none }
def E143 : Entry := { id := 144, fid := 143, ps := [.view (.sl (.st (.pair (.int .i64) (.pair .bool (.pair (.sl (.int .u8)) .unit)))))], rs := [(.sl (.st (.pair (.int .i64) (.pair .bool (.pair (.sl (.int .u8)) .unit)))))], hook := none }
def E94 : Entry := { id := 95, fid := 94, ps := [.view (.sl (.int .u8)), .view (.int .i64)], rs := [(.int .i64)], hook := none }
def E98 : Entry := { id := 99, fid := 98, ps := [.view (.sl (.int .u8))], rs := [(.sl (.int .u8))], hook := none }
def E105 : Entry := { id := 106, fid := 105, ps := [.view (.sl (.int .u8)), .view (.sl (.int .u8))], rs := [.bool], hook := none }
def E101 : Entry := { id := 102, fid := 101, ps := [.view (.sl (.int .u8))], rs := [(.sl (.int .u8))], hook := none }
def E115 : Entry := { id := 116, fid := 115, ps := [.view (.int .i64), .view (.int .i64), .view (.int .i64)], rs := [.bool], hook := none }
def E117 : Entry := { id := 118, fid := 117, ps := [.view (.st (.pair (.int .i64) (.pair .bool (.pair (.sl (.int .u8)) .unit)))), .ro (.int .i64)], rs := [.bool], hook := none }
def E116 : Entry := { id := 117, fid := 116, ps := [.view (.sl (.st (.pair (.int .i64) (.pair .bool (.pair (.sl (.int .u8)) .unit))))), .clo 117 0 1, .ro (.int .i64)], rs := [(.sl (.st (.pair (.int .i64) (.pair .bool (.pair (.sl (.int .u8)) .unit)))))], hook := none }
def E118 : Entry := { id := 119, fid := 118, ps := [.view (.sl (.int .u8)), .view (.int .i64)], rs := [(.int .i64)], hook := none }
def E56 : Entry := { id := 57, fid := 56, ps := [.view (.st (.pair (.int .i64) (.pair .bool (.pair (.sl (.int .u8)) .unit)))), .view (.int .i64)], rs := [(.int .i64)], hook := none }
def E57 : Entry := { id := 58, fid := 57, ps := [.view (.int .i64), .view (.int .i64), .view (.int .i64)], rs := [.bool], hook := none }
def E58 : Entry := { id := 59, fid := 58, ps := [.view (.sl (.st (.pair (.int .i64) (.pair .bool (.pair (.sl (.int .u8)) .unit)))))], rs := [(.sl (.st (.pair (.int .i64) (.pair .bool (.pair (.sl (.int .u8)) .unit)))))], hook := none }
def E62 : Entry := { id := 63, fid := 62, ps := [.view (.st (.pair (.int .i64) (.pair .bool (.pair (.sl (.int .u8)) .unit)))), .view (.st (.pair (.int .i64) (.pair .bool (.pair (.sl (.int .u8)) .unit))))], rs := [.bool], hook := none }
def E63 : Entry := { id := 64, fid := 63, ps := [.mut (.int .u8), .view (.int .i64)], rs := [(.int .i64)], hook := none }
def E59 : Entry := { id := 60, fid := 59, ps := [.view (.st (.pair (.int .i64) (.pair .bool (.pair (.sl (.int .u8)) .unit))))], rs := [(.st (.pair (.int .i64) (.pair .bool (.pair (.sl (.int .u8)) .unit))))], hook := none }
def E60 : Entry := { id := 61, fid := 60, ps := [.view (.int .i64)], rs := [.bool], hook := none }
def E61 : Entry := { id := 62, fid := 61, ps := [.view (.sl (.st (.pair (.int .i64) (.pair .bool (.pair (.sl (.int .u8)) .unit))))), .view (.int .i64)], rs := [(.sl (.st (.pair (.int .i64) (.pair .bool (.pair (.sl (.int .u8)) .unit)))))], hook := none }
def E64 : Entry := { id := 65, fid := 64, ps := [.view (.sl (.st (.pair (.int .i64) (.pair .bool (.pair (.sl (.int .u8)) .unit))))), .view (.int .i64)], rs := [(.int .i64)], hook := none }
def E9 : Entry := { id := 10, fid := 9, ps := [.view (.sl (.st (.pair (.int .i64) (.pair .bool (.pair (.sl (.int .u8)) .unit))))), .view (.int .i64)], rs := [(.int .i64)], hook := none }
def E10 : Entry := { id := 11, fid := 10, ps := [.view (.sl (.st (.pair (.int .i64) (.pair .bool (.pair (.sl (.int .u8)) .unit))))), .view (.int .i64)], rs := [(.st (.pair (.int .i64) (.pair (.sl (.st (.pair (.int .i64) (.pair .bool (.pair (.sl (.int .u8)) .unit))))) .unit)))], hook := none }
def E14 : Entry := { id := 15, fid := 14, ps := [.view (.sl (.st (.pair (.int .i64) (.pair .bool (.pair (.sl (.int .u8)) .unit))))), .view (.sl (.st (.pair (.int .i64) (.pair .bool (.pair (.sl (.int .u8)) .unit)))))], rs := [.bool], hook := none }
def E15 : Entry := { id := 16, fid := 15, ps := [.mut (.st (.pair (.int .i64) (.pair .bool (.pair (.sl (.int .u8)) .unit)))), .view (.int .i64)], rs := [(.int .i64)], hook := none }
def E16 : Entry := { id := 17, fid := 16, ps := [.agg 2, .view (.int .i64), .mut (.st (.pair (.int .i64) (.pair .bool (.pair (.sl (.int .u8)) .unit)))), .view (.int .i64)], rs := [(.int .i64)], hook := none }
def E11 : Entry := { id := 12, fid := 11, ps := [.view (.sl (.st (.pair (.int .i64) (.pair .bool (.pair (.sl (.int .u8)) .unit)))))], rs := [(.sl (.st (.pair (.int .i64) (.pair .bool (.pair (.sl (.int .u8)) .unit)))))], hook := none }
def E12 : Entry := { id := 13, fid := 12, ps := [.view (.sl (.st (.pair (.int .i64) (.pair .bool (.pair (.sl (.int .u8)) .unit))))), .view (.int .i64)], rs := [(.st (.pair (.int .i64) (.pair (.sl (.st (.pair (.int .i64) (.pair .bool (.pair (.sl (.int .u8)) .unit))))) .unit)))], hook := none }
def E13 : Entry := { id := 14, fid := 13, ps := [.view (.st (.pair (.int .i64) (.pair (.sl (.st (.pair (.int .i64) (.pair .bool (.pair (.sl (.int .u8)) .unit))))) .unit))), .view (.st (.pair (.int .i64) (.pair (.sl (.st (.pair (.int .i64) (.pair .bool (.pair (.sl (.int .u8)) .unit))))) .unit)))], rs := [.bool], hook := none }
def E17 : Entry := { id := 18, fid := 17, ps := [.view (.st (.pair (.int .i64) (.pair (.sl (.st (.pair (.int .i64) (.pair .bool (.pair (.sl (.int .u8)) .unit))))) .unit))), .view (.int .i64)], rs := [(.int .i64)], hook := none }
def E3 : Entry := { id := 4, fid := 3, ps := [.view (.sl (.st (.pair (.int .i64) (.pair .bool (.pair (.sl (.int .u8)) .unit))))), .view (.int .i64)], rs := [.bool], hook := none }
def C : Ctx := { tt := tt, es := [E102, E143, E94, E98, E105, E101, E115, E117, E116, E118, E56, E57, E58, E62, E63, E59, E60, E61, E64, E9, E10, E14, E15, E16, E11, E12, E13, E17, E3], live := live }
theorem cok : CtxOk C Try.prog := ctx_ok (by kernel_rfl)
theorem eok : EntOk C Try.prog := ent_ok (by kernel_rfl) (by
  intro en hm h hh
  simp only [C, List.mem_cons, List.not_mem_nil, or_false] at hm
  rcases hm with rfl | rfl | rfl | rfl | rfl | rfl | rfl | rfl | rfl | rfl | rfl | rfl | rfl | rfl | rfl | rfl | rfl | rfl | rfl | rfl | rfl | rfl | rfl | rfl | rfl | rfl | rfl | rfl | rfl <;> cases hh)
theorem mix : Try.prog.follows .mixedOrders = true := by kernel_rfl
noncomputable def Fn (en : Entry) (x : (argT en.ps).den) : Option en.R := callE Try.prog (MM C Try.prog) en x
theorem fn_eq {en : Entry} {x : (argT en.ps).den} {r : Option en.R} (hh : en.hook = none) (hc : (codeOf Try.prog en).isSome = true)
    (h : body C Try.prog (MM C Try.prog) en (startOf Try.prog en) (entered en x (ntmpsOf Try.prog en)) = r) : Fn en x = r := fnC_eq hh hc h
noncomputable def fE102 (a0 : (List Int)) : Option ((List Int) × Unit) := Fn E102 (a0, ())
noncomputable def fE143 (a0 : (List (Int × (Bool × ((List Int) × Unit))))) : Option ((List (Int × (Bool × ((List Int) × Unit)))) × Unit) := Fn E143 (a0, ())
noncomputable def E143_L3 (x0 : (List (Int × (Bool × ((List Int) × Unit))))) (x1 : Int) (x2 : Int) (x3 : (List (Int × (Bool × ((List Int) × Unit))))) : Option ((List (Int × (Bool × ((List Int) × Unit)))) × Unit) := MM C Try.prog E143 (loopAt Try.prog E143 3) ⟨slots 23 0 [(3, .fsl 0), (7, .isl none (.st (.pair (.int .i64) (.pair .bool (.pair (.sl (.int .u8)) .unit)))) x0), (8, .int .i64 x1), (9, .int .i64 x2)], [some (.arr (.st (.pair (.int .i64) (.pair .bool (.pair (.sl (.int .u8)) .unit)))) x3 true true 0)]⟩
noncomputable def fE94 (a0 : (List Int)) (a1 : Int) : Option (Int × Unit) := Fn E94 (a0, (a1, ()))
noncomputable def fE98 (a0 : (List Int)) : Option ((List Int) × Unit) := Fn E98 (a0, ())
noncomputable def fE105 (a0 : (List Int)) (a1 : (List Int)) : Option (Bool × Unit) := Fn E105 (a0, (a1, ()))
noncomputable def E105_L4 (x0 : (List Int)) (x1 : (List Int)) (x2 : Int) : Option (Bool × Unit) := MM C Try.prog E105 (loopAt Try.prog E105 4) ⟨slots 26 0 [(0, .isl none (.int .u8) x0), (1, .isl none (.int .u8) x1), (5, .int .i64 x2)], []⟩
noncomputable def fE101 (a0 : (List Int)) : Option ((List Int) × Unit) := Fn E101 (a0, ())
noncomputable def E101_L3 (x0 : (List Int)) (x1 : Int) (x2 : (List Int)) : Option ((List Int) × Unit) := MM C Try.prog E101 (loopAt Try.prog E101 3) ⟨slots 22 0 [(0, .isl none (.int .u8) x0), (3, .fsl 0), (4, .int .i64 x1)], [some (.arr (.int .u8) x2 true true 0)]⟩
noncomputable def fE115 (a0 : Int) (a1 : Int) (a2 : Int) : Option (Bool × Unit) := Fn E115 (a0, (a1, (a2, ())))
noncomputable def fE117 (a0 : (Int × (Bool × ((List Int) × Unit)))) (a1 : Int) : Option (Bool × Unit) := Fn E117 (a0, (a1, ()))
noncomputable def fE116 (a0 : (List (Int × (Bool × ((List Int) × Unit))))) (a1 : Int) : Option ((List (Int × (Bool × ((List Int) × Unit)))) × Unit) := Fn E116 (a0, (a1, ()))
noncomputable def E116_L3 (x0 : Int) (x1 : (List (Int × (Bool × ((List Int) × Unit))))) (x2 : Int) (x3 : Int) (x4 : (List (Int × (Bool × ((List Int) × Unit))))) : Option ((List (Int × (Bool × ((List Int) × Unit)))) × Unit) := MM C Try.prog E116 (loopAt Try.prog E116 3) ⟨slots 25 0 [(1, .clo 117 [] [.vpt none [.int .i64 x0]]), (5, .fsl 0), (9, .isl none (.st (.pair (.int .i64) (.pair .bool (.pair (.sl (.int .u8)) .unit)))) x1), (10, .int .i64 x2), (11, .int .i64 x3)], [some (.arr (.st (.pair (.int .i64) (.pair .bool (.pair (.sl (.int .u8)) .unit)))) x4 true true 0)]⟩
noncomputable def E116_L3_1 (x0 : Int) (x1 : (List (Int × (Bool × ((List Int) × Unit))))) (x2 : Int) (x3 : Int) (x4 : (List (Int × (Bool × ((List Int) × Unit))))) : Option ((List (Int × (Bool × ((List Int) × Unit)))) × Unit) := MM C Try.prog E116 (loopAt Try.prog E116 3) ⟨slots 25 0 [(1, .clo 117 [] [.vpt none [.int .i64 x0]]), (5, .fsl 0), (9, .isl none (.st (.pair (.int .i64) (.pair .bool (.pair (.sl (.int .u8)) .unit)))) x1), (10, .int .i64 x2), (11, .int .i64 x3)], [some (.arr (.st (.pair (.int .i64) (.pair .bool (.pair (.sl (.int .u8)) .unit)))) x4 true false 0)]⟩
noncomputable def fE118 (a0 : (List Int)) (a1 : Int) : Option (Int × Unit) := Fn E118 (a0, (a1, ()))
noncomputable def E118_L2 (x0 : (List Int)) (x1 : Int) (x2 : Int) : Option (Int × Unit) := MM C Try.prog E118 (loopAt Try.prog E118 2) ⟨slots 22 0 [(0, .isl none (.int .u8) x0), (1, .int .i64 x1), (5, .int .i64 x2)], []⟩
noncomputable def fE56 (a0 : (Int × (Bool × ((List Int) × Unit)))) (a1 : Int) : Option (Int × Unit) := Fn E56 (a0, (a1, ()))
noncomputable def fE57 (a0 : Int) (a1 : Int) (a2 : Int) : Option (Bool × Unit) := Fn E57 (a0, (a1, (a2, ())))
noncomputable def fE58 (a0 : (List (Int × (Bool × ((List Int) × Unit))))) : Option ((List (Int × (Bool × ((List Int) × Unit)))) × Unit) := Fn E58 (a0, ())
noncomputable def E58_L3 (x0 : (List (Int × (Bool × ((List Int) × Unit))))) (x1 : Int) (x2 : (List (Int × (Bool × ((List Int) × Unit))))) : Option ((List (Int × (Bool × ((List Int) × Unit)))) × Unit) := MM C Try.prog E58 (loopAt Try.prog E58 3) ⟨slots 26 0 [(0, .isl none (.st (.pair (.int .i64) (.pair .bool (.pair (.sl (.int .u8)) .unit)))) x0), (3, .fsl 0), (4, .int .i64 x1)], [some (.arr (.st (.pair (.int .i64) (.pair .bool (.pair (.sl (.int .u8)) .unit)))) x2 true true 0)]⟩
noncomputable def fE62 (a0 : (Int × (Bool × ((List Int) × Unit)))) (a1 : (Int × (Bool × ((List Int) × Unit)))) : Option (Bool × Unit) := Fn E62 (a0, (a1, ()))
noncomputable def fE63 (a0 : (List Int)) (a1 : Int) : Option (Int × ((List Int) × Unit)) := Fn E63 (a0, (a1, ()))
noncomputable def E63_L2 (x0 : Int) (x1 : Int) (x2 : (List Int)) : Option (Int × ((List Int) × Unit)) := MM C Try.prog E63 (loopAt Try.prog E63 2) ⟨slots 20 0 [(0, .fsl 0), (1, .int .i64 x0), (5, .int .i64 x1)], [some (.arr (.int .u8) x2 true true 0)]⟩
noncomputable def fE59 (a0 : (Int × (Bool × ((List Int) × Unit)))) : Option ((Int × (Bool × ((List Int) × Unit))) × Unit) := Fn E59 (a0, ())
noncomputable def fE60 (a0 : Int) : Option (Bool × Unit) := Fn E60 (a0, ())
noncomputable def fE61 (a0 : (List (Int × (Bool × ((List Int) × Unit))))) (a1 : Int) : Option ((List (Int × (Bool × ((List Int) × Unit)))) × Unit) := Fn E61 (a0, (a1, ()))
noncomputable def fE64 (a0 : (List (Int × (Bool × ((List Int) × Unit))))) (a1 : Int) : Option (Int × Unit) := Fn E64 (a0, (a1, ()))
noncomputable def E64_L2 (x0 : (List (Int × (Bool × ((List Int) × Unit))))) (x1 : Int) (x2 : Int) : Option (Int × Unit) := MM C Try.prog E64 (loopAt Try.prog E64 2) ⟨slots 42 0 [(0, .isl none (.st (.pair (.int .i64) (.pair .bool (.pair (.sl (.int .u8)) .unit)))) x0), (1, .int .i64 x1), (5, .int .i64 x2)], []⟩
noncomputable def fE9 (a0 : (List (Int × (Bool × ((List Int) × Unit))))) (a1 : Int) : Option (Int × Unit) := Fn E9 (a0, (a1, ()))
noncomputable def E9_L5 (x0 : (List (Int × (Bool × ((List Int) × Unit))))) (x1 : Int) (x2 : Int) : Option (Int × Unit) := MM C Try.prog E9 (loopAt Try.prog E9 5) ⟨slots 27 0 [(0, .isl none (.st (.pair (.int .i64) (.pair .bool (.pair (.sl (.int .u8)) .unit)))) x0), (1, .int .i64 x1), (5, .int .i64 x2)], []⟩
noncomputable def fE10 (a0 : (List (Int × (Bool × ((List Int) × Unit))))) (a1 : Int) : Option ((Int × ((List (Int × (Bool × ((List Int) × Unit)))) × Unit)) × Unit) := Fn E10 (a0, (a1, ()))
noncomputable def E10_L7 (x0 : (List (Int × (Bool × ((List Int) × Unit))))) (x1 : Int) (x2 : Int) (x3 : Int) (x4 : (List (Int × (Bool × ((List Int) × Unit))))) : Option ((Int × ((List (Int × (Bool × ((List Int) × Unit)))) × Unit)) × Unit) := MM C Try.prog E10 (loopAt Try.prog E10 7) ⟨slots 47 0 [(0, .isl none (.st (.pair (.int .i64) (.pair .bool (.pair (.sl (.int .u8)) .unit)))) x0), (1, .int .i64 x1), (4, .ptr 0 0), (5, .fsl 1), (6, .int .i64 x2)], [some (.box [.int .i64 x3, .nsl]), some (.arr (.st (.pair (.int .i64) (.pair .bool (.pair (.sl (.int .u8)) .unit)))) x4 true true 0)]⟩
noncomputable def E10_L7_1 (x0 : (List (Int × (Bool × ((List Int) × Unit))))) (x1 : Int) (x2 : Int) (x3 : Int) (x4 : (List (Int × (Bool × ((List Int) × Unit))))) : Option ((Int × ((List (Int × (Bool × ((List Int) × Unit)))) × Unit)) × Unit) := MM C Try.prog E10 (loopAt Try.prog E10 7) ⟨slots 47 0 [(0, .isl none (.st (.pair (.int .i64) (.pair .bool (.pair (.sl (.int .u8)) .unit)))) x0), (1, .int .i64 x1), (4, .ptr 0 0), (5, .fsl 1), (6, .int .i64 x2)], [some (.box [.int .i64 x3, .nsl]), some (.arr (.st (.pair (.int .i64) (.pair .bool (.pair (.sl (.int .u8)) .unit)))) x4 true false 0)]⟩
noncomputable def fE14 (a0 : (List (Int × (Bool × ((List Int) × Unit))))) (a1 : (List (Int × (Bool × ((List Int) × Unit))))) : Option (Bool × Unit) := Fn E14 (a0, (a1, ()))
noncomputable def E14_L4 (x0 : (List (Int × (Bool × ((List Int) × Unit))))) (x1 : (List (Int × (Bool × ((List Int) × Unit))))) (x2 : Int) : Option (Bool × Unit) := MM C Try.prog E14 (loopAt Try.prog E14 4) ⟨slots 27 0 [(0, .isl none (.st (.pair (.int .i64) (.pair .bool (.pair (.sl (.int .u8)) .unit)))) x0), (1, .isl none (.st (.pair (.int .i64) (.pair .bool (.pair (.sl (.int .u8)) .unit)))) x1), (5, .int .i64 x2)], []⟩
noncomputable def fE15 (a0 : (List (Int × (Bool × ((List Int) × Unit))))) (a1 : Int) : Option (Int × ((List (Int × (Bool × ((List Int) × Unit)))) × Unit)) := Fn E15 (a0, (a1, ()))
noncomputable def E15_L2 (x0 : Int) (x1 : Int) (x2 : (List (Int × (Bool × ((List Int) × Unit))))) : Option (Int × ((List (Int × (Bool × ((List Int) × Unit)))) × Unit)) := MM C Try.prog E15 (loopAt Try.prog E15 2) ⟨slots 36 0 [(0, .fsl 0), (1, .int .i64 x0), (5, .int .i64 x1)], [some (.arr (.st (.pair (.int .i64) (.pair .bool (.pair (.sl (.int .u8)) .unit)))) x2 true true 0)]⟩
noncomputable def fE16 (a0 : Int) (a1 : (List (Int × (Bool × ((List Int) × Unit))))) (a2 : Int) : Option (Int × ((List (Int × (Bool × ((List Int) × Unit)))) × Unit)) := Fn E16 (a0, (a1, (a2, ())))
noncomputable def fE11 (a0 : (List (Int × (Bool × ((List Int) × Unit))))) : Option ((List (Int × (Bool × ((List Int) × Unit)))) × Unit) := Fn E11 (a0, ())
noncomputable def E11_L3 (x0 : (List (Int × (Bool × ((List Int) × Unit))))) (x1 : Int) (x2 : (List (Int × (Bool × ((List Int) × Unit))))) : Option ((List (Int × (Bool × ((List Int) × Unit)))) × Unit) := MM C Try.prog E11 (loopAt Try.prog E11 3) ⟨slots 23 0 [(0, .isl none (.st (.pair (.int .i64) (.pair .bool (.pair (.sl (.int .u8)) .unit)))) x0), (3, .fsl 0), (4, .int .i64 x1)], [some (.arr (.st (.pair (.int .i64) (.pair .bool (.pair (.sl (.int .u8)) .unit)))) x2 true true 0)]⟩
noncomputable def fE12 (a0 : (List (Int × (Bool × ((List Int) × Unit))))) (a1 : Int) : Option ((Int × ((List (Int × (Bool × ((List Int) × Unit)))) × Unit)) × Unit) := Fn E12 (a0, (a1, ()))
noncomputable def fE13 (a0 : (Int × ((List (Int × (Bool × ((List Int) × Unit)))) × Unit))) (a1 : (Int × ((List (Int × (Bool × ((List Int) × Unit)))) × Unit))) : Option (Bool × Unit) := Fn E13 (a0, (a1, ()))
noncomputable def fE17 (a0 : (Int × ((List (Int × (Bool × ((List Int) × Unit)))) × Unit))) (a1 : Int) : Option (Int × Unit) := Fn E17 (a0, (a1, ()))
noncomputable def fE3 (a0 : (List (Int × (Bool × ((List Int) × Unit))))) (a1 : Int) : Option (Bool × Unit) := Fn E3 (a0, (a1, ()))
theorem E102_eq (a0 : (List Int)) : fE102 a0 = br (nsame (llen a0) 0) (both (some (([] : List Int), ())) (br (fits (nadd (llen ([] : List Int)) (llen a0))) (some ((lcat ([] : List Int) a0), ())) (none))) (br (fits (nadd (llen ([] : List Int)) (llen a0))) (some ((lcat ([] : List Int) a0), ())) (none)) := fn_eq (en := E102) rfl (by kernel_rfl) (by kernel_rfl)
theorem E143_eq (a0 : (List (Int × (Bool × ((List Int) × Unit))))) : fE143 a0 = E143_L3 a0 (lnat (llen a0)) 0 ([] : List (Int × (Bool × ((List Int) × Unit)))) := fn_eq (en := E143) rfl (by kernel_rfl) (by kernel_rfl)
theorem E143_L3_eq (x0 : (List (Int × (Bool × ((List Int) × Unit))))) (x1 : Int) (x2 : Int) (x3 : (List (Int × (Bool × ((List Int) × Unit))))) : E143_L3 x0 x1 x2 x3 = br (icm .lss x2 x1) (br (inb x2 (lnat (llen x0))) (bd (fE102 (lget x0 (itn x2) ((0 : Int), (false, (([] : List Int), ())))).2.2.1) fun y0 => br (fits (nadd (llen x3) (llen (((lget x0 (itn x2) ((0 : Int), (false, (([] : List Int), ())))).1, ((lget x0 (itn x2) ((0 : Int), (false, (([] : List Int), ())))).2.1, (y0.1, ()))) :: ([] : List (Int × (Bool × ((List Int) × Unit)))))))) (E143_L3 x0 x1 (iar .add .i64 x2 1) (lcat x3 (((lget x0 (itn x2) ((0 : Int), (false, (([] : List Int), ())))).1, ((lget x0 (itn x2) ((0 : Int), (false, (([] : List Int), ())))).2.1, (y0.1, ()))) :: ([] : List (Int × (Bool × ((List Int) × Unit))))))) (none)) (none)) (some (x3, ())) := (MM_eq _ _ _ _ _).trans (by kernel_rfl)
theorem E94_eq (a0 : (List Int)) (a1 : Int) : fE94 a0 a1 = br (icm .lss (iar .sub .i64 a1 (lnat (llen a0))) 0) (some ((-1 : Int), ())) (some ((iar .sub .i64 a1 (lnat (llen a0))), ())) := fn_eq (en := E94) rfl (by kernel_rfl) (by kernel_rfl)
theorem E98_eq (a0 : (List Int)) : fE98 a0 = br (fits (nadd (llen ([] : List Int)) (llen a0))) (some ((lcat ([] : List Int) a0), ())) (none) := fn_eq (en := E98) rfl (by kernel_rfl) (by kernel_rfl)
theorem E105_eq (a0 : (List Int)) (a1 : (List Int)) : fE105 a0 a1 = br (icm .neq (lnat (llen a0)) (lnat (llen a1))) (some (false, ())) (E105_L4 a0 a1 0) := fn_eq (en := E105) rfl (by kernel_rfl) (by kernel_rfl)
theorem E105_L4_eq (x0 : (List Int)) (x1 : (List Int)) (x2 : Int) : E105_L4 x0 x1 x2 = br (icm .lss x2 (lnat (llen x0))) (br (inb x2 (lnat (llen x0))) (br (inb x2 (lnat (llen x1))) (br (icm .neq (lget x0 (itn x2) (0 : Int)) (lget x1 (itn x2) (0 : Int))) (some (false, ())) (E105_L4 x0 x1 (iar .add .i64 x2 1))) (none)) (none)) (some (true, ())) := (MM_eq _ _ _ _ _).trans (by kernel_rfl)
theorem E101_eq (a0 : (List Int)) : fE101 a0 = br (ile (lnat (llen a0)) (lnat (llen a0))) (br (fits (itn (lnat (llen a0)))) (E101_L3 a0 0 (lrep (itn (lnat (llen a0))) (0 : Int))) (none)) (none) := fn_eq (en := E101) rfl (by kernel_rfl) (by kernel_rfl)
theorem E101_L3_eq (x0 : (List Int)) (x1 : Int) (x2 : (List Int)) : E101_L3 x0 x1 x2 = br (icm .lss x1 (lnat (llen x0))) (br (inb x1 (lnat (llen x0))) (br (inb x1 (lnat (llen x2))) (E101_L3 x0 (iar .add .i64 x1 1) (lmod x2 (itn x1) (fun r0 => (lget x0 (itn x1) (0 : Int))))) (none)) (none)) (some (x2, ())) := (MM_eq _ _ _ _ _).trans (by kernel_rfl)
theorem E115_eq (a0 : Int) (a1 : Int) (a2 : Int) : fE115 a0 a1 a2 = br (icm .geq a0 a1) (some ((icm .leq a0 a2), ())) (some (false, ())) := fn_eq (en := E115) rfl (by kernel_rfl) (by kernel_rfl)
theorem E117_eq (a0 : (Int × (Bool × ((List Int) × Unit)))) (a1 : Int) : fE117 a0 a1 = br (icm .eql a0.1 a1) (some ((bnot a0.2.1), ())) (some (false, ())) := fn_eq (en := E117) rfl (by kernel_rfl) (by kernel_rfl)
theorem E116_eq (a0 : (List (Int × (Bool × ((List Int) × Unit))))) (a1 : Int) : fE116 a0 a1 = E116_L3 a1 a0 (lnat (llen a0)) 0 ([] : List (Int × (Bool × ((List Int) × Unit)))) := fn_eq (en := E116) rfl (by kernel_rfl) (by kernel_rfl)
theorem E116_L3_eq (x0 : Int) (x1 : (List (Int × (Bool × ((List Int) × Unit))))) (x2 : Int) (x3 : Int) (x4 : (List (Int × (Bool × ((List Int) × Unit))))) : E116_L3 x0 x1 x2 x3 x4 = br (icm .lss x3 x2) (br (inb x3 (lnat (llen x1))) (bd (fE117 ((lget x1 (itn x3) ((0 : Int), (false, (([] : List Int), ())))).1, ((lget x1 (itn x3) ((0 : Int), (false, (([] : List Int), ())))).2.1, ((lget x1 (itn x3) ((0 : Int), (false, (([] : List Int), ())))).2.2.1, ()))) x0) fun y0 => br y0.1 (br (fits (nadd (llen x4) (llen (((lget x1 (itn x3) ((0 : Int), (false, (([] : List Int), ())))).1, ((lget x1 (itn x3) ((0 : Int), (false, (([] : List Int), ())))).2.1, ((lget x1 (itn x3) ((0 : Int), (false, (([] : List Int), ())))).2.2.1, ()))) :: ([] : List (Int × (Bool × ((List Int) × Unit)))))))) (E116_L3_1 x0 x1 x2 (iar .add .i64 x3 1) (lcat x4 (((lget x1 (itn x3) ((0 : Int), (false, (([] : List Int), ())))).1, ((lget x1 (itn x3) ((0 : Int), (false, (([] : List Int), ())))).2.1, ((lget x1 (itn x3) ((0 : Int), (false, (([] : List Int), ())))).2.2.1, ()))) :: ([] : List (Int × (Bool × ((List Int) × Unit))))))) (none)) (E116_L3 x0 x1 x2 (iar .add .i64 x3 1) x4)) (none)) (bd (fE143 x4) fun y1 => some (y1.1, ())) := (MM_eq _ _ _ _ _).trans (by kernel_rfl)
theorem E116_L3_1_eq (x0 : Int) (x1 : (List (Int × (Bool × ((List Int) × Unit))))) (x2 : Int) (x3 : Int) (x4 : (List (Int × (Bool × ((List Int) × Unit))))) : E116_L3_1 x0 x1 x2 x3 x4 = br (icm .lss x3 x2) (br (inb x3 (lnat (llen x1))) (bd (fE117 ((lget x1 (itn x3) ((0 : Int), (false, (([] : List Int), ())))).1, ((lget x1 (itn x3) ((0 : Int), (false, (([] : List Int), ())))).2.1, ((lget x1 (itn x3) ((0 : Int), (false, (([] : List Int), ())))).2.2.1, ()))) x0) fun y0 => br y0.1 (br (fits (nadd (llen x4) (llen (((lget x1 (itn x3) ((0 : Int), (false, (([] : List Int), ())))).1, ((lget x1 (itn x3) ((0 : Int), (false, (([] : List Int), ())))).2.1, ((lget x1 (itn x3) ((0 : Int), (false, (([] : List Int), ())))).2.2.1, ()))) :: ([] : List (Int × (Bool × ((List Int) × Unit)))))))) (E116_L3_1 x0 x1 x2 (iar .add .i64 x3 1) (lcat x4 (((lget x1 (itn x3) ((0 : Int), (false, (([] : List Int), ())))).1, ((lget x1 (itn x3) ((0 : Int), (false, (([] : List Int), ())))).2.1, ((lget x1 (itn x3) ((0 : Int), (false, (([] : List Int), ())))).2.2.1, ()))) :: ([] : List (Int × (Bool × ((List Int) × Unit))))))) (none)) (E116_L3_1 x0 x1 x2 (iar .add .i64 x3 1) x4)) (none)) (bd (fE143 x4) fun y1 => some (y1.1, ())) := (MM_eq _ _ _ _ _).trans (by kernel_rfl)
theorem E118_eq (a0 : (List Int)) (a1 : Int) : fE118 a0 a1 = E118_L2 a0 a1 0 := fn_eq (en := E118) rfl (by kernel_rfl) (by kernel_rfl)
theorem E118_L2_eq (x0 : (List Int)) (x1 : Int) (x2 : Int) : E118_L2 x0 x1 x2 = br (icm .lss x2 (lnat (llen x0))) (br (inb x2 (lnat (llen x0))) (br (icm .neq (lget x0 (itn x2) (0 : Int)) (iwr .u8 x1)) (some ((-1 : Int), ())) (E118_L2 x0 (iar .add .i64 x1 1) (iar .add .i64 x2 1))) (none)) (some (x1, ())) := (MM_eq _ _ _ _ _).trans (by kernel_rfl)
theorem E56_eq (a0 : (Int × (Bool × ((List Int) × Unit)))) (a1 : Int) : fE56 a0 a1 = bd (fE94 a0.2.2.1 a1) fun y0 => br (icm .lss y0.1 0) (some ((-1 : Int), ())) (some (y0.1, ())) := fn_eq (en := E56) rfl (by kernel_rfl) (by kernel_rfl)
theorem E57_eq (a0 : Int) (a1 : Int) (a2 : Int) : fE57 a0 a1 a2 = br (icm .geq a0 a1) (some ((icm .leq a0 a2), ())) (some (false, ())) := fn_eq (en := E57) rfl (by kernel_rfl) (by kernel_rfl)
theorem E58_eq (a0 : (List (Int × (Bool × ((List Int) × Unit))))) : fE58 a0 = E58_L3 a0 0 ([] : List (Int × (Bool × ((List Int) × Unit)))) := fn_eq (en := E58) rfl (by kernel_rfl) (by kernel_rfl)
theorem E58_L3_eq (x0 : (List (Int × (Bool × ((List Int) × Unit))))) (x1 : Int) (x2 : (List (Int × (Bool × ((List Int) × Unit))))) : E58_L3 x0 x1 x2 = br (icm .lss x1 (lnat (llen x0))) (br (inb x1 (lnat (llen x0))) (bd (fE98 (lget x0 (itn x1) ((0 : Int), (false, (([] : List Int), ())))).2.2.1) fun y0 => br (fits (nadd (llen x2) (llen (((lget x0 (itn x1) ((0 : Int), (false, (([] : List Int), ())))).1, ((lget x0 (itn x1) ((0 : Int), (false, (([] : List Int), ())))).2.1, (y0.1, ()))) :: ([] : List (Int × (Bool × ((List Int) × Unit)))))))) (E58_L3 x0 (iar .add .i64 x1 1) (lcat x2 (((lget x0 (itn x1) ((0 : Int), (false, (([] : List Int), ())))).1, ((lget x0 (itn x1) ((0 : Int), (false, (([] : List Int), ())))).2.1, (y0.1, ()))) :: ([] : List (Int × (Bool × ((List Int) × Unit))))))) (none)) (none)) (some (x2, ())) := (MM_eq _ _ _ _ _).trans (by kernel_rfl)
theorem E62_eq (a0 : (Int × (Bool × ((List Int) × Unit)))) (a1 : (Int × (Bool × ((List Int) × Unit)))) : fE62 a0 a1 = br (icm .neq a0.1 a1.1) (some (false, ())) (br (bnot (beqv a0.2.1 a1.2.1)) (some (false, ())) (bd (fE105 a0.2.2.1 a1.2.2.1) fun y0 => br (bnot y0.1) (some (false, ())) (some (true, ())))) := fn_eq (en := E62) rfl (by kernel_rfl) (by kernel_rfl)
theorem E63_eq (a0 : (List Int)) (a1 : Int) : fE63 a0 a1 = E63_L2 a1 0 a0 := fn_eq (en := E63) rfl (by kernel_rfl) (by kernel_rfl)
theorem E63_L2_eq (x0 : Int) (x1 : Int) (x2 : (List Int)) : E63_L2 x0 x1 x2 = br (icm .lss x1 (lnat (llen x2))) (br (inb x1 (lnat (llen x2))) (E63_L2 (iar .add .i64 x0 1) (iar .add .i64 x1 1) (lmod x2 (itn x1) (fun r0 => (iwr .u8 x0)))) (none)) (some (x0, (x2, ()))) := (MM_eq _ _ _ _ _).trans (by kernel_rfl)
theorem E59_eq (a0 : (Int × (Bool × ((List Int) × Unit)))) : fE59 a0 = bd (fE101 a0.2.2.1) fun y0 => some ((a0.1, (a0.2.1, (y0.1, ()))), ()) := fn_eq (en := E59) rfl (by kernel_rfl) (by kernel_rfl)
theorem E60_eq (a0 : Int) : fE60 a0 = bd (fE115 a0 (0 : Int) (9 : Int)) fun y0 => some (y0.1, ()) := fn_eq (en := E60) rfl (by kernel_rfl) (by kernel_rfl)
theorem E61_eq (a0 : (List (Int × (Bool × ((List Int) × Unit))))) (a1 : Int) : fE61 a0 a1 = bd (fE116 a0 a1) fun y0 => some (y0.1, ()) := fn_eq (en := E61) rfl (by kernel_rfl) (by kernel_rfl)
theorem E64_eq (a0 : (List (Int × (Bool × ((List Int) × Unit))))) (a1 : Int) : fE64 a0 a1 = E64_L2 a0 a1 0 := fn_eq (en := E64) rfl (by kernel_rfl) (by kernel_rfl)
theorem E64_L2_eq (x0 : (List (Int × (Bool × ((List Int) × Unit))))) (x1 : Int) (x2 : Int) : E64_L2 x0 x1 x2 = br (icm .lss x2 (lnat (llen x0))) (br (inb x2 (lnat (llen x0))) (br (icm .neq (lget x0 (itn x2) ((0 : Int), (false, (([] : List Int), ())))).1 x1) (some ((-1 : Int), ())) (br (inb x2 (lnat (llen x0))) (br (bnot (beqv (lget x0 (itn x2) ((0 : Int), (false, (([] : List Int), ())))).2.1 (icm .eql (iar .rem .i64 (iar .add .i64 x1 1) 3) 0))) (some ((-1 : Int), ())) (br (inb x2 (lnat (llen x0))) (bd (fE118 (lget x0 (itn x2) ((0 : Int), (false, (([] : List Int), ())))).2.2.1 (iar .add .i64 (iar .add .i64 x1 1) 1)) fun y0 => br (icm .lss y0.1 0) (some ((-1 : Int), ())) (E64_L2 x0 y0.1 (iar .add .i64 x2 1))) (none))) (none))) (none)) (some (x1, ())) := (MM_eq _ _ _ _ _).trans (by kernel_rfl)
theorem E9_eq (a0 : (List (Int × (Bool × ((List Int) × Unit))))) (a1 : Int) : fE9 a0 a1 = br (icm .lss (iar .sub .i64 a1 (lnat (llen a0))) 0) (some ((-1 : Int), ())) (E9_L5 a0 (iar .sub .i64 a1 (lnat (llen a0))) 0) := fn_eq (en := E9) rfl (by kernel_rfl) (by kernel_rfl)
theorem E9_L5_eq (x0 : (List (Int × (Bool × ((List Int) × Unit))))) (x1 : Int) (x2 : Int) : E9_L5 x0 x1 x2 = br (icm .lss x2 (lnat (llen x0))) (br (inb x2 (lnat (llen x0))) (bd (fE56 ((lget x0 (itn x2) ((0 : Int), (false, (([] : List Int), ())))).1, ((lget x0 (itn x2) ((0 : Int), (false, (([] : List Int), ())))).2.1, ((lget x0 (itn x2) ((0 : Int), (false, (([] : List Int), ())))).2.2.1, ()))) x1) fun y0 => br (icm .lss y0.1 0) (some ((-1 : Int), ())) (E9_L5 x0 y0.1 (iar .add .i64 x2 1))) (none)) (some (x1, ())) := (MM_eq _ _ _ _ _).trans (by kernel_rfl)
theorem E10_eq (a0 : (List (Int × (Bool × ((List Int) × Unit))))) (a1 : Int) : fE10 a0 a1 = br (icm .gtr (lnat (llen a0)) 200) (some (((2 : Int), (([] : List (Int × (Bool × ((List Int) × Unit)))), ())), ())) (bd (fE57 a1 (0 : Int) (9 : Int)) fun y0 => br (bnot y0.1) (some (((3 : Int), (([] : List (Int × (Bool × ((List Int) × Unit)))), ())), ())) (E10_L7 a0 a1 0 0 ([] : List (Int × (Bool × ((List Int) × Unit)))))) := fn_eq (en := E10) rfl (by kernel_rfl) (by kernel_rfl)
theorem E10_L7_eq (x0 : (List (Int × (Bool × ((List Int) × Unit))))) (x1 : Int) (x2 : Int) (x3 : Int) (x4 : (List (Int × (Bool × ((List Int) × Unit))))) : E10_L7 x0 x1 x2 x3 x4 = br (icm .lss x2 (lnat (llen x0))) (br (inb x2 (lnat (llen x0))) (br (icm .eql (lget x0 (itn x2) ((0 : Int), (false, (([] : List Int), ())))).1 x1) (br (inb x2 (lnat (llen x0))) (br (bnot (lget x0 (itn x2) ((0 : Int), (false, (([] : List Int), ())))).2.1) (br (inb x2 (lnat (llen x0))) (br (fits (nadd (llen x4) (llen (((lget x0 (itn x2) ((0 : Int), (false, (([] : List Int), ())))).1, ((lget x0 (itn x2) ((0 : Int), (false, (([] : List Int), ())))).2.1, ((lget x0 (itn x2) ((0 : Int), (false, (([] : List Int), ())))).2.2.1, ()))) :: ([] : List (Int × (Bool × ((List Int) × Unit)))))))) (E10_L7_1 x0 x1 (iar .add .i64 x2 1) x3 (lcat x4 (((lget x0 (itn x2) ((0 : Int), (false, (([] : List Int), ())))).1, ((lget x0 (itn x2) ((0 : Int), (false, (([] : List Int), ())))).2.1, ((lget x0 (itn x2) ((0 : Int), (false, (([] : List Int), ())))).2.2.1, ()))) :: ([] : List (Int × (Bool × ((List Int) × Unit))))))) (none)) (none)) (E10_L7 x0 x1 (iar .add .i64 x2 1) x3 x4)) (none)) (E10_L7 x0 x1 (iar .add .i64 x2 1) x3 x4)) (none)) (bd (fE58 x4) fun y0 => some (((0 : Int), (y0.1, ())), ())) := (MM_eq _ _ _ _ _).trans (by kernel_rfl)
theorem E10_L7_1_eq (x0 : (List (Int × (Bool × ((List Int) × Unit))))) (x1 : Int) (x2 : Int) (x3 : Int) (x4 : (List (Int × (Bool × ((List Int) × Unit))))) : E10_L7_1 x0 x1 x2 x3 x4 = br (icm .lss x2 (lnat (llen x0))) (br (inb x2 (lnat (llen x0))) (br (icm .eql (lget x0 (itn x2) ((0 : Int), (false, (([] : List Int), ())))).1 x1) (br (inb x2 (lnat (llen x0))) (br (bnot (lget x0 (itn x2) ((0 : Int), (false, (([] : List Int), ())))).2.1) (br (inb x2 (lnat (llen x0))) (br (fits (nadd (llen x4) (llen (((lget x0 (itn x2) ((0 : Int), (false, (([] : List Int), ())))).1, ((lget x0 (itn x2) ((0 : Int), (false, (([] : List Int), ())))).2.1, ((lget x0 (itn x2) ((0 : Int), (false, (([] : List Int), ())))).2.2.1, ()))) :: ([] : List (Int × (Bool × ((List Int) × Unit)))))))) (E10_L7_1 x0 x1 (iar .add .i64 x2 1) x3 (lcat x4 (((lget x0 (itn x2) ((0 : Int), (false, (([] : List Int), ())))).1, ((lget x0 (itn x2) ((0 : Int), (false, (([] : List Int), ())))).2.1, ((lget x0 (itn x2) ((0 : Int), (false, (([] : List Int), ())))).2.2.1, ()))) :: ([] : List (Int × (Bool × ((List Int) × Unit))))))) (none)) (none)) (E10_L7_1 x0 x1 (iar .add .i64 x2 1) x3 x4)) (none)) (E10_L7_1 x0 x1 (iar .add .i64 x2 1) x3 x4)) (none)) (bd (fE58 x4) fun y0 => some (((0 : Int), (y0.1, ())), ())) := (MM_eq _ _ _ _ _).trans (by kernel_rfl)
theorem E14_eq (a0 : (List (Int × (Bool × ((List Int) × Unit))))) (a1 : (List (Int × (Bool × ((List Int) × Unit))))) : fE14 a0 a1 = br (icm .neq (lnat (llen a0)) (lnat (llen a1))) (some (false, ())) (E14_L4 a0 a1 0) := fn_eq (en := E14) rfl (by kernel_rfl) (by kernel_rfl)
theorem E14_L4_eq (x0 : (List (Int × (Bool × ((List Int) × Unit))))) (x1 : (List (Int × (Bool × ((List Int) × Unit))))) (x2 : Int) : E14_L4 x0 x1 x2 = br (icm .lss x2 (lnat (llen x0))) (br (inb x2 (lnat (llen x0))) (br (inb x2 (lnat (llen x1))) (bd (fE62 ((lget x0 (itn x2) ((0 : Int), (false, (([] : List Int), ())))).1, ((lget x0 (itn x2) ((0 : Int), (false, (([] : List Int), ())))).2.1, ((lget x0 (itn x2) ((0 : Int), (false, (([] : List Int), ())))).2.2.1, ()))) ((lget x1 (itn x2) ((0 : Int), (false, (([] : List Int), ())))).1, ((lget x1 (itn x2) ((0 : Int), (false, (([] : List Int), ())))).2.1, ((lget x1 (itn x2) ((0 : Int), (false, (([] : List Int), ())))).2.2.1, ())))) fun y0 => br (bnot y0.1) (some (false, ())) (E14_L4 x0 x1 (iar .add .i64 x2 1))) (none)) (none)) (some (true, ())) := (MM_eq _ _ _ _ _).trans (by kernel_rfl)
theorem E15_eq (a0 : (List (Int × (Bool × ((List Int) × Unit))))) (a1 : Int) : fE15 a0 a1 = E15_L2 a1 0 a0 := fn_eq (en := E15) rfl (by kernel_rfl) (by kernel_rfl)
theorem E15_L2_eq (x0 : Int) (x1 : Int) (x2 : (List (Int × (Bool × ((List Int) × Unit))))) : E15_L2 x0 x1 x2 = br (icm .lss x1 (lnat (llen x2))) (br (inb x1 (lnat (llen x2))) (br (inb x1 (lnat (llen (lmod x2 (itn x1) (fun r0 => (x0, r0.2)))))) (br (inb x1 (lnat (llen (lmod (lmod x2 (itn x1) (fun r1 => (x0, r1.2))) (itn x1) (fun r2 => (r2.1, ((icm .eql (iar .rem .i64 (iar .add .i64 x0 1) 3) 0), r2.2.2))))))) (bd (fE63 (lget (lmod (lmod x2 (itn x1) (fun r3 => (x0, r3.2))) (itn x1) (fun r4 => (r4.1, ((icm .eql (iar .rem .i64 (iar .add .i64 x0 1) 3) 0), r4.2.2)))) (itn x1) ((0 : Int), (false, (([] : List Int), ())))).2.2.1 (iar .add .i64 (iar .add .i64 x0 1) 1)) fun y5 => br (nsame (llen y5.2.1) (llen (lget (lmod (lmod x2 (itn x1) (fun r6 => (x0, r6.2))) (itn x1) (fun r7 => (r7.1, ((icm .eql (iar .rem .i64 (iar .add .i64 x0 1) 3) 0), r7.2.2)))) (itn x1) ((0 : Int), (false, (([] : List Int), ())))).2.2.1)) (E15_L2 y5.1 (iar .add .i64 x1 1) (lmod (lmod (lmod x2 (itn x1) (fun r8 => (x0, r8.2))) (itn x1) (fun r9 => (r9.1, ((icm .eql (iar .rem .i64 (iar .add .i64 x0 1) 3) 0), r9.2.2)))) (itn x1) (fun r10 => (r10.1, (r10.2.1, (y5.2.1, r10.2.2.2)))))) (none)) (none)) (none)) (none)) (some (x0, (x2, ()))) := (MM_eq _ _ _ _ _).trans (by kernel_rfl)
theorem E16_eq (a0 : Int) (a1 : (List (Int × (Bool × ((List Int) × Unit))))) (a2 : Int) : fE16 a0 a1 a2 = bd (fE15 a1 a2) fun y0 => br (nsame (llen y0.2.1) (llen a1)) (some (y0.1, (y0.2.1, ()))) (none) := fn_eq (en := E16) rfl (by kernel_rfl) (by kernel_rfl)
theorem E11_eq (a0 : (List (Int × (Bool × ((List Int) × Unit))))) : fE11 a0 = br (ile (lnat (llen a0)) (lnat (llen a0))) (br (fits (itn (lnat (llen a0)))) (E11_L3 a0 0 (lrep (itn (lnat (llen a0))) ((0 : Int), (false, (([] : List Int), ()))))) (none)) (none) := fn_eq (en := E11) rfl (by kernel_rfl) (by kernel_rfl)
theorem E11_L3_eq (x0 : (List (Int × (Bool × ((List Int) × Unit))))) (x1 : Int) (x2 : (List (Int × (Bool × ((List Int) × Unit))))) : E11_L3 x0 x1 x2 = br (icm .lss x1 (lnat (llen x0))) (br (inb x1 (lnat (llen x0))) (bd (fE59 ((lget x0 (itn x1) ((0 : Int), (false, (([] : List Int), ())))).1, ((lget x0 (itn x1) ((0 : Int), (false, (([] : List Int), ())))).2.1, ((lget x0 (itn x1) ((0 : Int), (false, (([] : List Int), ())))).2.2.1, ())))) fun y0 => br (inb x1 (lnat (llen x2))) (E11_L3 x0 (iar .add .i64 x1 1) (lmod x2 (itn x1) (fun r1 => (y0.1.1, (y0.1.2.1, (y0.1.2.2.1, ())))))) (none)) (none)) (some (x2, ())) := (MM_eq _ _ _ _ _).trans (by kernel_rfl)
theorem E12_eq (a0 : (List (Int × (Bool × ((List Int) × Unit))))) (a1 : Int) : fE12 a0 a1 = br (icm .gtr (lnat (llen a0)) 200) (some (((2 : Int), (([] : List (Int × (Bool × ((List Int) × Unit)))), ())), ())) (bd (fE60 a1) fun y0 => br (bnot y0.1) (some (((3 : Int), (([] : List (Int × (Bool × ((List Int) × Unit)))), ())), ())) (bd (fE61 a0 a1) fun y1 => some (((0 : Int), (y1.1, ())), ()))) := fn_eq (en := E12) rfl (by kernel_rfl) (by kernel_rfl)
theorem E13_eq (a0 : (Int × ((List (Int × (Bool × ((List Int) × Unit)))) × Unit))) (a1 : (Int × ((List (Int × (Bool × ((List Int) × Unit)))) × Unit))) : fE13 a0 a1 = br (icm .neq a0.1 a1.1) (some (false, ())) (bd (fE14 a0.2.1 a1.2.1) fun y0 => br (bnot y0.1) (some (false, ())) (some (true, ()))) := fn_eq (en := E13) rfl (by kernel_rfl) (by kernel_rfl)
theorem E17_eq (a0 : (Int × ((List (Int × (Bool × ((List Int) × Unit)))) × Unit))) (a1 : Int) : fE17 a0 a1 = bd (fE64 a0.2.1 a1) fun y0 => br (icm .lss y0.1 0) (some ((-1 : Int), ())) (some (y0.1, ())) := fn_eq (en := E17) rfl (by kernel_rfl) (by kernel_rfl)
theorem E3_eq (a0 : (List (Int × (Bool × ((List Int) × Unit))))) (a1 : Int) : fE3 a0 a1 = bd (fE9 a0 (1048576 : Int)) fun y0 => br (icm .lss y0.1 0) (some (true, ())) (bd (fE11 a0) fun y1 => bd (fE10 y1.1 a1) fun y2 => bd (fE11 a0) fun y3 => bd (fE12 y3.1 a1) fun y4 => bd (fE13 (y4.1.1, (y4.1.2.1, ())) (y2.1.1, (y2.1.2.1, ()))) fun y5 => br (bnot y5.1) (some (false, ())) (bd (fE11 a0) fun y6 => bd (fE14 y3.1 y6.1) fun y7 => br (bnot y7.1) (some (false, ())) (bd (fE15 y3.1 (1 : Int)) fun y8 => br (nsame (llen y8.2.1) (llen y3.1)) (br (icm .lss y8.1 0) (some (false, ())) (bd (fE13 (y4.1.1, (y4.1.2.1, ())) (y2.1.1, (y2.1.2.1, ()))) fun y9 => br (bnot y9.1) (some (false, ())) (bd (fE16 y4.1.1 y4.1.2.1 (1 : Int)) fun y10 => br (nsame (llen y10.2.1) (llen y4.1.2.1)) (bd (fE17 (y4.1.1, (y10.2.1, ())) (1 : Int)) fun y11 => br (icm .lss y11.1 0) (some (false, ())) (br (icm .neq y11.1 y10.1) (some (false, ())) (bd (fE11 a0) fun y12 => bd (fE12 y12.1 a1) fun y13 => bd (fE13 (y13.1.1, (y13.1.2.1, ())) (y2.1.1, (y2.1.2.1, ()))) fun y14 => br (bnot y14.1) (some (false, ())) (bd (fE17 (y4.1.1, (y10.2.1, ())) (1 : Int)) fun y15 => br (icm .lss y15.1 0) (some (false, ())) (br (icm .neq y15.1 y10.1) (some (false, ())) (some (true, ()))))))) (none)))) (none)))) := fn_eq (en := E3) rfl (by kernel_rfl) (by kernel_rfl)
end Go.Proofs.Ytblomclgbnacnaa.So
