/- The tables and the entries of the law FnExactReadHex, and what the evaluator says of each function that it reaches. -/
import Derived.Test.YtijelhbbkjjciaaEv3
import Derived.Test.YtijelhbbkjjciaaChecked
import Derived.KernelRfl
set_option linter.unusedVariables false
set_option linter.unusedSimpArgs false
namespace Go.Proofs.Ytijelhbbkjjciaa.Rx
open Go Go.Evr
def tt : List (Option Ty) := [
  none,
  some .ref,
  some (.int .i64),
  some (.int .i64),
  some .bool,
  some (.int .u8),
  some (.int .u8),
  some (.st (.pair (.int .i64) (.pair (.int .i64) (.pair .bool (.pair (.int .u8) .unit))))),
  some (.st (.pair (.int .i64) (.pair (.int .i64) (.pair .bool (.pair (.int .u8) .unit))))),
  some .str,
  some .str,
  some .str,
  some (.int .u64),
  none,
  none,
  some .ref,
  some .ref,
  some .ref,
  none,
  none,
  none,
  some (.int .i32),
  some (.sl (.int .u8)),
  some (.st (.pair (.int .i64) (.pair .str .unit))),
  some (.st (.pair (.int .i64) (.pair .str .unit))),
  some .ref,
  some .ref,
  some .ref,
  some .ref,
  some .ref,
  some (.st (.pair (.int .i64) (.pair (.sl (.int .u8)) .unit))),
  some (.st (.pair (.int .i64) (.pair (.sl (.int .u8)) .unit))),
  some .ref,
  some .ref,
  some .ref,
  some .ref,
  some (.sl (.st (.pair (.int .i64) (.pair .bool (.pair (.sl (.int .u8)) .unit))))),
  some .ref,
  some .ref,
  some (.sl (.st (.pair (.int .i64) (.pair .bool (.pair (.sl (.int .u8)) .unit))))),
  some .ref,
  some .ref,
  some (.sl .str),
  some (.st (.pair (.int .i64) (.pair (.sl .str) .unit))),
  some (.st (.pair (.int .i64) (.pair (.sl .str) .unit))),
  some .ref,
  some .ref,
  some .ref,
  some (.st (.pair (.int .i64) (.pair (.sl (.st (.pair (.int .i64) (.pair .bool (.pair (.sl (.int .u8)) .unit))))) .unit))),
  some (.st (.pair (.int .i64) (.pair (.sl (.st (.pair (.int .i64) (.pair .bool (.pair (.sl (.int .u8)) .unit))))) .unit))),
  some .ref,
  some .ref,
  some .ref,
  some .ref,
  some .ref,
  some .ref,
  some .ref,
  some .ref,
  some (.int .u64),
  some .ref,
  some .ref,
  some (.st (.pair (.int .i64) (.pair .bool (.pair (.sl (.int .u8)) .unit)))),
  some (.st (.pair (.int .i64) (.pair .bool (.pair (.sl (.int .u8)) .unit)))),
  some (.st (.pair (.int .i64) (.pair .bool (.pair (.sl (.int .u8)) .unit)))),
  some .ref,
  some .ref,
  some .ref,
  some .ref,
  some .ref,
  some .ref,
  some .ref,
  some .ref,
  some .ref,
  some .ref,
  some .ref,
  some .ref,
  some .ref,
  some (.sl (.st (.pair (.int .i64) (.pair (.int .i64) .unit)))),
  some (.st (.pair (.int .i64) (.pair (.int .i64) .unit))),
  some (.st (.pair (.int .i64) (.pair (.int .i64) .unit))),
  some .ref,
  some .ref,
  some .ref,
  some .ref,
  none,
  none,
  none,
  none,
  none,
  some .ref,
  some (.int .u32),
  some (.int .u8),
  some (.int .u8),
  some .ref,
  some .ref,
  some (.int .i32),
  some (.int .i32),
  none,
  none,
  none]
def live : List (Nat × List (Nat × List Nat)) := [
  (10, [(3, [0, 3, 4])]),
  (13, [(4, [0, 1, 5])]),
  (14, [(5, [0, 2, 3, 4])]),
  (15, [(5, [0, 2, 3, 4])]),
  (19, [(5, [0, 1, 5])]),
  (21, [(3, [0, 3, 4])]),
  (23, [(4, [0, 1, 5])]),
  (29, [(2, [0, 1, 5])]),
  (31, [(5, [0, 2, 3, 4])]),
  (34, [(2, [0, 1, 5])]),
  (37, [(4, [0, 3, 4, 5])]),
  (38, [(3, [3, 7, 8, 9])]),
  (41, [(2, [0, 1, 5])]),
  (42, [(2, [0, 1, 5])]),
  (44, [(4, [0, 1, 5])]),
  (48, [(4, [3, 4, 5])]),
  (49, [(4, [0, 1, 5, 6, 14]), (16, [0, 9, 47, 48, 49])]),
  (51, [(4, [0, 1, 5])]),
  (52, [(2, [0, 1, 5])]),
  (53, [(2, [0, 1, 5])]),
  (54, [(3, [0, 3, 5, 6])]),
  (57, [(3, [3, 5, 8, 9, 10])]),
  (58, [(3, [0, 3, 4])]),
  (60, [(2, [0, 1, 5])]),
  (63, [(4, [1, 2, 15, 16, 17])]),
  (65, [(4, [0, 1, 12, 13])]),
  (66, [(4, [0, 1, 5, 6, 7])]),
  (67, [(4, [0, 3])]),
  (68, [(2, [0, 1, 7, 8])]),
  (70, [(3, [1, 5, 9, 10, 11])]),
  (73, [(3, [3, 7, 8, 9])])]
def E72 : Entry := { id := 73, fid := 72, ps := [.view .str, .view (.int .u8)], rs := [(.int .i64)], hook := some fun x => some (idxByte x.1 x.2.1, ()) }
def E61 : Entry := { id := 62, fid := 61, ps := [.view .str, .view (.int .u8)], rs := [(.int .i64)], hook := none }
def E39 : Entry := { id := 40, fid := 39, ps := [.view (.int .u8)], rs := [(.int .i64)], hook := none }
def E41 : Entry := { id := 42, fid := 41, ps := [.mut (.int .u8), .view (.int .i64)], rs := [(.int .i64)], hook := none }
def E40 : Entry := { id := 41, fid := 40, ps := [.view .str, .view (.int .u8)], rs := [(.int .i64)], hook := none }
def E13 : Entry := { id := 14, fid := 13, ps := [.view (.sl (.int .u8)), .view (.sl (.int .u8))], rs := [.bool], hook := none }
def E42 : Entry := { id := 43, fid := 42, ps := [.view (.sl (.int .u8)), .view (.int .i64)], rs := [(.int .i64)], hook := none }
def E14 : Entry := { id := 15, fid := 14, ps := [.view .str], rs := [(.st (.pair (.int .i64) (.pair (.sl (.int .u8)) .unit)))], hook := none }
def E17 : Entry := { id := 18, fid := 17, ps := [.agg 2, .view (.int .i64), .mut (.int .u8), .view (.int .i64)], rs := [(.int .i64)], hook := none }
def E15 : Entry := { id := 16, fid := 15, ps := [.view .str], rs := [(.st (.pair (.int .i64) (.pair (.sl (.int .u8)) .unit)))], hook := none }
def E16 : Entry := { id := 17, fid := 16, ps := [.view (.st (.pair (.int .i64) (.pair (.sl (.int .u8)) .unit))), .view (.st (.pair (.int .i64) (.pair (.sl (.int .u8)) .unit)))], rs := [.bool], hook := none }
def E18 : Entry := { id := 19, fid := 18, ps := [.view (.st (.pair (.int .i64) (.pair (.sl (.int .u8)) .unit))), .view (.int .i64)], rs := [(.int .i64)], hook := none }
def E4 : Entry := { id := 5, fid := 4, ps := [.view .str], rs := [.bool], hook := none }
def C : Ctx := { tt := tt, es := [E72, E61, E39, E41, E40, E13, E42, E14, E17, E15, E16, E18, E4], live := live }
theorem cok : CtxOk C Try.prog := ctx_ok (by kernel_rfl)
theorem eok : EntOk C Try.prog := ent_ok (by kernel_rfl) (by
  intro en hm h hh
  simp only [C, List.mem_cons, List.not_mem_nil, or_false] at hm
  rcases hm with rfl | rfl | rfl | rfl | rfl | rfl | rfl | rfl | rfl | rfl | rfl | rfl | rfl <;> first | (cases hh; done) | (cases hh; intro x y hy; cases hy; exact idx_ok Try.func72 (by kernel_rfl) (by kernel_rfl) (by kernel_rfl) (by kernel_rfl) x))
theorem mix : Try.prog.follows .mixedOrders = true := by kernel_rfl
noncomputable def Fn (en : Entry) (x : (argT en.ps).den) : Option en.R := callE Try.prog (MM C Try.prog) en x
theorem fn_eq {en : Entry} {x : (argT en.ps).den} {r : Option en.R} (hh : en.hook = none) (hc : (codeOf Try.prog en).isSome = true)
    (h : body C Try.prog (MM C Try.prog) en (startOf Try.prog en) (entered en x (ntmpsOf Try.prog en)) = r) : Fn en x = r := fnC_eq hh hc h
noncomputable def fE61 (a0 : ByteArray) (a1 : Int) : Option (Int × Unit) := Fn E61 (a0, (a1, ()))
noncomputable def fE39 (a0 : Int) : Option (Int × Unit) := Fn E39 (a0, ())
noncomputable def fE41 (a0 : (List Int)) (a1 : Int) : Option (Int × ((List Int) × Unit)) := Fn E41 (a0, (a1, ()))
noncomputable def E41_L2 (x0 : Int) (x1 : Int) (x2 : (List Int)) : Option (Int × ((List Int) × Unit)) := MM C Try.prog E41 (loopAt Try.prog E41 2) ⟨slots 20 0 [(0, .fsl 0), (1, .int .i64 x0), (5, .int .i64 x1)], [some (.arr (.int .u8) x2 true true 0)]⟩
noncomputable def fE40 (a0 : ByteArray) (a1 : Int) : Option (Int × Unit) := Fn E40 (a0, (a1, ()))
noncomputable def fE13 (a0 : (List Int)) (a1 : (List Int)) : Option (Bool × Unit) := Fn E13 (a0, (a1, ()))
noncomputable def E13_L4 (x0 : (List Int)) (x1 : (List Int)) (x2 : Int) : Option (Bool × Unit) := MM C Try.prog E13 (loopAt Try.prog E13 4) ⟨slots 26 0 [(0, .isl none (.int .u8) x0), (1, .isl none (.int .u8) x1), (5, .int .i64 x2)], []⟩
noncomputable def fE42 (a0 : (List Int)) (a1 : Int) : Option (Int × Unit) := Fn E42 (a0, (a1, ()))
noncomputable def E42_L2 (x0 : (List Int)) (x1 : Int) (x2 : Int) : Option (Int × Unit) := MM C Try.prog E42 (loopAt Try.prog E42 2) ⟨slots 22 0 [(0, .isl none (.int .u8) x0), (1, .int .i64 x1), (5, .int .i64 x2)], []⟩
noncomputable def fE14 (a0 : ByteArray) : Option ((Int × ((List Int) × Unit)) × Unit) := Fn E14 (a0, ())
noncomputable def E14_L5 (x0 : ByteArray) (x1 : Int) (x2 : Int) (x3 : (List Int)) : Option ((Int × ((List Int) × Unit)) × Unit) := MM C Try.prog E14 (loopAt Try.prog E14 5) ⟨slots 50 0 [(0, .str x0), (2, .ptr 0 0), (3, .fsl 1), (4, .int .i64 x1)], [some (.box [.int .i64 x2, .nsl]), some (.arr (.int .u8) x3 true true 0)]⟩
noncomputable def fE17 (a0 : Int) (a1 : (List Int)) (a2 : Int) : Option (Int × ((List Int) × Unit)) := Fn E17 (a0, (a1, (a2, ())))
noncomputable def fE15 (a0 : ByteArray) : Option ((Int × ((List Int) × Unit)) × Unit) := Fn E15 (a0, ())
noncomputable def E15_L5 (x0 : ByteArray) (x1 : Int) (x2 : Int) (x3 : (List Int)) : Option ((Int × ((List Int) × Unit)) × Unit) := MM C Try.prog E15 (loopAt Try.prog E15 5) ⟨slots 50 0 [(0, .str x0), (2, .ptr 0 0), (3, .fsl 1), (4, .int .i64 x1)], [some (.box [.int .i64 x2, .nsl]), some (.arr (.int .u8) x3 true true 0)]⟩
noncomputable def fE16 (a0 : (Int × ((List Int) × Unit))) (a1 : (Int × ((List Int) × Unit))) : Option (Bool × Unit) := Fn E16 (a0, (a1, ()))
noncomputable def fE18 (a0 : (Int × ((List Int) × Unit))) (a1 : Int) : Option (Int × Unit) := Fn E18 (a0, (a1, ()))
noncomputable def fE4 (a0 : ByteArray) : Option (Bool × Unit) := Fn E4 (a0, ())
theorem E61_eq (a0 : ByteArray) (a1 : Int) : fE61 a0 a1 = some ((idxByte a0 a1), ()) := fn_eq (en := E61) rfl (by kernel_rfl) (by kernel_rfl)
theorem E39_eq (a0 : Int) : fE39 a0 = br (icm .geq a0 48) (br (icm .leq a0 57) (some ((iwr .i64 (iar .sub .u8 a0 48)), ())) (br (icm .geq a0 97) (br (icm .leq a0 102) (some ((iar .add .i64 (iwr .i64 (iar .sub .u8 a0 97)) 10), ())) (some ((-1 : Int), ()))) (some ((-1 : Int), ())))) (br (icm .geq a0 97) (br (icm .leq a0 102) (some ((iar .add .i64 (iwr .i64 (iar .sub .u8 a0 97)) 10), ())) (some ((-1 : Int), ()))) (some ((-1 : Int), ()))) := fn_eq (en := E39) rfl (by kernel_rfl) (by kernel_rfl)
theorem E41_eq (a0 : (List Int)) (a1 : Int) : fE41 a0 a1 = E41_L2 a1 0 a0 := fn_eq (en := E41) rfl (by kernel_rfl) (by kernel_rfl)
theorem E41_L2_eq (x0 : Int) (x1 : Int) (x2 : (List Int)) : E41_L2 x0 x1 x2 = br (icm .lss x1 (lnat (llen x2))) (br (inb x1 (lnat (llen x2))) (E41_L2 (iar .add .i64 x0 1) (iar .add .i64 x1 1) (lmod x2 (itn x1) (fun r0 => (iwr .u8 x0)))) (none)) (some (x0, (x2, ()))) := (MM_eq _ _ _ _ _).trans (by kernel_rfl)
theorem E40_eq (a0 : ByteArray) (a1 : Int) : fE40 a0 a1 = bd (fE61 a0 a1) fun y0 => some (y0.1, ()) := fn_eq (en := E40) rfl (by kernel_rfl) (by kernel_rfl)
theorem E13_eq (a0 : (List Int)) (a1 : (List Int)) : fE13 a0 a1 = br (icm .neq (lnat (llen a0)) (lnat (llen a1))) (some (false, ())) (E13_L4 a0 a1 0) := fn_eq (en := E13) rfl (by kernel_rfl) (by kernel_rfl)
theorem E13_L4_eq (x0 : (List Int)) (x1 : (List Int)) (x2 : Int) : E13_L4 x0 x1 x2 = br (icm .lss x2 (lnat (llen x0))) (br (inb x2 (lnat (llen x0))) (br (inb x2 (lnat (llen x1))) (br (icm .neq (lget x0 (itn x2) (0 : Int)) (lget x1 (itn x2) (0 : Int))) (some (false, ())) (E13_L4 x0 x1 (iar .add .i64 x2 1))) (none)) (none)) (some (true, ())) := (MM_eq _ _ _ _ _).trans (by kernel_rfl)
theorem E42_eq (a0 : (List Int)) (a1 : Int) : fE42 a0 a1 = E42_L2 a0 a1 0 := fn_eq (en := E42) rfl (by kernel_rfl) (by kernel_rfl)
theorem E42_L2_eq (x0 : (List Int)) (x1 : Int) (x2 : Int) : E42_L2 x0 x1 x2 = br (icm .lss x2 (lnat (llen x0))) (br (inb x2 (lnat (llen x0))) (br (icm .neq (lget x0 (itn x2) (0 : Int)) (iwr .u8 x1)) (some ((-1 : Int), ())) (E42_L2 x0 (iar .add .i64 x1 1) (iar .add .i64 x2 1))) (none)) (some (x1, ())) := (MM_eq _ _ _ _ _).trans (by kernel_rfl)
theorem E14_eq (a0 : ByteArray) : fE14 a0 = br (icm .gtr (ssize a0) 1000) (some (((5 : Int), (([] : List Int), ())), ())) (br (icm .eql (iar .rem .i64 (ssize a0) 2) 1) (some (((5 : Int), (([] : List Int), ())), ())) (E14_L5 a0 0 0 ([] : List Int))) := fn_eq (en := E14) rfl (by kernel_rfl) (by kernel_rfl)
theorem E14_L5_eq (x0 : ByteArray) (x1 : Int) (x2 : Int) (x3 : (List Int)) : E14_L5 x0 x1 x2 x3 = br (icm .lss x1 (ssize x0)) (br (inb x1 (ssize x0)) (bd (fE39 (sget x0 x1)) fun y0 => br (inb (iar .add .i64 x1 1) (ssize x0)) (bd (fE39 (sget x0 (iar .add .i64 x1 1))) fun y1 => br (icm .lss y0.1 0) (some (((5 : Int), (([] : List Int), ())), ())) (br (icm .lss y1.1 0) (some (((5 : Int), (([] : List Int), ())), ())) (br (fits (nadd (llen x3) (llen ((iwr .u8 (iar .add .i64 (iar .mul .i64 16 y0.1) y1.1)) :: ([] : List Int))))) (E14_L5 x0 (iar .add .i64 x1 2) x2 (lcat x3 ((iwr .u8 (iar .add .i64 (iar .mul .i64 16 y0.1) y1.1)) :: ([] : List Int)))) (none)))) (none)) (none)) (some (((0 : Int), (x3, ())), ())) := (MM_eq _ _ _ _ _).trans (by kernel_rfl)
theorem E17_eq (a0 : Int) (a1 : (List Int)) (a2 : Int) : fE17 a0 a1 a2 = bd (fE41 a1 a2) fun y0 => br (nsame (llen y0.2.1) (llen a1)) (some (y0.1, (y0.2.1, ()))) (none) := fn_eq (en := E17) rfl (by kernel_rfl) (by kernel_rfl)
theorem E15_eq (a0 : ByteArray) : fE15 a0 = br (icm .neq (iar .rem .i64 (ssize a0) 2) 0) (some (((5 : Int), (([] : List Int), ())), ())) (br (icm .gtr (ssize a0) 1000) (some (((5 : Int), (([] : List Int), ())), ())) (E15_L5 a0 0 0 ([] : List Int))) := fn_eq (en := E15) rfl (by kernel_rfl) (by kernel_rfl)
theorem E15_L5_eq (x0 : ByteArray) (x1 : Int) (x2 : Int) (x3 : (List Int)) : E15_L5 x0 x1 x2 x3 = br (icm .lss x1 (ssize x0)) (br (inb x1 (ssize x0)) (bd (fE40 (⟨#[48, 49, 50, 51, 52, 53, 54, 55, 56, 57, 97, 98, 99, 100, 101, 102]⟩ : ByteArray) (sget x0 x1)) fun y0 => br (inb (iar .add .i64 x1 1) (ssize x0)) (bd (fE40 (⟨#[48, 49, 50, 51, 52, 53, 54, 55, 56, 57, 97, 98, 99, 100, 101, 102]⟩ : ByteArray) (sget x0 (iar .add .i64 x1 1))) fun y1 => br (icm .lss y0.1 0) (some (((5 : Int), (([] : List Int), ())), ())) (br (icm .lss y1.1 0) (some (((5 : Int), (([] : List Int), ())), ())) (br (fits (nadd (llen x3) (llen ((iwr .u8 (iar .or .i64 (iar .shl .i64 y0.1 4) y1.1)) :: ([] : List Int))))) (E15_L5 x0 (iar .add .i64 x1 2) x2 (lcat x3 ((iwr .u8 (iar .or .i64 (iar .shl .i64 y0.1 4) y1.1)) :: ([] : List Int)))) (none)))) (none)) (none)) (some (((0 : Int), (x3, ())), ())) := (MM_eq _ _ _ _ _).trans (by kernel_rfl)
theorem E16_eq (a0 : (Int × ((List Int) × Unit))) (a1 : (Int × ((List Int) × Unit))) : fE16 a0 a1 = br (icm .neq a0.1 a1.1) (some (false, ())) (bd (fE13 a0.2.1 a1.2.1) fun y0 => br (bnot y0.1) (some (false, ())) (some (true, ()))) := fn_eq (en := E16) rfl (by kernel_rfl) (by kernel_rfl)
theorem E18_eq (a0 : (Int × ((List Int) × Unit))) (a1 : Int) : fE18 a0 a1 = bd (fE42 a0.2.1 a1) fun y0 => br (icm .lss y0.1 0) (some ((-1 : Int), ())) (some (y0.1, ())) := fn_eq (en := E18) rfl (by kernel_rfl) (by kernel_rfl)
theorem E4_eq (a0 : ByteArray) : fE4 a0 = br (icm .gtr (ssize a0) 1048576) (some (true, ())) (bd (fE14 a0) fun y0 => bd (fE15 a0) fun y1 => bd (fE16 (y1.1.1, (y1.1.2.1, ())) (y0.1.1, (y0.1.2.1, ()))) fun y2 => br (bnot y2.1) (some (false, ())) (bd (fE17 y1.1.1 y1.1.2.1 (1 : Int)) fun y3 => br (nsame (llen y3.2.1) (llen y1.1.2.1)) (bd (fE18 (y1.1.1, (y3.2.1, ())) (1 : Int)) fun y4 => br (icm .lss y4.1 0) (some (false, ())) (br (icm .neq y4.1 y3.1) (some (false, ())) (bd (fE15 a0) fun y5 => bd (fE16 (y5.1.1, (y5.1.2.1, ())) (y0.1.1, (y0.1.2.1, ()))) fun y6 => br (bnot y6.1) (some (false, ())) (bd (fE18 (y1.1.1, (y3.2.1, ())) (1 : Int)) fun y7 => br (icm .lss y7.1 0) (some (false, ())) (br (icm .neq y7.1 y3.1) (some (false, ())) (some (true, ()))))))) (none))) := fn_eq (en := E4) rfl (by kernel_rfl) (by kernel_rfl)
end Go.Proofs.Ytijelhbbkjjciaa.Rx
