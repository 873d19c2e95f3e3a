/- The tables and the entries of the law FnExactHexOf, and what the evaluator says of each function that it reaches. -/
import Derived.Test.YtijelhbbkjjciaaEv3
import Derived.Test.YtijelhbbkjjciaaChecked
import Derived.KernelRfl
namespace Go.Proofs.Ytijelhbbkjjciaa.Hx
open Go Go.Evr
def tt : List (Option Ty) := [
  none,
  some .ref,
  some (.int .i64),
  some (.int .i64),
  some .bool,
  some (.int .u8),
  some (.int .u8),
  some (.st (.pair (.int .i64) (.pair (.int .i64) (.pair .bool (.pair (.int .u8) .unit))))),
  some (.st (.pair (.int .i64) (.pair (.int .i64) (.pair .bool (.pair (.int .u8) .unit))))),
  some .str,
  some .str,
  some .str,
  some (.int .u64),
  none,
  none,
  some .ref,
  some .ref,
  some .ref,
  none,
  none,
  none,
  some (.int .i32),
  some (.sl (.int .u8)),
  some (.st (.pair (.int .i64) (.pair .str .unit))),
  some (.st (.pair (.int .i64) (.pair .str .unit))),
  some .ref,
  some .ref,
  some .ref,
  some .ref,
  some .ref,
  some (.st (.pair (.int .i64) (.pair (.sl (.int .u8)) .unit))),
  some (.st (.pair (.int .i64) (.pair (.sl (.int .u8)) .unit))),
  some .ref,
  some .ref,
  some .ref,
  some .ref,
  some (.sl (.st (.pair (.int .i64) (.pair .bool (.pair (.sl (.int .u8)) .unit))))),
  some .ref,
  some .ref,
  some (.sl (.st (.pair (.int .i64) (.pair .bool (.pair (.sl (.int .u8)) .unit))))),
  some .ref,
  some .ref,
  some (.sl .str),
  some (.st (.pair (.int .i64) (.pair (.sl .str) .unit))),
  some (.st (.pair (.int .i64) (.pair (.sl .str) .unit))),
  some .ref,
  some .ref,
  some .ref,
  some (.st (.pair (.int .i64) (.pair (.sl (.st (.pair (.int .i64) (.pair .bool (.pair (.sl (.int .u8)) .unit))))) .unit))),
  some (.st (.pair (.int .i64) (.pair (.sl (.st (.pair (.int .i64) (.pair .bool (.pair (.sl (.int .u8)) .unit))))) .unit))),
  some .ref,
  some .ref,
  some .ref,
  some .ref,
  some .ref,
  some .ref,
  some .ref,
  some .ref,
  some (.int .u64),
  some .ref,
  some .ref,
  some (.st (.pair (.int .i64) (.pair .bool (.pair (.sl (.int .u8)) .unit)))),
  some (.st (.pair (.int .i64) (.pair .bool (.pair (.sl (.int .u8)) .unit)))),
  some (.st (.pair (.int .i64) (.pair .bool (.pair (.sl (.int .u8)) .unit)))),
  some .ref,
  some .ref,
  some .ref,
  some .ref,
  some .ref,
  some .ref,
  some .ref,
  some .ref,
  some .ref,
  some .ref,
  some .ref,
  some .ref,
  some .ref,
  some (.sl (.st (.pair (.int .i64) (.pair (.int .i64) .unit)))),
  some (.st (.pair (.int .i64) (.pair (.int .i64) .unit))),
  some (.st (.pair (.int .i64) (.pair (.int .i64) .unit))),
  some .ref,
  some .ref,
  some .ref,
  some .ref,
  none,
  none,
  none,
  none,
  none,
  some .ref,
  some (.int .u32),
  some (.int .u8),
  some (.int .u8),
  some .ref,
  some .ref,
  some (.int .i32),
  some (.int .i32),
  none,
  none,
  none]
def live : List (Nat × List (Nat × List Nat)) := [
  (10, [(3, [0, 3, 4])]),
  (13, [(4, [0, 1, 5])]),
  (14, [(5, [0, 2, 3, 4])]),
  (15, [(5, [0, 2, 3, 4])]),
  (19, [(5, [0, 1, 5])]),
  (21, [(3, [0, 3, 4])]),
  (23, [(4, [0, 1, 5])]),
  (29, [(2, [0, 1, 5])]),
  (31, [(5, [0, 2, 3, 4])]),
  (34, [(2, [0, 1, 5])]),
  (37, [(4, [0, 3, 4, 5])]),
  (38, [(3, [3, 7, 8, 9])]),
  (41, [(2, [0, 1, 5])]),
  (42, [(2, [0, 1, 5])]),
  (44, [(4, [0, 1, 5])]),
  (48, [(4, [3, 4, 5])]),
  (49, [(4, [0, 1, 5, 6, 14]), (16, [0, 9, 47, 48, 49])]),
  (51, [(4, [0, 1, 5])]),
  (52, [(2, [0, 1, 5])]),
  (53, [(2, [0, 1, 5])]),
  (54, [(3, [0, 3, 5, 6])]),
  (57, [(3, [3, 5, 8, 9, 10])]),
  (58, [(3, [0, 3, 4])]),
  (60, [(2, [0, 1, 5])]),
  (63, [(4, [1, 2, 15, 16, 17])]),
  (65, [(4, [0, 1, 12, 13])]),
  (66, [(4, [0, 1, 5, 6, 7])]),
  (67, [(4, [0, 3])]),
  (68, [(2, [0, 1, 7, 8])]),
  (70, [(3, [1, 5, 9, 10, 11])]),
  (73, [(3, [3, 7, 8, 9])])]
def E37 : Entry := { id := 1, fid := 37, ps := [.view (.sl (.int .u8))], rs := [.str], hook := none }
def E38 : Entry := { id := 2, fid := 38, ps := [.view (.sl (.int .u8))], rs := [.str], hook := none }
def E9 : Entry := { id := 3, fid := 9, ps := [.view (.sl (.int .u8))], rs := [.st (.pair (.int .i64) (.pair .str .unit))], hook := none }
def E11 : Entry := { id := 4, fid := 11, ps := [.view (.sl (.int .u8))], rs := [.st (.pair (.int .i64) (.pair .str .unit))], hook := none }
def E10 : Entry := { id := 5, fid := 10, ps := [.view (.sl (.int .u8))], rs := [.sl (.int .u8)], hook := none }
def E13 : Entry := { id := 6, fid := 13, ps := [.view (.sl (.int .u8)), .view (.sl (.int .u8))], rs := [.bool], hook := none }
def E12 : Entry := { id := 7, fid := 12, ps := [.view (.st (.pair (.int .i64) (.pair .str .unit))), .view (.st (.pair (.int .i64) (.pair .str .unit)))], rs := [.bool], hook := none }
def E3 : Entry := { id := 8, fid := 3, ps := [.view (.sl (.int .u8))], rs := [.bool], hook := none }
def C : Ctx := { tt := tt, es := [E37, E38, E9, E11, E10, E13, E12, E3], live := live }
theorem cok : CtxOk C Try.prog := ctx_ok (by kernel_rfl)
theorem eok : EntOk C Try.prog := ent_ok (by kernel_rfl) (by
  intro en hm h hh
  simp only [C, List.mem_cons, List.not_mem_nil, or_false] at hm
  rcases hm with rfl | rfl | rfl | rfl | rfl | rfl | rfl | rfl <;> cases hh)
theorem mix : Try.prog.follows .mixedOrders = true := by kernel_rfl
noncomputable def Fn (en : Entry) (x : (argT en.ps).den) : Option en.R := callE Try.prog (MM C Try.prog) en x
theorem fn_eq {en : Entry} {x : (argT en.ps).den} {r : Option en.R} (hh : en.hook = none) (hc : (codeOf Try.prog en).isSome = true)
    (h : body C Try.prog (MM C Try.prog) en (startOf Try.prog en) (entered en x (ntmpsOf Try.prog en)) = r) : Fn en x = r := fnC_eq hh hc h
noncomputable def fE37 (a0 : (List Int)) : Option (ByteArray × Unit) := Fn E37 (a0, ())
noncomputable def E37_L4 (x0 : (List Int)) (x1 : ByteArray) (x2 : Int) (x3 : (List Int)) : Option (ByteArray × Unit) := MM C Try.prog E37 (loopAt Try.prog E37 4) ⟨slots 32 0 [(0, .isl none (.int .u8) x0), (3, .str x1), (4, .fsl 0), (5, .int .i64 x2)], [some (.arr (.int .u8) x3 true true 0)]⟩
noncomputable def fE38 (a0 : (List Int)) : Option (ByteArray × Unit) := Fn E38 (a0, ())
noncomputable def E38_L3 (x0 : (List Int)) (x1 : Int) (x2 : Int) (x3 : (List Int)) : Option (ByteArray × Unit) := MM C Try.prog E38 (loopAt Try.prog E38 3) ⟨slots 25 0 [(3, .fsl 0), (7, .isl none (.int .u8) x0), (8, .int .i64 x1), (9, .int .i64 x2)], [some (.arr (.int .u8) x3 true true 0)]⟩
noncomputable def fE9 (a0 : (List Int)) : Option ((Int × (ByteArray × Unit)) × Unit) := Fn E9 (a0, ())
noncomputable def fE11 (a0 : (List Int)) : Option ((Int × (ByteArray × Unit)) × Unit) := Fn E11 (a0, ())
noncomputable def fE10 (a0 : (List Int)) : Option ((List Int) × Unit) := Fn E10 (a0, ())
noncomputable def E10_L3 (x0 : (List Int)) (x1 : Int) (x2 : (List Int)) : Option ((List Int) × Unit) := MM C Try.prog E10 (loopAt Try.prog E10 3) ⟨slots 22 0 [(0, .isl none (.int .u8) x0), (3, .fsl 0), (4, .int .i64 x1)], [some (.arr (.int .u8) x2 true true 0)]⟩
noncomputable def fE13 (a0 : (List Int)) (a1 : (List Int)) : Option (Bool × Unit) := Fn E13 (a0, (a1, ()))
noncomputable def E13_L4 (x0 : (List Int)) (x1 : (List Int)) (x2 : Int) : Option (Bool × Unit) := MM C Try.prog E13 (loopAt Try.prog E13 4) ⟨slots 26 0 [(0, .isl none (.int .u8) x0), (1, .isl none (.int .u8) x1), (5, .int .i64 x2)], []⟩
noncomputable def fE12 (a0 : (Int × (ByteArray × Unit))) (a1 : (Int × (ByteArray × Unit))) : Option (Bool × Unit) := Fn E12 (a0, (a1, ()))
noncomputable def fE3 (a0 : (List Int)) : Option (Bool × Unit) := Fn E3 (a0, ())
theorem E37_eq (a0 : (List Int)) : fE37 a0 = E37_L4 a0 (⟨#[48, 49, 50, 51, 52, 53, 54, 55, 56, 57, 97, 98, 99, 100, 101, 102]⟩ : ByteArray) 0 ([] : List Int) := fn_eq (en := E37) rfl (by kernel_rfl) (by kernel_rfl)
theorem E37_L4_eq (x0 : (List Int)) (x1 : ByteArray) (x2 : Int) (x3 : (List Int)) : E37_L4 x0 x1 x2 x3 = br (icm .lss x2 (lnat (llen x0))) (br (inb x2 (lnat (llen x0))) (br (inb (iar .quo .u8 (lget x0 (itn x2) (0 : Int)) 16) (ssize x1)) (br (inb x2 (lnat (llen x0))) (br (inb (iar .rem .u8 (lget x0 (itn x2) (0 : Int)) 16) (ssize x1)) (br (fits (nadd (llen x3) (llen ((sget x1 (iar .quo .u8 (lget x0 (itn x2) (0 : Int)) 16)) :: ((sget x1 (iar .rem .u8 (lget x0 (itn x2) (0 : Int)) 16)) :: ([] : List Int)))))) (E37_L4 x0 x1 (iar .add .i64 x2 1) (lcat x3 ((sget x1 (iar .quo .u8 (lget x0 (itn x2) (0 : Int)) 16)) :: ((sget x1 (iar .rem .u8 (lget x0 (itn x2) (0 : Int)) 16)) :: ([] : List Int))))) (none)) (none)) (none)) (none)) (none)) (some ((bytesStr x3), ())) := (MM_eq _ _ _ _ _).trans (by kernel_rfl)
theorem E38_eq (a0 : (List Int)) : fE38 a0 = E38_L3 a0 (lnat (llen a0)) 0 ([] : List Int) := fn_eq (en := E38) rfl (by kernel_rfl) (by kernel_rfl)
theorem E38_L3_eq (x0 : (List Int)) (x1 : Int) (x2 : Int) (x3 : (List Int)) : E38_L3 x0 x1 x2 x3 = br (icm .lss x2 x1) (br (inb x2 (lnat (llen x0))) (br (inb (iar .shr .u8 (lget x0 (itn x2) (0 : Int)) 4) (ssize (⟨#[48, 49, 50, 51, 52, 53, 54, 55, 56, 57, 97, 98, 99, 100, 101, 102]⟩ : ByteArray))) (br (inb (iar .and .u8 (lget x0 (itn x2) (0 : Int)) 15) (ssize (⟨#[48, 49, 50, 51, 52, 53, 54, 55, 56, 57, 97, 98, 99, 100, 101, 102]⟩ : ByteArray))) (br (fits (nadd (llen x3) (llen ((sget (⟨#[48, 49, 50, 51, 52, 53, 54, 55, 56, 57, 97, 98, 99, 100, 101, 102]⟩ : ByteArray) (iar .shr .u8 (lget x0 (itn x2) (0 : Int)) 4)) :: ((sget (⟨#[48, 49, 50, 51, 52, 53, 54, 55, 56, 57, 97, 98, 99, 100, 101, 102]⟩ : ByteArray) (iar .and .u8 (lget x0 (itn x2) (0 : Int)) 15)) :: ([] : List Int)))))) (E38_L3 x0 x1 (iar .add .i64 x2 1) (lcat x3 ((sget (⟨#[48, 49, 50, 51, 52, 53, 54, 55, 56, 57, 97, 98, 99, 100, 101, 102]⟩ : ByteArray) (iar .shr .u8 (lget x0 (itn x2) (0 : Int)) 4)) :: ((sget (⟨#[48, 49, 50, 51, 52, 53, 54, 55, 56, 57, 97, 98, 99, 100, 101, 102]⟩ : ByteArray) (iar .and .u8 (lget x0 (itn x2) (0 : Int)) 15)) :: ([] : List Int))))) (none)) (none)) (none)) (none)) (some ((bytesStr x3), ())) := (MM_eq _ _ _ _ _).trans (by kernel_rfl)
theorem E9_eq (a0 : (List Int)) : fE9 a0 = br (icm .gtr (lnat (llen a0)) 500) (some (((2 : Int), ((⟨#[]⟩ : ByteArray), ())), ())) (bd (fE37 a0) fun y0 => some (((0 : Int), (y0.1, ())), ())) := fn_eq (en := E9) rfl (by kernel_rfl) (by kernel_rfl)
theorem E11_eq (a0 : (List Int)) : fE11 a0 = br (icm .gtr (lnat (llen a0)) 500) (some (((2 : Int), ((⟨#[]⟩ : ByteArray), ())), ())) (bd (fE38 a0) fun y0 => some (((0 : Int), (y0.1, ())), ())) := fn_eq (en := E11) rfl (by kernel_rfl) (by kernel_rfl)
theorem E10_eq (a0 : (List Int)) : fE10 a0 = br (ile (lnat (llen a0)) (lnat (llen a0))) (br (fits (itn (lnat (llen a0)))) (E10_L3 a0 0 (lrep (itn (lnat (llen a0))) (0 : Int))) (none)) (none) := fn_eq (en := E10) rfl (by kernel_rfl) (by kernel_rfl)
theorem E10_L3_eq (x0 : (List Int)) (x1 : Int) (x2 : (List Int)) : E10_L3 x0 x1 x2 = br (icm .lss x1 (lnat (llen x0))) (br (inb x1 (lnat (llen x0))) (br (inb x1 (lnat (llen x2))) (E10_L3 x0 (iar .add .i64 x1 1) (lmod x2 (itn x1) (fun r0 => (lget x0 (itn x1) (0 : Int))))) (none)) (none)) (some (x2, ())) := (MM_eq _ _ _ _ _).trans (by kernel_rfl)
theorem E13_eq (a0 : (List Int)) (a1 : (List Int)) : fE13 a0 a1 = br (icm .neq (lnat (llen a0)) (lnat (llen a1))) (some (false, ())) (E13_L4 a0 a1 0) := fn_eq (en := E13) rfl (by kernel_rfl) (by kernel_rfl)
theorem E13_L4_eq (x0 : (List Int)) (x1 : (List Int)) (x2 : Int) : E13_L4 x0 x1 x2 = br (icm .lss x2 (lnat (llen x0))) (br (inb x2 (lnat (llen x0))) (br (inb x2 (lnat (llen x1))) (br (icm .neq (lget x0 (itn x2) (0 : Int)) (lget x1 (itn x2) (0 : Int))) (some (false, ())) (E13_L4 x0 x1 (iar .add .i64 x2 1))) (none)) (none)) (some (true, ())) := (MM_eq _ _ _ _ _).trans (by kernel_rfl)
theorem E12_eq (a0 : (Int × (ByteArray × Unit))) (a1 : (Int × (ByteArray × Unit))) : fE12 a0 a1 = br (icm .neq a0.1 a1.1) (some (false, ())) (br (scm .neq a0.2.1 a1.2.1) (some (false, ())) (some (true, ()))) := fn_eq (en := E12) rfl (by kernel_rfl) (by kernel_rfl)
theorem E3_eq (a0 : (List Int)) : fE3 a0 = br (icm .gtr (lnat (llen a0)) 1048576) (some (true, ())) (bd (fE10 a0) fun y0 => bd (fE9 y0.1) fun y1 => bd (fE10 a0) fun y2 => bd (fE11 y2.1) fun y3 => bd (fE12 (y3.1.1, (y3.1.2.1, ())) (y1.1.1, (y1.1.2.1, ()))) fun y4 => br (bnot y4.1) (some (false, ())) (bd (fE10 a0) fun y5 => bd (fE13 y2.1 y5.1) fun y6 => br (bnot y6.1) (some (false, ())) (some (true, ())))) := fn_eq (en := E3) rfl (by kernel_rfl) (by kernel_rfl)
end Go.Proofs.Ytijelhbbkjjciaa.Hx
