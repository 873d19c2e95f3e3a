/- The law FnExactHexOf holds for every input: what the program's HexOf returns is what the reference's returns. -/
import Derived.Test.YtijelhbbkjjciaaLaw1
import Derived.Test.YtijelhbbkjjciaaRows
import Derived.WalkKit
import Derived.ProofKit
import Derived.OpenShut
import Derived.ShutString
import Derived.ChangeOld
import Derived.Below
import Derived.SizedLaws
namespace Go.Proofs.Ytijelhbbkjjciaa.Hx
open Go Go.Evr
open Go.ChangeShapes Go.WideShapes Go.ChangeAt Go.RowKit

theorem e10 {a : List Int} (ha : a.length ≤ 1048576) : fE10 a = some (a, ()) := by
  have h := copy_loop (z := 0) (F := E10_L3) E10_L3_eq (x := a) (by omega) a.length 0 (List.replicate a.length 0) (by omega) (by simp)
  rw [List.take_zero, List.nil_append] at h
  rw [E10_eq, fits_n (show itn (lnat (llen a)) ≤ _ by simp; omega)]
  simp only [ile_n, Int.le_refl, decide_true, br_t]
  exact h
theorem e13 {a : List Int} (ha : a.length ≤ 1048576) : fE13 a a = some (true, ()) := by
  have h := same_loop (F := E13_L4) E13_L4_eq (x := a) (by omega) a.length 0 (by omega)
  rw [E13_eq]
  simp only [neq_n, bne_self_eq_false, br_f]
  exact h
theorem e37 {a : List Int} (ha : a.length ≤ 1048576) (hb : Bytes a) : fE37 a = some (bytesStr (hexL a), ()) := by
  have h := hex_loop1 (F := E37_L4) E37_L4_eq ha hb a.length 0 [] (by omega) (by simp)
  rw [E37_eq]
  simpa using h
theorem e38 {a : List Int} (ha : a.length ≤ 1048576) (hb : Bytes a) : fE38 a = some (bytesStr (hexL a), ()) := by
  have h := hex_loop2 (F := E38_L3) E38_L3_eq ha hb a.length 0 [] (by omega) (by simp)
  rw [E38_eq]
  simpa using h
theorem e9 {a : List Int} (ha : a.length ≤ 1048576) (hb : Bytes a) : fE9 a = fE11 a := by
  rw [E9_eq, E11_eq, e37 ha hb, e38 ha hb]
theorem e12 (x : Int × (ByteArray × Unit)) : fE12 (x.1, (x.2.1, ())) (x.1, (x.2.1, ())) = some (true, ()) := by
  rw [E12_eq]
  simp [neq_n, scm]
theorem e11 {a : List Int} (ha : a.length ≤ 1048576) (hb : Bytes a) : ∃ x, fE11 a = some (x, ()) := by
  rw [E11_eq, e38 ha hb]
  by_cases h : (a.length : Int) > 500
  · simp [h]
  · simp [h]
theorem pure {a : List Int} (hb : Bytes a) : fE3 a = some (true, ()) := by
  rw [E3_eq]
  by_cases h : (a.length : Int) > 1048576
  · simp [h]
  · have ha : a.length ≤ 1048576 := by omega
    obtain ⟨x, hx⟩ := e11 ha hb
    simp only [gtr_n, llen_n, lnat_n, h, decide_false, br_f, e10 ha, bd_s, e9 ha hb, hx, e12, e13 ha, bnot_n, Bool.not_true]

theorem own : ownKnob Try.prog.godebug = none := by kernel_rfl
theorem laidOut : laidOutB Try.prog = true := by kernel_rfl
theorem kind22 : C.ty 22 = some (.sl (.int .u8)) := by kernel_rfl
set_option maxRecDepth 100000 in
theorem lifted (os : Os) (started : os.Started) (H : Type) (enc : TypeId × Value → H) :
    ReturnsInHanded {} Try.checked os 3 .any (Rows.fnExactHexOfSpec.pre6 enc Try.prog Try.f3 Rows.fnExactHexOfRow.domain false) (Rows.fnExactHexOfSpec.post enc Try.prog Try.f3 false true false false) := by
  refine returnsInHanded_of_change_sized (C := Try.checked) own started (by kernel_rfl) Try.func3
    (ChangeSpec.witness6 (enc := enc) (C := Try.checked) false ⟨#[], #[.slice none 0 0], []⟩ 8 (by kernel_rfl) (by kernel_rfl) (by kernel_rfl) (by kernel_rfl)) ?_
  intro W base args ds gs before hval0 hW hcnd hsz0 _
  have hval : ∀ (j : Nat) t v, Try.f3.params[j]? = some t → args[j]? = some v → Value.okWide Try.prog W .any base t v := hval0
  have hW' := hW
  obtain ⟨p, q, hA0, hV, rfl, hfz, hnd⟩ := hW
  have hA : DataW.TrodAll enc Try.prog W 0 (fun _ => true) true Try.f3.params.toList args.toList ds p := hA0
  rw [Try.params3] at hA hval
  obtain ⟨v0, vs0, d0, ds0, p0, q0, hargs, rfl, rfl, h0, r0⟩ := trodAll_cons hA
  obtain ⟨rfl, rfl, rfl⟩ := trodAll_nil r0
  obtain rfl : args = #[v0] := by cases args; simp_all
  obtain ⟨rfl, rfl⟩ := trodVars_none hV
  have k0 := h0
  have lt0 : ∀ x ∈ p0, x.block < W.heap.size := by obtain ⟨m, hm⟩ := k0; exact DataW.trod_lt m _ _ _ hm
  obtain ⟨x, vs, hr, hs, hd⟩ := arg_ok cok kind22 (by kernel_rfl) (hval 0 22 v0 rfl rfl) h0
  have hp := pure (bytes_of hd)
  have ha : ArgsOk ZT W E3.ps (x, ()) [v0] ZF := ⟨v0, [], vs, rfl, hr, hs, rfl⟩
  refine (law_calls cok eok mix (id := 8) (fid := 3) (ps := E3.ps) (hook := Option.none) (by simp [C, E3]) hp rfl ha Try.func3 (by kernel_rfl) (by kernel_rfl)).mono fun e W' ⟨he, bel⟩ => ?_
  subst he
  exact ⟨_, rfl, _, _, _, [], _, [], hW', trodAll_mk1 (shut_bool Try.underlying4 _), (trodAll_cons_mk (Below.trod laidOut (by kernel_rfl) (of_decide_eq_true (by kernel_rfl)) k0 bel lt0) trodAll_mk0), rfl, bel.frame _, fun h => by cases h⟩
theorem over : Rows.fnExactHexOfRow.holds Try.pinned (OpenSpec.ofChange Rows.fnExactHexOfSpec) :=
  OpenClaim.holds_of_wide 3 Try.f3 rfl rfl rfl rfl rfl rfl rfl ⟨rfl, rfl, rfl, rfl, rfl⟩ rfl rfl rfl rfl rfl (by kernel_rfl) Try.func3 (by kernel_rfl)
    (of_decide_eq_true (by kernel_rfl)) (by unfold Func.isWrapper; first | (rw [if_pos (by decide +kernel)]; kernel_rfl) | (rw [if_neg (by decide +kernel)]; exact ⟨rfl, rfl⟩))
    (fun os started H enc _ => lifted os started H enc)
end Go.Proofs.Ytijelhbbkjjciaa.Hx
namespace Go.Proofs.Ytijelhbbkjjciaa
/-- The law, for the claim. -/
theorem fnExactHexOf_holds : Rows.FnExactHexOfSaid := Hx.over
end Go.Proofs.Ytijelhbbkjjciaa
