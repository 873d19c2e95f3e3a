/- The law FnExactIsBeginning holds for every input: what the program's IsBeginning returns is what the reference's returns. -/
import Derived.Test.YtijelhbbkjjciaaLaw2
import Derived.Test.YtijelhbbkjjciaaRows
import Derived.WalkKit
import Derived.ProofKit
import Derived.OpenShut
import Derived.ShutString
import Derived.ChangeOld
import Derived.Below
import Derived.SizedLaws
set_option linter.unusedVariables false
set_option linter.unusedSimpArgs false
namespace Go.Proofs.Ytijelhbbkjjciaa.Sm.Ib
open Go Go.Evr
open Go.ChangeShapes Go.WideShapes Go.ChangeAt Go.RowKit

theorem spec_impl {a b : List Msg} (ha : Short a) (ma : MOk a) (mb : MOk b) : fE20 a b = fE22 a b := by
  rw [E20_eq, E22_eq, e44 ha ma (mb.sub _ _), e46 ha]
theorem impl_some {a b : List Msg} (ha : Short a) : ∃ r, fE22 a b = some (r, ()) := by
  rw [E22_eq, e46 ha]
  simp only [leq_n, llen_n, lnat_n, ile_n, bd_s]
  by_cases h : (a.length : Int) ≤ (b.length : Int)
  · simp only [h, decide_true, br_t]; exact ⟨_, rfl⟩
  · simp only [h, decide_false, br_f]; exact ⟨_, rfl⟩
theorem mok_of {a : List Msg} (h : DOk (.sl (.st (.pair (.int .i64) (.pair .bool (.pair (.sl (.int .u8)) .unit))))) a) : MOk a := fun m hm => bytes_of (h.2 m hm).2.2.1
theorem len_of {a : List Msg} (h : DOk (.sl (.st (.pair (.int .i64) (.pair .bool (.pair (.sl (.int .u8)) .unit))))) a) : ∀ m ∈ a, m.2.2.1.length ≤ maxLen := fun m hm => (h.2 m hm).2.2.1.1
theorem pureLaw {a b : List Msg} (da : DOk (.sl (.st (.pair (.int .i64) (.pair .bool (.pair (.sl (.int .u8)) .unit))))) a) (db : DOk (.sl (.st (.pair (.int .i64) (.pair .bool (.pair (.sl (.int .u8)) .unit))))) b) : fE5 a b = some (true, ()) := by
  rw [E5_eq]
  obtain ⟨r, h1, h2⟩ := e19 (k := 1048576) da.1 (len_of da) (by omega) (by omega)
  rw [h1, bd_s, lss_n]
  rcases h2 with h2 | ⟨h2, h3, sa⟩
  · rw [decide_eq_true h2]; rfl
  · rw [decide_eq_false (show ¬ r < 0 by omega), br_f]
    obtain ⟨s, q1, q2⟩ := e19 (k := r) db.1 (len_of db) h2 h3
    rw [q1, bd_s, lss_n]
    rcases q2 with q2 | ⟨q2, q3, sb⟩
    · rw [decide_eq_true q2]; rfl
    · rw [decide_eq_false (show ¬ s < 0 by omega), br_f]
      obtain ⟨v, hv⟩ := impl_some (b := b) sa
      simp only [e21 sa, e21 sb, bd_s, spec_impl sa (mok_of da) (mok_of db), hv, e23 sa, e23 sb, bnot_n, Bool.not_true, br_f]
      cases v <;> rfl

theorem own : ownKnob Try.prog.godebug = none := by kernel_rfl
theorem laidOut : laidOutB Try.prog = true := by kernel_rfl
theorem kind_0 : C.ty 36 = some (.sl (.st (.pair (.int .i64) (.pair .bool (.pair (.sl (.int .u8)) .unit))))) := by kernel_rfl
theorem kind_1 : C.ty 36 = some (.sl (.st (.pair (.int .i64) (.pair .bool (.pair (.sl (.int .u8)) .unit))))) := by kernel_rfl
set_option maxRecDepth 100000 in
theorem lifted (os : Os) (started : os.Started) (H : Type) (enc : TypeId × Value → H) :
    ReturnsInHanded {} Try.checked os 5 .any (Rows.fnExactIsBeginningSpec.pre6 enc Try.prog Try.f5 Rows.fnExactIsBeginningRow.domain false) (Rows.fnExactIsBeginningSpec.post enc Try.prog Try.f5 false true false false) := by
  refine returnsInHanded_of_change_sized (C := Try.checked) own started (by kernel_rfl) Try.func5
    (ChangeSpec.witness6 (enc := enc) (C := Try.checked) false ⟨#[], #[.slice none 0 0, .slice none 0 0], []⟩ 8 (by kernel_rfl) (by kernel_rfl) (by kernel_rfl) (by kernel_rfl)) ?_
  intro W base args ds gs before hval0 hW hcnd hsz0 _
  have hval : ∀ (j : Nat) t v, Try.f5.params[j]? = some t → args[j]? = some v → Value.okWide Try.prog W .any base t v := hval0
  have hW' := hW
  obtain ⟨p, q, hA0, hV, rfl, hfz, hnd⟩ := hW
  have hA : DataW.TrodAll enc Try.prog W 0 (fun _ => true) true Try.f5.params.toList args.toList ds p := hA0
  rw [Try.params5] at hA hval
  obtain ⟨v0, vs0, d0, ds0, p0, q0, hargs, rfl, rfl, h0, r0⟩ := trodAll_cons hA
  obtain ⟨v1, vs1, d1, ds1, p1, q1, hargs1, rfl, rfl, h1, r1⟩ := trodAll_cons r0
  obtain ⟨rfl, rfl, rfl⟩ := trodAll_nil r1
  obtain rfl : args = #[v0, v1] := by cases args; simp_all
  obtain ⟨rfl, rfl⟩ := trodVars_none hV
  have k0 := h0
  have lt0 : ∀ x ∈ p0, x.block < W.heap.size := by obtain ⟨m, hm⟩ := k0; exact DataW.trod_lt m _ _ _ hm
  obtain ⟨x0, us0, hr0, hs0, hd0⟩ := arg_ok cok kind_0 (by kernel_rfl) (hval 0 36 v0 rfl rfl) h0
  have k1 := h1
  have lt1 : ∀ x ∈ p1, x.block < W.heap.size := by obtain ⟨m, hm⟩ := k1; exact DataW.trod_lt m _ _ _ hm
  obtain ⟨x1, us1, hr1, hs1, hd1⟩ := arg_ok cok kind_1 (by kernel_rfl) (hval 1 36 v1 rfl rfl) h1
  have hp := pureLaw hd0 hd1
  have ha : ArgsOk ZT W E5.ps (x0, (x1, ())) [v0, v1] ZF := ⟨v0, [v1], us0, rfl, hr0, hs0, ⟨v1, [], us1, rfl, hr1, hs1, rfl⟩⟩
  refine (law_calls cok eok mix (id := 6) (fid := 5) (ps := E5.ps) (hook := Option.none) (by simp [C, E5]) hp rfl ha Try.func5 (by kernel_rfl) (by kernel_rfl)).mono fun e W' ⟨he, bel⟩ => ?_
  subst he
  exact ⟨_, rfl, _, _, _, [], _, [], hW', trodAll_mk1 (shut_bool Try.underlying4 _), (trodAll_cons_mk (Below.trod laidOut (by kernel_rfl) (of_decide_eq_true (by kernel_rfl)) k0 bel lt0) (trodAll_cons_mk (Below.trod laidOut (by kernel_rfl) (of_decide_eq_true (by kernel_rfl)) k1 bel lt1) trodAll_mk0)), rfl, bel.frame _, fun h => by cases h⟩
theorem over : Rows.fnExactIsBeginningRow.holds Try.pinned (OpenSpec.ofChange Rows.fnExactIsBeginningSpec) :=
  OpenClaim.holds_of_wide 5 Try.f5 rfl rfl rfl rfl rfl rfl rfl ⟨rfl, rfl, rfl, rfl, rfl⟩ rfl rfl rfl rfl rfl (by kernel_rfl) Try.func5 (by kernel_rfl)
    (of_decide_eq_true (by kernel_rfl)) (by unfold Func.isWrapper; first | (rw [if_pos (by decide +kernel)]; kernel_rfl) | (rw [if_neg (by decide +kernel)]; exact ⟨rfl, rfl⟩))
    (fun os started H enc _ => lifted os started H enc)
end Go.Proofs.Ytijelhbbkjjciaa.Sm.Ib
namespace Go.Proofs.Ytijelhbbkjjciaa
/-- The law, for the claim. -/
theorem fnExactIsBeginning_holds : Rows.FnExactIsBeginningSaid := Sm.Ib.over
end Go.Proofs.Ytijelhbbkjjciaa
