/- The law FnExactIsAmong holds for every input: what the program's IsAmong returns is what the reference's returns. -/
import Derived.Test.YtijelhbbkjjciaaLaw2
import Derived.Test.YtijelhbbkjjciaaRows
import Derived.WalkKit
import Derived.ProofKit
import Derived.OpenShut
import Derived.ShutString
import Derived.ChangeOld
import Derived.Below
import Derived.SizedLaws
set_option linter.unusedVariables false
set_option linter.unusedSimpArgs false
namespace Go.Proofs.Ytijelhbbkjjciaa.Sm.Ia
open Go Go.Evr
open Go.ChangeShapes Go.WideShapes Go.ChangeAt Go.RowKit

/-- How often a message occurs. -/
def occ (l : List Msg) (m : Msg) : Nat := (List.range' 0 l.length).countP fun k => sameL [lget l k z0] [m]
theorem short1 {l : List Msg} (h : Short l) {k : Nat} (hk : k < l.length) : Short [lget l k z0] := by
  rw [lget_n hk]
  refine ⟨by simp, fun m hm => ?_⟩
  rw [List.mem_singleton.1 hm]
  exact h.2 _ (List.getElem_mem hk)
theorem mok1 {m : Msg} (h : Bytes m.2.2.1) : MOk [m] := fun n hn => by rw [List.mem_singleton.1 hn]; exact h
theorem mok_get {l : List Msg} (h : MOk l) {k : Nat} (hk : k < l.length) : Bytes (lget l k z0).2.2.1 := by rw [lget_n hk]; exact h _ (List.getElem_mem hk)
theorem lsub1 {l : List Msg} {k : Nat} (hk : k < l.length) : lsub l k 1 = [lget l k z0] := by
  unfold lsub
  rw [lget_n hk, List.drop_eq_getElem_cons hk]; rfl
theorem e57 {l : List Msg} (h : Short l) (m : Msg) : fE57 l m = some (((occ l m : Nat) : Int), ()) := by
  rw [E57_eq]
  have hF := count_steps (F := fun c k => E57_L3 c l (l.length : Int) (k : Int) m.1 m.2.1 m.2.2.1) (n := l.length) (t := fun k => sameL [lget l k z0] [m]) (fun k hk c hc => by
    show E57_L3 (c : Int) l (l.length : Int) (k : Int) m.1 m.2.1 m.2.2.1 = _
    rw [E57_L3_eq]
    have h1 : (k : Int) < (l.length : Int) := by omega
    have hl := h.1
    simp only [llen_n, lnat_n, lss_n, h1, decide_true, br_t, inb_n, hk, itn_n]
    have hm : (((lget l k z0).1, ((lget l k z0).2.1, ((lget l k z0).2.2.1, ()))) : Msg) = lget l k z0 := rfl
    have hn : ((m.1, (m.2.1, (m.2.2.1, ()))) : Msg) = m := rfl
    rw [hm, hn, e46 (short1 h hk), bd_s, add1 (k := c) (by omega), add1 (k := k) (by omega)]
    cases sameL [lget l k z0] [m] <;> simp) (fun c => by
    show E57_L3 c l (l.length : Int) (l.length : Int) m.1 m.2.1 m.2.2.1 = _
    rw [E57_L3_eq]; simp) l.length 0 0 (by omega) (by omega)
  refine Eq.trans hF ?_
  rw [Nat.zero_add]; rfl
theorem e54 {l : List Msg} (h : Short l) (ml : MOk l) {m : Msg} (hm : Bytes m.2.2.1) : fE54 l m = some (((occ l m : Nat) : Int), ()) := by
  rw [E54_eq]
  have hF := count_steps (F := fun c k => E54_L3 l c (k : Int) m.1 m.2.1 m.2.2.1) (n := l.length) (t := fun k => sameL [lget l k z0] [m]) (fun k hk c hc => by
    show E54_L3 l (c : Int) (k : Int) m.1 m.2.1 m.2.2.1 = _
    rw [E54_L3_eq]
    have h1 : (k : Int) < (l.length : Int) := by omega
    have hl := h.1
    have hn : ((m.1, (m.2.1, (m.2.2.1, ()))) : Msg) = m := rfl
    rw [hn, add1 (k := k) (by omega), add1 (k := c) (by omega)]
    have e1 : itn (isub ((k + 1 : Nat) : Int) (k : Int)) = 1 := by unfold isub itn; omega
    rw [e1]
    simp only [llen_n, lnat_n, lss_n, h1, decide_true, br_t, itn_n, ile_n]
    rw [decide_eq_true (show (0 : Int) ≤ (k : Int) by omega), decide_eq_true (show (k : Int) ≤ ((k + 1 : Nat) : Int) by omega), decide_eq_true (show ((k + 1 : Nat) : Int) ≤ (l.length : Int) by omega)]
    rw [lsub1 hk, e44 (short1 h hk) (mok1 (mok_get ml hk)) (mok1 hm)]
    simp only [br_t, bd_s]
    cases sameL [lget l k z0] [m] <;> simp) (fun c => by
    show E54_L3 l c (l.length : Int) m.1 m.2.1 m.2.2.1 = _
    rw [E54_L3_eq]; simp) l.length 0 0 (by omega) (by omega)
  refine Eq.trans hF ?_
  rw [Nat.zero_add]; rfl
def among (a b : List Msg) : Bool := (List.range' 0 a.length).all fun k => !decide (occ b (lget a k z0) < occ a (lget a k z0))
theorem e29 {a b : List Msg} (ha : Short a) (hb : Short b) (ma : MOk a) (mb : MOk b) : fE29 a b = some (among a b, ()) := by
  rw [E29_eq]
  have hF := all_steps (F := fun k => E29_L2 a b (k : Int)) (n := a.length) (t := fun k => !decide (occ b (lget a k z0) < occ a (lget a k z0))) (fun k hk => by
    show E29_L2 a b (k : Int) = _
    rw [E29_L2_eq]
    have h1 : (k : Int) < (a.length : Int) := by omega
    have hl := ha.1
    simp only [llen_n, lnat_n, lss_n, h1, decide_true, br_t, inb_n, hk, itn_n]
    have hm : (((lget a k z0).1, ((lget a k z0).2.1, ((lget a k z0).2.2.1, ()))) : Msg) = lget a k z0 := rfl
    rw [hm, e54 hb mb (mok_get ma hk), e54 ha ma (mok_get ma hk), add1 (by omega)]
    simp only [bd_s, Int.ofNat_lt]
    by_cases h : occ b (lget a k z0) < occ a (lget a k z0) <;> simp [h]) (by
    show E29_L2 a b (a.length : Int) = _
    rw [E29_L2_eq]; simp) a.length 0 (by omega)
  exact hF
theorem e30 {a b : List Msg} (ha : Short a) (hb : Short b) : fE30 a b = some (among a b, ()) := by
  rw [E30_eq, E55_eq, E68_eq]
  obtain ⟨r, h1, h2⟩ := any_steps (F := fun k => E68_L2 a a b (a.length : Int) (k : Int)) (n := a.length) (t := fun k => decide (occ b (lget a k z0) < occ a (lget a k z0))) (fun k hk => by
    show E68_L2 a a b (a.length : Int) (k : Int) = _
    rw [E68_L2_eq]
    have h1 : (k : Int) < (a.length : Int) := by omega
    have hl := ha.1
    simp only [llen_n, lnat_n, lss_n, h1, decide_true, br_t, inb_n, hk, itn_n]
    have hm : (((lget a k z0).1, ((lget a k z0).2.1, ((lget a k z0).2.2.1, ()))) : Msg) = lget a k z0 := rfl
    rw [hm, E56_eq]
    rw [hm, e57 ha, e57 hb, add1 (by omega)]
    simp only [bd_s, gtr_n, gt_iff_lt, Int.ofNat_lt]
    by_cases h : occ b (lget a k z0) < occ a (lget a k z0) <;> simp [h]) (by
    show E68_L2 a a b (a.length : Int) (a.length : Int) = _
    rw [E68_L2_eq]; simp) a.length 0 (by omega)
  have h1 : E68_L2 a a b (lnat (llen a)) 0 = some (r, ()) := h1
  rw [h1]
  simp only [bd_s, geq_n, bnot_n]
  rw [h2]
  unfold among
  rw [List.not_any_eq_all_not]
theorem mok_of {a : List Msg} (h : DOk (.sl (.st (.pair (.int .i64) (.pair .bool (.pair (.sl (.int .u8)) .unit))))) a) : MOk a := fun m hm => bytes_of (h.2 m hm).2.2.1
theorem len_of {a : List Msg} (h : DOk (.sl (.st (.pair (.int .i64) (.pair .bool (.pair (.sl (.int .u8)) .unit))))) a) : ∀ m ∈ a, m.2.2.1.length ≤ maxLen := fun m hm => (h.2 m hm).2.2.1.1
theorem pureLaw {a b : List Msg} (da : DOk (.sl (.st (.pair (.int .i64) (.pair .bool (.pair (.sl (.int .u8)) .unit))))) a) (db : DOk (.sl (.st (.pair (.int .i64) (.pair .bool (.pair (.sl (.int .u8)) .unit))))) b) : fE7 a b = some (true, ()) := by
  rw [E7_eq]
  obtain ⟨r, h1, h2⟩ := e19 (k := 1048576) da.1 (len_of da) (by omega) (by omega)
  rw [h1, bd_s, lss_n]
  rcases h2 with h2 | ⟨h2, h3, sa⟩
  · rw [decide_eq_true h2]; rfl
  · rw [decide_eq_false (show ¬ r < 0 by omega), br_f]
    obtain ⟨s, q1, q2⟩ := e19 (k := r) db.1 (len_of db) h2 h3
    rw [q1, bd_s, lss_n]
    rcases q2 with q2 | ⟨q2, q3, sb⟩
    · rw [decide_eq_true q2]; rfl
    · rw [decide_eq_false (show ¬ s < 0 by omega), br_f]
      simp only [e21 sa, e21 sb, bd_s, e29 sa sb (mok_of da) (mok_of db), e30 sa sb, e23 sa, e23 sb, bnot_n, Bool.not_true, br_f]
      cases among a b <;> rfl

theorem own : ownKnob Try.prog.godebug = none := by kernel_rfl
theorem laidOut : laidOutB Try.prog = true := by kernel_rfl
theorem kind_0 : C.ty 36 = some (.sl (.st (.pair (.int .i64) (.pair .bool (.pair (.sl (.int .u8)) .unit))))) := by kernel_rfl
theorem kind_1 : C.ty 36 = some (.sl (.st (.pair (.int .i64) (.pair .bool (.pair (.sl (.int .u8)) .unit))))) := by kernel_rfl
set_option maxRecDepth 100000 in
theorem lifted (os : Os) (started : os.Started) (H : Type) (enc : TypeId × Value → H) :
    ReturnsInHanded {} Try.checked os 7 .any (Rows.fnExactIsAmongSpec.pre6 enc Try.prog Try.f7 Rows.fnExactIsAmongRow.domain false) (Rows.fnExactIsAmongSpec.post enc Try.prog Try.f7 false true false false) := by
  refine returnsInHanded_of_change_sized (C := Try.checked) own started (by kernel_rfl) Try.func7
    (ChangeSpec.witness6 (enc := enc) (C := Try.checked) false ⟨#[], #[.slice none 0 0, .slice none 0 0], []⟩ 8 (by kernel_rfl) (by kernel_rfl) (by kernel_rfl) (by kernel_rfl)) ?_
  intro W base args ds gs before hval0 hW hcnd hsz0 _
  have hval : ∀ (j : Nat) t v, Try.f7.params[j]? = some t → args[j]? = some v → Value.okWide Try.prog W .any base t v := hval0
  have hW' := hW
  obtain ⟨p, q, hA0, hV, rfl, hfz, hnd⟩ := hW
  have hA : DataW.TrodAll enc Try.prog W 0 (fun _ => true) true Try.f7.params.toList args.toList ds p := hA0
  rw [Try.params7] at hA hval
  obtain ⟨v0, vs0, d0, ds0, p0, q0, hargs, rfl, rfl, h0, r0⟩ := trodAll_cons hA
  obtain ⟨v1, vs1, d1, ds1, p1, q1, hargs1, rfl, rfl, h1, r1⟩ := trodAll_cons r0
  obtain ⟨rfl, rfl, rfl⟩ := trodAll_nil r1
  obtain rfl : args = #[v0, v1] := by cases args; simp_all
  obtain ⟨rfl, rfl⟩ := trodVars_none hV
  have k0 := h0
  have lt0 : ∀ x ∈ p0, x.block < W.heap.size := by obtain ⟨m, hm⟩ := k0; exact DataW.trod_lt m _ _ _ hm
  obtain ⟨x0, us0, hr0, hs0, hd0⟩ := arg_ok cok kind_0 (by kernel_rfl) (hval 0 36 v0 rfl rfl) h0
  have k1 := h1
  have lt1 : ∀ x ∈ p1, x.block < W.heap.size := by obtain ⟨m, hm⟩ := k1; exact DataW.trod_lt m _ _ _ hm
  obtain ⟨x1, us1, hr1, hs1, hd1⟩ := arg_ok cok kind_1 (by kernel_rfl) (hval 1 36 v1 rfl rfl) h1
  have hp := pureLaw hd0 hd1
  have ha : ArgsOk ZT W E7.ps (x0, (x1, ())) [v0, v1] ZF := ⟨v0, [v1], us0, rfl, hr0, hs0, ⟨v1, [], us1, rfl, hr1, hs1, rfl⟩⟩
  refine (law_calls cok eok mix (id := 8) (fid := 7) (ps := E7.ps) (hook := Option.none) (by simp [C, E7]) hp rfl ha Try.func7 (by kernel_rfl) (by kernel_rfl)).mono fun e W' ⟨he, bel⟩ => ?_
  subst he
  exact ⟨_, rfl, _, _, _, [], _, [], hW', trodAll_mk1 (shut_bool Try.underlying4 _), (trodAll_cons_mk (Below.trod laidOut (by kernel_rfl) (of_decide_eq_true (by kernel_rfl)) k0 bel lt0) (trodAll_cons_mk (Below.trod laidOut (by kernel_rfl) (of_decide_eq_true (by kernel_rfl)) k1 bel lt1) trodAll_mk0)), rfl, bel.frame _, fun h => by cases h⟩
theorem over : Rows.fnExactIsAmongRow.holds Try.pinned (OpenSpec.ofChange Rows.fnExactIsAmongSpec) :=
  OpenClaim.holds_of_wide 7 Try.f7 rfl rfl rfl rfl rfl rfl rfl ⟨rfl, rfl, rfl, rfl, rfl⟩ rfl rfl rfl rfl rfl (by kernel_rfl) Try.func7 (by kernel_rfl)
    (of_decide_eq_true (by kernel_rfl)) (by unfold Func.isWrapper; first | (rw [if_pos (by decide +kernel)]; kernel_rfl) | (rw [if_neg (by decide +kernel)]; exact ⟨rfl, rfl⟩))
    (fun os started H enc _ => lifted os started H enc)
end Go.Proofs.Ytijelhbbkjjciaa.Sm.Ia
namespace Go.Proofs.Ytijelhbbkjjciaa
/-- The law, for the claim. -/
theorem fnExactIsAmong_holds : Rows.FnExactIsAmongSaid := Sm.Ia.over
end Go.Proofs.Ytijelhbbkjjciaa
