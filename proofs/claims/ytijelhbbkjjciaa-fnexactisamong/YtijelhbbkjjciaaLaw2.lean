/- What the functions over lists of messages do, plainly: copies, sizes, comparisons. -/
import Derived.Test.YtijelhbbkjjciaaLaw1
import Derived.Test.YtijelhbbkjjciaaEv3
set_option linter.unusedVariables false
set_option linter.unusedSimpArgs false
namespace Go.Proofs.Ytijelhbbkjjciaa.Sm
open Go Go.Evr

abbrev Msg := Int × (Bool × (List Int × Unit))
abbrev z0 : Msg := ((0 : Int), (false, (([] : List Int), ())))
/-- A message's bytes are bytes. -/
def MOk (l : List Msg) : Prop := ∀ m ∈ l, Bytes m.2.2.1
/-- Short lists. -/
def Short (l : List Msg) : Prop := l.length ≤ 1048576 ∧ ∀ m ∈ l, m.2.2.1.length ≤ 1048576

theorem e10 {a : List Int} (ha : a.length ≤ 1048576) : fE10 a = some (a, ()) := by
  have h := copy_loop (z := 0) (F := E10_L3) E10_L3_eq (x := a) (by omega) a.length 0 (List.replicate a.length 0) (by omega) (by simp)
  rw [List.take_zero, List.nil_append] at h
  rw [E10_eq, fits_n (show itn (lnat (llen a)) ≤ _ by simp; omega)]
  simp only [ile_n, Int.le_refl, decide_true, br_t]
  exact h
theorem e45 {m : Msg} (h : m.2.2.1.length ≤ 1048576) : fE45 m = some (m, ()) := by
  rw [E45_eq, e10 h]; rfl
theorem e21 {x : List Msg} (h : Short x) : fE21 x = some (x, ()) := by
  have hF := fill_steps (F := fun k o => E21_L3 x (k : Int) o) (x := x) (fun k hk o ho => by
    show E21_L3 x (k : Int) o = E21_L3 x ((k + 1 : Nat) : Int) _
    rw [E21_L3_eq]
    have h1 : (k : Int) < (x.length : Int) := by omega
    have hm : lget x k z0 = x[k] := lget_n hk
    simp only [llen_n, lnat_n, lss_n, h1, decide_true, br_t, inb_n, hk, itn_n, ho]
    rw [hm, show ((x[k].1, (x[k].2.1, (x[k].2.2.1, ()))) : Msg) = x[k] from rfl, e45 (h.2 _ (List.getElem_mem hk)), add1 (by have := h.1; omega)]
    rfl) (fun o => by
    show E21_L3 x (x.length : Int) o = _
    rw [E21_L3_eq]; simp) x.length 0 (List.replicate x.length z0) (by omega) (by simp)
  rw [List.take_zero, List.nil_append] at hF
  rw [E21_eq, fits_n (show itn (lnat (llen x)) ≤ _ by simp; have := h.1; omega)]
  simp only [ile_n, Int.le_refl, decide_true, br_t]
  exact hF

theorem e62 {d : List Int} {k : Int} (hd : d.length ≤ maxLen) (h0 : 0 ≤ k) (h1 : k ≤ 1048576) : fE62 d k = some (if k < (d.length : Int) then -1 else k - (d.length : Int), ()) := by
  have hl := len_max hd
  rw [E62_eq, llen_n, lnat_n, sub_i64 (by omega) (by omega), lss_n]
  by_cases h : k < (d.length : Int)
  · rw [if_pos h, decide_eq_true (show k - (d.length : Int) < 0 by omega)]; rfl
  · rw [if_neg h, decide_eq_false (show ¬ k - (d.length : Int) < 0 by omega)]; rfl
theorem e43 {m : Msg} {k : Int} (hd : m.2.2.1.length ≤ maxLen) (h0 : 0 ≤ k) (h1 : k ≤ 1048576) : fE43 m k = some (if k < (m.2.2.1.length : Int) then -1 else k - (m.2.2.1.length : Int), ()) := by
  rw [E43_eq, e62 hd h0 h1, bd_s, lss_n]
  by_cases h : k < (m.2.2.1.length : Int)
  · simp only [if_pos h]; rfl
  · simp only [if_neg h]
    rw [decide_eq_false (show ¬ k - (m.2.2.1.length : Int) < 0 by omega)]; rfl
theorem e19 {x : List Msg} {k : Int} (hx : x.length ≤ maxLen) (hd : ∀ m ∈ x, m.2.2.1.length ≤ maxLen) (h0 : 0 ≤ k) (h1 : k ≤ 1048576) :
    ∃ r : Int, fE19 x k = some (r, ()) ∧ (r < 0 ∨ (0 ≤ r ∧ r ≤ k ∧ Short x)) := by
  have hl := len_max hx
  rw [E19_eq, llen_n, lnat_n, sub_i64 (by omega) (by omega), lss_n]
  by_cases h : k - (x.length : Int) < 0
  · rw [decide_eq_true h]; exact ⟨-1, rfl, Or.inl (by omega)⟩
  · rw [decide_eq_false h, br_f]
    obtain ⟨r, q1, q2⟩ := sz_steps (F := fun left k => E19_L5 x left (k : Int)) (n := x.length) (g := fun k => (lget x k z0).2.2.1.length) (fun j hj left l0 l1 => by
      show E19_L5 x left (j : Int) = _
      rw [E19_L5_eq]
      have hj1 : (j : Int) < (x.length : Int) := by omega
      simp only [llen_n, lnat_n, lss_n, hj1, decide_true, br_t, inb_n, hj, itn_n]
      have hm : (((lget x j z0).1, ((lget x j z0).2.1, ((lget x j z0).2.2.1, ()))) : Msg) = lget x j z0 := rfl
      rw [hm, e43 (by rw [lget_n hj]; exact hd _ (List.getElem_mem hj)) l0 l1, bd_s, add1 (by omega)]
      by_cases hlt : left < ((lget x j z0).2.2.1.length : Int)
      · simp only [if_pos hlt]; rfl
      · simp only [if_neg hlt]
        rw [decide_eq_false (show ¬ left - ((lget x j z0).2.2.1.length : Int) < 0 by omega)]; rfl) (fun left => by
      show E19_L5 x left (x.length : Int) = _
      rw [E19_L5_eq]; simp) x.length 0 (k - (x.length : Int)) (by omega) (by omega) (by omega)
    refine ⟨r, q1, q2.imp id fun ⟨a, b, c⟩ => ⟨a, by omega, by omega, fun m hm => ?_⟩⟩
    obtain ⟨j, hj, rfl⟩ := List.getElem_of_mem hm
    have := c j (by omega) hj
    simp only [lget_n hj] at this
    omega

theorem e13 {a : List Int} (ha : a.length ≤ 1048576) : fE13 a a = some (true, ()) := by
  have h := same_loop (F := E13_L4) E13_L4_eq (x := a) (by omega) a.length 0 (by omega)
  rw [E13_eq]
  simp only [neq_n, bne_self_eq_false, br_f]
  exact h
theorem e47 {m : Msg} (h : m.2.2.1.length ≤ 1048576) : fE47 m m = some (true, ()) := by
  rw [E47_eq, e13 h]
  simp [neq_n, beqv]
theorem e23 {x : List Msg} (h : Short x) : fE23 x x = some (true, ()) := by
  have hF := all_steps (F := fun k => E23_L4 x x (k : Int)) (n := x.length) (t := fun _ => true) (fun k hk => by
    show E23_L4 x x (k : Int) = _
    rw [E23_L4_eq]
    have h1 : (k : Int) < (x.length : Int) := by omega
    simp only [llen_n, lnat_n, lss_n, h1, decide_true, br_t, inb_n, hk, itn_n]
    have hm : (((lget x k z0).1, ((lget x k z0).2.1, ((lget x k z0).2.2.1, ()))) : Msg) = lget x k z0 := rfl
    rw [hm, e47 (by rw [lget_n hk]; exact h.2 _ (List.getElem_mem hk)), add1 (by have := h.1; omega)]
    rfl) (by
    show E23_L4 x x (x.length : Int) = _
    rw [E23_L4_eq]; simp) x.length 0 (by omega)
  rw [E23_eq]
  simp only [neq_n, bne_self_eq_false, br_f]
  rw [show E23_L4 x x 0 = E23_L4 x x ((0 : Nat) : Int) from rfl]
  refine Eq.trans hF ?_
  simp

/-! ### Whether two lists of messages are the same -/
theorem e65 {x y : List Int} (hx : x.length ≤ 1048576) : fE65 x y = some (decide (x = y), ()) := by
  rw [E65_eq]
  by_cases hl : x.length = y.length
  · have hF := all_steps (F := fun k => E65_L4 x y (x.length : Int) (k : Int)) (n := x.length) (t := fun k => decide (lget x k 0 = lget y k 0)) (fun k hk => by
      show E65_L4 x y (x.length : Int) (k : Int) = _
      rw [E65_L4_eq]
      have h1 : (k : Int) < (x.length : Int) := by omega
      have h2 : k < y.length := by omega
      simp only [llen_n, lnat_n, lss_n, h1, decide_true, br_t, inb_n, hk, h2, itn_n, neq_n]
      rw [add1 (by omega)]
      by_cases he : lget x k 0 = lget y k 0
      · simp [he]
      · rw [bne_t he]; simp [he]) (by
      show E65_L4 x y (x.length : Int) (x.length : Int) = _
      rw [E65_L4_eq]; simp) x.length 0 (by omega)
    rw [neq_n, llen_n, llen_n, lnat_n, lnat_n, hl, bne_self_eq_false, br_f, ← hl]
    refine Eq.trans hF ?_
    rw [all_eq hl]
  · rw [neq_n, llen_n, llen_n, lnat_n, lnat_n, len_ne hl]
    have : x ≠ y := fun h => hl (by rw [h])
    simp [this]
theorem e64 {m n : Msg} (h : m.2.2.1.length ≤ 1048576) : fE64 m n = some (m.1 == n.1 && beqv m.2.1 n.2.1 && decide (m.2.2.1 = n.2.2.1), ()) := by
  rw [E64_eq, e65 h, bd_s, eql_n]
  cases m.1 == n.1 <;> cases beqv m.2.1 n.2.1 <;> simp
def sameM (m n : Msg) : Bool := m.1 == n.1 && beqv m.2.1 n.2.1 && decide (m.2.2.1 = n.2.2.1)
def sameL (x y : List Msg) : Bool := if x.length = y.length then (List.range' 0 x.length).all fun k => sameM (lget x k z0) (lget y k z0) else false
theorem e46 {x y : List Msg} (hx : Short x) : fE46 x y = some (sameL x y, ()) := by
  rw [E46_eq, E63_eq]
  unfold sameL
  by_cases hl : x.length = y.length
  · have hF := all_steps (F := fun k => E63_L4 y x (x.length : Int) (k : Int)) (n := x.length) (t := fun k => sameM (lget x k z0) (lget y k z0)) (fun k hk => by
      show E63_L4 y x (x.length : Int) (k : Int) = _
      rw [E63_L4_eq]
      have h1 : (k : Int) < (x.length : Int) := by omega
      have h2 : k < y.length := by omega
      simp only [llen_n, lnat_n, lss_n, h1, decide_true, br_t, inb_n, hk, h2, itn_n]
      have hm : (((lget x k z0).1, ((lget x k z0).2.1, ((lget x k z0).2.2.1, ()))) : Msg) = lget x k z0 := rfl
      have hn : (((lget y k z0).1, ((lget y k z0).2.1, ((lget y k z0).2.2.1, ()))) : Msg) = lget y k z0 := rfl
      rw [hm, hn, e64 (by rw [lget_n hk]; exact hx.2 _ (List.getElem_mem hk)), bd_s, add1 (by have := hx.1; omega)]
      show br (bnot (sameM (lget x k z0) (lget y k z0))) _ _ = _
      cases sameM (lget x k z0) (lget y k z0) <;> simp) (by
      show E63_L4 y x (x.length : Int) (x.length : Int) = _
      rw [E63_L4_eq]; simp) x.length 0 (by omega)
    rw [neq_n, llen_n, llen_n, lnat_n, lnat_n, hl, bne_self_eq_false, br_f, ← hl, if_pos rfl]
    rw [show E63_L4 y x (x.length : Int) 0 = E63_L4 y x (x.length : Int) ((0 : Nat) : Int) from rfl, hF]
    rfl
  · rw [if_neg hl, neq_n, llen_n, llen_n, lnat_n, lnat_n, len_ne hl]
    rfl
theorem e44 {x y : List Msg} (hx : Short x) (bx : MOk x) (b : MOk y) : fE44 x y = some (sameL x y, ()) := by
  rw [E44_eq]
  unfold sameL
  by_cases hl : x.length = y.length
  · have hF := all_steps (F := fun k => E44_L4 x y (k : Int)) (n := x.length) (t := fun k => sameM (lget x k z0) (lget y k z0)) (fun k hk => by
      show E44_L4 x y (k : Int) = _
      rw [E44_L4_eq]
      have h1 : (k : Int) < (x.length : Int) := by omega
      have h2 : k < y.length := by omega
      have b1 : Bytes (lget x k z0).2.2.1 := by rw [lget_n hk]; exact bx _ (List.getElem_mem hk)
      have b2 : Bytes (lget y k z0).2.2.1 := by rw [lget_n h2]; exact b _ (List.getElem_mem h2)
      simp only [llen_n, lnat_n, lss_n, h1, decide_true, br_t, inb_n, hk, h2, itn_n, neq_n]
      rw [scm_neq b1 b2, add1 (by have := hx.1; omega)]
      unfold sameM
      generalize lget x k z0 = m
      generalize lget y k z0 = n
      by_cases q1 : m.1 = n.1
      · cases beqv m.2.1 n.2.1 <;> by_cases q3 : m.2.2.1 = n.2.2.1 <;> simp [q1, q3]
      · rw [bne_t q1]; simp [q1]) (by
      show E44_L4 x y (x.length : Int) = _
      rw [E44_L4_eq]; simp) x.length 0 (by omega)
    rw [neq_n, llen_n, llen_n, lnat_n, lnat_n, hl, bne_self_eq_false, br_f, ← hl, if_pos rfl]
    exact hF
  · rw [if_neg hl, neq_n, llen_n, llen_n, lnat_n, lnat_n, len_ne hl]
    rfl
theorem MOk.sub {x : List Msg} (h : MOk x) (a b : Nat) : MOk (lsub x a b) := fun m hm => h m (List.drop_subset _ _ (List.take_subset _ _ hm))
end Go.Proofs.Ytijelhbbkjjciaa.Sm
