/- The law FnExactLooseOf holds for every input: what the program's LooseOf returns is what the reference's returns, and it shares no memory. -/
import Derived.Test.YtijelhbbkjjciaaLaw1
import Derived.Test.YtijelhbbkjjciaaEv4
import Derived.Test.YtijelhbbkjjciaaRows
import Derived.WalkKit
import Derived.ProofKit
import Derived.OpenShut
import Derived.ShutString
import Derived.ChangeOld
import Derived.Below
import Derived.SizedLaws
set_option linter.unusedVariables false
set_option linter.unusedSimpArgs false
namespace Go.Proofs.Ytijelhbbkjjciaa.Lo.Lb
open Go Go.Evr
open Go.ChangeShapes Go.WideShapes Go.ChangeAt Go.RowKit

abbrev Msg := Int × (Bool × (List Int × Unit))
abbrev z0 : Msg := ((0 : Int), (false, (([] : List Int), ())))
/-- A message's bytes are bytes. -/
def MOk (l : List Msg) : Prop := ∀ m ∈ l, Bytes m.2.2.1
/-- Short lists. -/
def Short (l : List Msg) : Prop := l.length ≤ 1048576 ∧ ∀ m ∈ l, m.2.2.1.length ≤ 1048576

theorem e10 {a : List Int} (ha : a.length ≤ 1048576) : fE10 a = some (a, ()) := by
  have h := copy_loop (z := 0) (F := E10_L3) E10_L3_eq (x := a) (by omega) a.length 0 (List.replicate a.length 0) (by omega) (by simp)
  rw [List.take_zero, List.nil_append] at h
  rw [E10_eq, fits_n (show itn (lnat (llen a)) ≤ _ by simp; omega)]
  simp only [ile_n, Int.le_refl, decide_true, br_t]
  exact h
theorem e45 {m : Msg} (h : m.2.2.1.length ≤ 1048576) : fE45 m = some (m, ()) := by
  rw [E45_eq, e10 h]; rfl
theorem e21 {x : List Msg} (h : Short x) : fE21 x = some (x, ()) := by
  have hF := fill_steps (F := fun k o => E21_L3 x (k : Int) o) (x := x) (fun k hk o ho => by
    show E21_L3 x (k : Int) o = E21_L3 x ((k + 1 : Nat) : Int) _
    rw [E21_L3_eq]
    have h1 : (k : Int) < (x.length : Int) := by omega
    have hm : lget x k z0 = x[k] := lget_n hk
    simp only [llen_n, lnat_n, lss_n, h1, decide_true, br_t, inb_n, hk, itn_n, ho]
    rw [hm, show ((x[k].1, (x[k].2.1, (x[k].2.2.1, ()))) : Msg) = x[k] from rfl, e45 (h.2 _ (List.getElem_mem hk)), add1 (by have := h.1; omega)]
    rfl) (fun o => by
    show E21_L3 x (x.length : Int) o = _
    rw [E21_L3_eq]; simp) x.length 0 (List.replicate x.length z0) (by omega) (by simp)
  rw [List.take_zero, List.nil_append] at hF
  rw [E21_eq, fits_n (show itn (lnat (llen x)) ≤ _ by simp; have := h.1; omega)]
  simp only [ile_n, Int.le_refl, decide_true, br_t]
  exact hF

theorem e62 {d : List Int} {k : Int} (hd : d.length ≤ maxLen) (h0 : 0 ≤ k) (h1 : k ≤ 1048576) : fE62 d k = some (if k < (d.length : Int) then -1 else k - (d.length : Int), ()) := by
  have hl := len_max hd
  rw [E62_eq, llen_n, lnat_n, sub_i64 (by omega) (by omega), lss_n]
  by_cases h : k < (d.length : Int)
  · rw [if_pos h, decide_eq_true (show k - (d.length : Int) < 0 by omega)]; rfl
  · rw [if_neg h, decide_eq_false (show ¬ k - (d.length : Int) < 0 by omega)]; rfl
theorem e43 {m : Msg} {k : Int} (hd : m.2.2.1.length ≤ maxLen) (h0 : 0 ≤ k) (h1 : k ≤ 1048576) : fE43 m k = some (if k < (m.2.2.1.length : Int) then -1 else k - (m.2.2.1.length : Int), ()) := by
  rw [E43_eq, e62 hd h0 h1, bd_s, lss_n]
  by_cases h : k < (m.2.2.1.length : Int)
  · simp only [if_pos h]; rfl
  · simp only [if_neg h]
    rw [decide_eq_false (show ¬ k - (m.2.2.1.length : Int) < 0 by omega)]; rfl
theorem e19 {x : List Msg} {k : Int} (hx : x.length ≤ maxLen) (hd : ∀ m ∈ x, m.2.2.1.length ≤ maxLen) (h0 : 0 ≤ k) (h1 : k ≤ 1048576) :
    ∃ r : Int, fE19 x k = some (r, ()) ∧ (r < 0 ∨ (0 ≤ r ∧ r ≤ k ∧ Short x)) := by
  have hl := len_max hx
  rw [E19_eq, llen_n, lnat_n, sub_i64 (by omega) (by omega), lss_n]
  by_cases h : k - (x.length : Int) < 0
  · rw [decide_eq_true h]; exact ⟨-1, rfl, Or.inl (by omega)⟩
  · rw [decide_eq_false h, br_f]
    obtain ⟨r, q1, q2⟩ := sz_steps (F := fun left k => E19_L5 x left (k : Int)) (n := x.length) (g := fun k => (lget x k z0).2.2.1.length) (fun j hj left l0 l1 => by
      show E19_L5 x left (j : Int) = _
      rw [E19_L5_eq]
      have hj1 : (j : Int) < (x.length : Int) := by omega
      simp only [llen_n, lnat_n, lss_n, hj1, decide_true, br_t, inb_n, hj, itn_n]
      have hm : (((lget x j z0).1, ((lget x j z0).2.1, ((lget x j z0).2.2.1, ()))) : Msg) = lget x j z0 := rfl
      rw [hm, e43 (by rw [lget_n hj]; exact hd _ (List.getElem_mem hj)) l0 l1, bd_s, add1 (by omega)]
      by_cases hlt : left < ((lget x j z0).2.2.1.length : Int)
      · simp only [if_pos hlt]; rfl
      · simp only [if_neg hlt]
        rw [decide_eq_false (show ¬ left - ((lget x j z0).2.2.1.length : Int) < 0 by omega)]; rfl) (fun left => by
      show E19_L5 x left (x.length : Int) = _
      rw [E19_L5_eq]; simp) x.length 0 (k - (x.length : Int)) (by omega) (by omega) (by omega)
    refine ⟨r, q1, q2.imp id fun ⟨a, b, c⟩ => ⟨a, by omega, by omega, fun m hm => ?_⟩⟩
    obtain ⟨j, hj, rfl⟩ := List.getElem_of_mem hm
    have := c j (by omega) hj
    simp only [lget_n hj] at this
    omega

theorem e13 {a : List Int} (ha : a.length ≤ 1048576) : fE13 a a = some (true, ()) := by
  have h := same_loop (F := E13_L4) E13_L4_eq (x := a) (by omega) a.length 0 (by omega)
  rw [E13_eq]
  simp only [neq_n, bne_self_eq_false, br_f]
  exact h
theorem e47 {m : Msg} (h : m.2.2.1.length ≤ 1048576) : fE47 m m = some (true, ()) := by
  rw [E47_eq, e13 h]
  simp [neq_n, beqv]
theorem e23 {x : List Msg} (h : Short x) : fE23 x x = some (true, ()) := by
  have hF := all_steps (F := fun k => E23_L4 x x (k : Int)) (n := x.length) (t := fun _ => true) (fun k hk => by
    show E23_L4 x x (k : Int) = _
    rw [E23_L4_eq]
    have h1 : (k : Int) < (x.length : Int) := by omega
    simp only [llen_n, lnat_n, lss_n, h1, decide_true, br_t, inb_n, hk, itn_n]
    have hm : (((lget x k z0).1, ((lget x k z0).2.1, ((lget x k z0).2.2.1, ()))) : Msg) = lget x k z0 := rfl
    rw [hm, e47 (by rw [lget_n hk]; exact h.2 _ (List.getElem_mem hk)), add1 (by have := h.1; omega)]
    rfl) (by
    show E23_L4 x x (x.length : Int) = _
    rw [E23_L4_eq]; simp) x.length 0 (by omega)
  rw [E23_eq]
  simp only [neq_n, bne_self_eq_false, br_f]
  rw [show E23_L4 x x 0 = E23_L4 x x ((0 : Nat) : Int) from rfl]
  refine Eq.trans hF ?_
  simp


theorem e69 {a : List Int} (h : a.length ≤ 1048576) : fE69 a = some (a, ()) := by
  rw [E69_eq, fits_n (by simp; omega)]
  simp
theorem e74 {a : List Int} (h : a.length ≤ 1048576) : fE74 a = some (a, ()) := by
  rw [E74_eq, fits_n (by simp; omega)]
  simp only [br_t, lcat_n, List.nil_append, llen_n, nsame]
  by_cases h0 : a.length = 0
  · have : a = [] := List.eq_nil_of_length_eq_zero h0
    subst this
    simp only [List.length_nil, beq_self_eq_true, br_t]
    exact both_some.2 ⟨rfl, rfl⟩
  · rw [show (a.length == 0) = false by simpa using h0]; rfl
theorem clean (m : Msg) : ((m.1, (m.2.1, (m.2.2.1, ()))) : Msg) = m := rfl
theorem e73 {x : List Msg} (h : Short x) : fE73 x = some (x, ()) := by
  have hs : ∀ k (hk : k < x.length), ∀ o : List Msg, o.length ≤ k → E73_L3 x (x.length : Int) (k : Int) o = if (fun _ : Msg => true) x[k] = true then E73_L3 x (x.length : Int) ((k + 1 : Nat) : Int) (o ++ [x[k]]) else E73_L3 x (x.length : Int) ((k + 1 : Nat) : Int) o := fun k hk o ho => by
    rw [E73_L3_eq]
    have h1 : (k : Int) < (x.length : Int) := by omega
    have hl := h.1
    have hm : lget x k z0 = x[k] := lget_n hk
    simp only [llen_n, lnat_n, lss_n, h1, decide_true, br_t, inb_n, hk, itn_n, nadd_n, lcat_n]
    rw [hm, e74 (h.2 _ (List.getElem_mem hk)), bd_s, fits_n (by simp; omega), br_t, add1 (by omega), clean]; simp
  have hF := (filt_steps (F := fun k o => E73_L3 x (x.length : Int) (k : Int) o) (F1 := fun k o => E73_L3 x (x.length : Int) (k : Int) o) (G := fun o => some (o, ())) (p := fun _ => true) hs hs (fun o => by
    show E73_L3 x (x.length : Int) (x.length : Int) o = _
    rw [E73_L3_eq]; simp) (fun o => by
    show E73_L3 x (x.length : Int) (x.length : Int) o = _
    rw [E73_L3_eq]; simp) x.length 0 [] (by omega) (by simp)).1
  rw [E73_eq]
  refine Eq.trans hF ?_
  simp
theorem e58 {x : List Msg} (h : Short x) : fE58 x = some (x, ()) := by
  have hs : ∀ k (hk : k < x.length), ∀ o : List Msg, o.length ≤ k → E58_L3 x (k : Int) o = if (fun _ : Msg => true) x[k] = true then E58_L3 x ((k + 1 : Nat) : Int) (o ++ [x[k]]) else E58_L3 x ((k + 1 : Nat) : Int) o := fun k hk o ho => by
    rw [E58_L3_eq]
    have h1 : (k : Int) < (x.length : Int) := by omega
    have hl := h.1
    have hm : lget x k z0 = x[k] := lget_n hk
    simp only [llen_n, lnat_n, lss_n, h1, decide_true, br_t, inb_n, hk, itn_n, nadd_n, lcat_n]
    rw [hm, e69 (h.2 _ (List.getElem_mem hk)), bd_s, fits_n (by simp; omega), br_t, add1 (by omega), clean]; simp
  have hF := (filt_steps (F := fun k o => E58_L3 x (k : Int) o) (F1 := fun k o => E58_L3 x (k : Int) o) (G := fun o => some (o, ())) (p := fun _ => true) hs hs (fun o => by
    show E58_L3 x (x.length : Int) o = _
    rw [E58_L3_eq]; simp) (fun o => by
    show E58_L3 x (x.length : Int) o = _
    rw [E58_L3_eq]; simp) x.length 0 [] (by omega) (by simp)).1
  rw [E58_eq]
  refine Eq.trans hF ?_
  simp
def loose (x : List Msg) : List Msg := x.filter fun m => m.2.1
theorem Short.filter {x : List Msg} (h : Short x) (p : Msg → Bool) : Short (x.filter p) :=
  ⟨Nat.le_trans (List.length_filter_le _ _) h.1, fun m hm => h.2 m ((List.mem_filter.1 hm).1)⟩
theorem e70 {x : List Msg} (h : Short x) : fE70 x = some (loose x, ()) := by
  have hF := (filt_steps (F := fun k o => E70_L3 x (x.length : Int) (k : Int) o) (F1 := fun k o => E70_L3_1 x (x.length : Int) (k : Int) o) (G := fun o => bd (fE73 o) fun y1 => some (y1.1, ())) (x := x) (p := fun m => m.2.1) (fun k hk o ho => by
    show E70_L3 x (x.length : Int) (k : Int) o = _
    rw [E70_L3_eq]
    have h1 : (k : Int) < (x.length : Int) := by omega
    have hl := h.1
    have hm : lget x k z0 = x[k] := lget_n hk
    simp only [llen_n, lnat_n, lss_n, h1, decide_true, br_t, inb_n, hk, itn_n, nadd_n, lcat_n]
    rw [hm, clean, E71_eq, bd_s, fits_n (by simp; omega), add1 (by omega)]
    cases x[k].2.1 <;> simp) (fun k hk o ho => by
    show E70_L3_1 x (x.length : Int) (k : Int) o = _
    rw [E70_L3_1_eq]
    have h1 : (k : Int) < (x.length : Int) := by omega
    have hl := h.1
    have hm : lget x k z0 = x[k] := lget_n hk
    simp only [llen_n, lnat_n, lss_n, h1, decide_true, br_t, inb_n, hk, itn_n, nadd_n, lcat_n]
    rw [hm, clean, E71_eq, bd_s, fits_n (by simp; omega), add1 (by omega)]
    cases x[k].2.1 <;> simp) (fun o => by
    show E70_L3 x (x.length : Int) (x.length : Int) o = _
    rw [E70_L3_eq]; simp) (fun o => by
    show E70_L3_1 x (x.length : Int) (x.length : Int) o = _
    rw [E70_L3_1_eq]; simp) x.length 0 [] (by omega) (by simp)).1
  rw [E70_eq]
  refine Eq.trans hF ?_
  simp only [List.nil_append, List.drop_zero]
  rw [e73 (h.filter _)]; rfl
theorem e32 {x : List Msg} (h : Short x) : fE32 x = br (icm .gtr (x.length : Int) 200) (some (((2 : Int), (([] : List Msg), ())), ())) (some (((0 : Int), (loose x, ())), ())) := by
  rw [E32_eq, E59_eq, e70 h]; rfl
theorem e31 {x : List Msg} (h : Short x) : fE31 x = br (icm .gtr (x.length : Int) 200) (some (((2 : Int), (([] : List Msg), ())), ())) (some (((0 : Int), (loose x, ())), ())) := by
  have hF := (filt_steps (F := fun k o => E31_L5 x (k : Int) 0 o) (F1 := fun k o => E31_L5_1 x (k : Int) 0 o) (G := fun o => bd (fE58 o) fun y0 => some (((0 : Int), (y0.1, ())), ())) (x := x) (p := fun m => m.2.1) (fun k hk o ho => by
    show E31_L5 x (k : Int) 0 o = _
    rw [E31_L5_eq]
    have h1 : (k : Int) < (x.length : Int) := by omega
    have hl := h.1
    have hm : lget x k z0 = x[k] := lget_n hk
    simp only [llen_n, lnat_n, lss_n, h1, decide_true, br_t, inb_n, hk, itn_n, nadd_n, lcat_n]
    rw [hm, clean, fits_n (by simp; omega), add1 (by omega)]
    cases x[k].2.1 <;> simp) (fun k hk o ho => by
    show E31_L5_1 x (k : Int) 0 o = _
    rw [E31_L5_1_eq]
    have h1 : (k : Int) < (x.length : Int) := by omega
    have hl := h.1
    have hm : lget x k z0 = x[k] := lget_n hk
    simp only [llen_n, lnat_n, lss_n, h1, decide_true, br_t, inb_n, hk, itn_n, nadd_n, lcat_n]
    rw [hm, clean, fits_n (by simp; omega), add1 (by omega)]
    cases x[k].2.1 <;> simp) (fun o => by
    show E31_L5 x (x.length : Int) 0 o = _
    rw [E31_L5_eq]; simp) (fun o => by
    show E31_L5_1 x (x.length : Int) 0 o = _
    rw [E31_L5_1_eq]; simp) x.length 0 [] (by omega) (by simp)).1
  have hF : E31_L5 x 0 0 [] = _ := hF
  rw [E31_eq, hF]
  simp only [List.nil_append, List.drop_zero]
  rw [e58 (h.filter _)]; rfl

/-! ### Marks on messages -/
def mk : Nat → List Msg → Nat × List Msg
  | k, [] => (k, [])
  | k, m :: l => ((mk (k + 2 + m.2.2.1.length) l).1, ((k : Int), (icm .eql (iar .rem .i64 ((k + 1 : Nat) : Int) 3) 0, (marks (k + 2) m.2.2.1.length, ()))) :: (mk (k + 2 + m.2.2.1.length) l).2)
theorem mk_len : ∀ (l : List Msg) (k : Nat), (mk k l).2.length = l.length
  | [], _ => rfl
  | m :: l, k => by simp [mk, mk_len l]
theorem lget_app {a : List Msg} {m : Msg} {r : List Msg} : lget (a ++ m :: r) a.length z0 = m := by
  rw [lget_n (by simp)]; simp
theorem e41 {k : Nat} {l : List Int} (h : l.length ≤ 1048576) (hk : k ≤ 4611686018427387904) : fE41 l (k : Int) = some (((k + l.length : Nat) : Int), (marks k l.length, ())) := by
  have hm := mark_loop (F := E41_L2) E41_L2_eq (k := k) (n := l.length) h hk l.length 0 l (by omega) rfl
  exact (E41_eq l k).trans hm
theorem e42 {k n : Nat} (h : n ≤ 1048576) (hk : k ≤ 4611686018427387904) : fE42 (marks k n) (k : Int) = some (((k + n : Nat) : Int), ()) := by
  have hm := held_loop (F := E42_L2) E42_L2_eq (k := k) (n := n) h hk n 0 (by omega)
  exact (E42_eq _ k).trans hm
theorem mark_msgs : ∀ (r a : List Msg) (k : Nat), (∀ m ∈ r, m.2.2.1.length ≤ 1048576) → a.length + r.length ≤ 1048576 → k + r.length * 2097152 ≤ 4611686018427387904 →
    E34_L2 (k : Int) (a.length : Int) (a ++ r) = some (((mk k r).1 : Int), (a ++ (mk k r).2, ()))
  | [], a, k, _, _, _ => by
    rw [E34_L2_eq]; simp [mk]
  | m :: r, a, k, hm, hl, hk => by
    simp only [List.length_cons] at hl hk
    have hml := hm m (by simp)
    rw [E34_L2_eq]
    have h1 : (a.length : Int) < ((a ++ m :: r).length : Int) := by simp; omega
    have h2 : a.length < (a ++ m :: r).length := by simp
    have ha1 : iar .add .i64 (k : Int) 1 = ((k + 1 : Nat) : Int) := add1 (by omega)
    have ha2 : iar .add .i64 ((k + 1 : Nat) : Int) 1 = ((k + 1 + 1 : Nat) : Int) := add1 (by omega)
    have ha3 : iar .add .i64 (a.length : Int) 1 = ((a.length + 1 : Nat) : Int) := add1 (by omega)
    rw [ha1, ha2, ha3]
    simp only [itn_n, lmod_app, lget_app]
    have h3 : ∀ n : Msg, (a.length : Int) < ((a ++ n :: r).length : Int) := fun n => by simp; omega
    have h4 : ∀ n : Msg, a.length < (a ++ n :: r).length := fun n => by simp
    simp only [llen_n, lnat_n, lss_n, h3, decide_true, br_t, inb_n, h4]
    rw [e41 hml (by omega), bd_s]
    simp only [marks_len, nsame, beq_self_eq_true, br_t]
    have ih := mark_msgs r (a ++ [((k : Int), (icm .eql (iar .rem .i64 ((k + 1 : Nat) : Int) 3) 0, (marks (k + 2) m.2.2.1.length, ())))]) (k + 2 + m.2.2.1.length) (fun n hn => hm n (by simp [hn])) (by simp; omega) (by omega)
    simp only [List.length_append, List.length_cons, List.length_nil, List.append_assoc, List.cons_append, List.nil_append] at ih
    refine Eq.trans ?_ (ih.trans ?_)
    · rfl
    · simp [mk]
theorem held_msgs : ∀ (r a : List Msg) (k : Nat), (∀ m ∈ r, m.2.2.1.length ≤ 1048576) → a.length + r.length ≤ 1048576 → k + r.length * 2097152 ≤ 4611686018427387904 →
    E60_L2 (a ++ (mk k r).2) (k : Int) (a.length : Int) = some (((mk k r).1 : Int), ())
  | [], a, k, _, _, _ => by
    rw [E60_L2_eq]; simp [mk]
  | m :: r, a, k, hm, hl, hk => by
    simp only [List.length_cons] at hl hk
    have hml := hm m (by simp)
    rw [E60_L2_eq]
    have ha1 : iar .add .i64 (k : Int) 1 = ((k + 1 : Nat) : Int) := add1 (by omega)
    have ha2 : iar .add .i64 ((k + 1 : Nat) : Int) 1 = ((k + 1 + 1 : Nat) : Int) := add1 (by omega)
    have ha3 : iar .add .i64 (a.length : Int) 1 = ((a.length + 1 : Nat) : Int) := add1 (by omega)
    rw [ha1, ha2, ha3]
    have hmk : (mk k (m :: r)).2 = ((k : Int), (icm .eql (iar .rem .i64 ((k + 1 : Nat) : Int) 3) 0, (marks (k + 2) m.2.2.1.length, ()))) :: (mk (k + 2 + m.2.2.1.length) r).2 := rfl
    rw [hmk]
    have h3 : ∀ (n : Msg) (s : List Msg), (a.length : Int) < ((a ++ n :: s).length : Int) := fun n s => by simp; omega
    have h4 : ∀ (n : Msg) (s : List Msg), a.length < (a ++ n :: s).length := fun n s => by simp
    simp only [itn_n, lget_app, llen_n, lnat_n, lss_n, h3, decide_true, br_t, inb_n, h4, neq_n, bne_self_eq_false, br_f, beqv, beq_self_eq_true, bnot_n, Bool.not_true]
    rw [show fE42 (marks (k + 2) m.2.2.1.length) ((k + 1 + 1 : Nat) : Int) = some (((k + 2 + m.2.2.1.length : Nat) : Int), ()) from e42 hml (by omega), bd_s]
    rw [decide_eq_false (show ¬ ((k + 2 + m.2.2.1.length : Nat) : Int) < 0 by omega), br_f]
    have ih := held_msgs r (a ++ [((k : Int), (icm .eql (iar .rem .i64 ((k + 1 : Nat) : Int) 3) 0, (marks (k + 2) m.2.2.1.length, ())))]) (k + 2 + m.2.2.1.length) (fun n hn => hm n (by simp [hn])) (by simp; omega) (by omega)
    simp only [List.length_append, List.length_cons, List.length_nil, List.append_assoc, List.cons_append, List.nil_append] at ih
    exact ih
theorem e34 {x : List Msg} (h : Short x) : fE34 x 1 = some (((mk 1 x).1 : Int), ((mk 1 x).2, ())) := by
  have := mark_msgs x [] 1 h.2 (by simpa using h.1) (by have := h.1; omega)
  rw [E34_eq]; exact this
theorem e60 {x : List Msg} (h : Short x) : fE60 (mk 1 x).2 1 = some (((mk 1 x).1 : Int), ()) := by
  have := held_msgs x [] 1 h.2 (by simpa using h.1) (by have := h.1; omega)
  rw [E60_eq]; exact this
theorem e35 {x : List Msg} (h : Short x) (c : Int) : fE35 c x 1 = some (((mk 1 x).1 : Int), ((mk 1 x).2, ())) := by
  rw [E35_eq, e34 h]
  simp only [bd_s, llen_n, mk_len, nsame, beq_self_eq_true, br_t]
theorem e36 {x : List Msg} (h : Short x) (c : Int) : fE36 (c, ((mk 1 x).2, ())) 1 = some (((mk 1 x).1 : Int), ()) := by
  rw [E36_eq]
  simp only [e60 h, bd_s, lss_n]
  rw [decide_eq_false (show ¬ ((mk 1 x).1 : Int) < 0 by omega), br_f]
theorem e33 {x : List Msg} (h : Short x) (c : Int) : fE33 (c, (x, ())) (c, (x, ())) = some (true, ()) := by
  rw [E33_eq]
  simp only [neq_n, bne_self_eq_false, br_f, e23 h, bd_s, bnot_n, Bool.not_true]
theorem len_of {a : List Msg} (h : DOk (.sl (.st (.pair (.int .i64) (.pair .bool (.pair (.sl (.int .u8)) .unit))))) a) : ∀ m ∈ a, m.2.2.1.length ≤ maxLen := fun m hm => (h.2 m hm).2.2.1.1
theorem both_of {a : List Msg} (h : Short a) : ∃ (c : Int) (r : List Msg), Short r ∧ fE31 a = some ((c, (r, ())), ()) ∧ fE32 a = some ((c, (r, ())), ()) := by
  rw [e31 h, e32 h]
  cases icm .gtr (a.length : Int) 200 with
  | true => exact ⟨2, [], ⟨by simp, by simp⟩, rfl, rfl⟩
  | false => exact ⟨0, loose a, h.filter _, rfl, rfl⟩
theorem pureLaw {a : List Msg} (da : DOk (.sl (.st (.pair (.int .i64) (.pair .bool (.pair (.sl (.int .u8)) .unit))))) a) : fE8 a = some (true, ()) := by
  rw [E8_eq]
  obtain ⟨r, h1, h2⟩ := e19 (k := 1048576) da.1 (len_of da) (by omega) (by omega)
  rw [h1, bd_s, lss_n]
  rcases h2 with h2 | ⟨h2, h3, sa⟩
  · rw [decide_eq_true h2]; rfl
  · rw [decide_eq_false (show ¬ r < 0 by omega), br_f]
    obtain ⟨c, q, sq, q1, q2⟩ := both_of sa
    have n1 : ¬ ((mk 1 a).1 : Int) < 0 := by omega
    have n2 : ¬ ((mk 1 q).1 : Int) < 0 := by omega
    simp only [e21 sa, bd_s, q1, q2, e33 sq, e23 sa, bnot_n, Bool.not_true, br_f, e34 sa, llen_n, mk_len, nsame, beq_self_eq_true, br_t, lss_n, n1, n2, decide_false, e35 sq, e36 sq, neq_n, bne_self_eq_false]

theorem own : ownKnob Try.prog.godebug = none := by kernel_rfl
theorem laidOut : laidOutB Try.prog = true := by kernel_rfl
theorem kind_0 : C.ty 36 = some (.sl (.st (.pair (.int .i64) (.pair .bool (.pair (.sl (.int .u8)) .unit))))) := by kernel_rfl
set_option maxRecDepth 100000 in
theorem lifted (os : Os) (started : os.Started) (H : Type) (enc : TypeId × Value → H) :
    ReturnsInHanded {} Try.checked os 8 .any (Rows.fnExactLooseOfSpec.pre6 enc Try.prog Try.f8 Rows.fnExactLooseOfRow.domain false) (Rows.fnExactLooseOfSpec.post enc Try.prog Try.f8 false true false false) := by
  refine returnsInHanded_of_change_sized (C := Try.checked) own started (by kernel_rfl) Try.func8
    (ChangeSpec.witness6 (enc := enc) (C := Try.checked) false ⟨#[], #[.slice none 0 0], []⟩ 8 (by kernel_rfl) (by kernel_rfl) (by kernel_rfl) (by kernel_rfl)) ?_
  intro W base args ds gs before hval0 hW hcnd hsz0 _
  have hval : ∀ (j : Nat) t v, Try.f8.params[j]? = some t → args[j]? = some v → Value.okWide Try.prog W .any base t v := hval0
  have hW' := hW
  obtain ⟨p, q, hA0, hV, rfl, hfz, hnd⟩ := hW
  have hA : DataW.TrodAll enc Try.prog W 0 (fun _ => true) true Try.f8.params.toList args.toList ds p := hA0
  rw [Try.params8] at hA hval
  obtain ⟨v0, vs0, d0, ds0, p0, q0, hargs, rfl, rfl, h0, r0⟩ := trodAll_cons hA
  obtain ⟨rfl, rfl, rfl⟩ := trodAll_nil r0
  obtain rfl : args = #[v0] := by cases args; simp_all
  obtain ⟨rfl, rfl⟩ := trodVars_none hV
  have k0 := h0
  have lt0 : ∀ x ∈ p0, x.block < W.heap.size := by obtain ⟨m, hm⟩ := k0; exact DataW.trod_lt m _ _ _ hm
  obtain ⟨x0, us0, hr0, hs0, hd0⟩ := arg_ok cok kind_0 (by kernel_rfl) (hval 0 36 v0 rfl rfl) h0
  have hp := pureLaw hd0
  have ha : ArgsOk ZT W E8.ps (x0, ()) [v0] ZF := ⟨v0, [], us0, rfl, hr0, hs0, rfl⟩
  refine (law_calls cok eok mix (id := 9) (fid := 8) (ps := E8.ps) (hook := Option.none) (by simp [C, E8]) hp rfl ha Try.func8 (by kernel_rfl) (by kernel_rfl)).mono fun e W' ⟨he, bel⟩ => ?_
  subst he
  exact ⟨_, rfl, _, _, _, [], _, [], hW', trodAll_mk1 (shut_bool Try.underlying4 _), (trodAll_cons_mk (Below.trod laidOut (by kernel_rfl) (of_decide_eq_true (by kernel_rfl)) k0 bel lt0) trodAll_mk0), rfl, bel.frame _, fun h => by cases h⟩
theorem over : Rows.fnExactLooseOfRow.holds Try.pinned (OpenSpec.ofChange Rows.fnExactLooseOfSpec) :=
  OpenClaim.holds_of_wide 8 Try.f8 rfl rfl rfl rfl rfl rfl rfl ⟨rfl, rfl, rfl, rfl, rfl⟩ rfl rfl rfl rfl rfl (by kernel_rfl) Try.func8 (by kernel_rfl)
    (of_decide_eq_true (by kernel_rfl)) (by unfold Func.isWrapper; first | (rw [if_pos (by decide +kernel)]; kernel_rfl) | (rw [if_neg (by decide +kernel)]; exact ⟨rfl, rfl⟩))
    (fun os started H enc _ => lifted os started H enc)
end Go.Proofs.Ytijelhbbkjjciaa.Lo.Lb
namespace Go.Proofs.Ytijelhbbkjjciaa
/-- The law, for the claim. -/
theorem fnExactLooseOf_holds : Rows.FnExactLooseOfSaid := Lo.Lb.over
end Go.Proofs.Ytijelhbbkjjciaa
