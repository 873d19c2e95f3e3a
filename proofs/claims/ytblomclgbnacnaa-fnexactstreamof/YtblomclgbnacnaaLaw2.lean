/- The law FnExactStreamOf holds for every input: what the program's StreamOf returns is what the reference's returns, and it shares no memory. -/
import Derived.Test.YtblomclgbnacnaaLaw1
import Derived.Test.YtblomclgbnacnaaEv4
import Derived.Test.YtblomclgbnacnaaRows
import Derived.WalkKit
import Derived.ProofKit
import Derived.OpenShut
import Derived.ShutString
import Derived.ChangeOld
import Derived.Below
import Derived.SizedLaws
set_option linter.unusedVariables false
set_option linter.unusedSimpArgs false
namespace Go.Proofs.Ytblomclgbnacnaa.So.Sb
open Go Go.Evr
open Go.ChangeShapes Go.WideShapes Go.ChangeAt Go.RowKit
abbrev Msg := Int × (Bool × (List Int × Unit))
abbrev z0 : Msg := ((0 : Int), (false, (([] : List Int), ())))
/-- A message's bytes are bytes. -/
def MOk (l : List Msg) : Prop := ∀ m ∈ l, Bytes m.2.2.1
/-- Short lists. -/
def Short (l : List Msg) : Prop := l.length ≤ 1048576 ∧ ∀ m ∈ l, m.2.2.1.length ≤ 1048576

theorem e101 {a : List Int} (ha : a.length ≤ 1048576) : fE101 a = some (a, ()) := by
  have h := copy_loop (z := 0) (F := E101_L3) E101_L3_eq (x := a) (by omega) a.length 0 (List.replicate a.length 0) (by omega) (by simp)
  rw [List.take_zero, List.nil_append] at h
  rw [E101_eq, fits_n (show itn (lnat (llen a)) ≤ _ by simp; omega)]
  simp only [ile_n, Int.le_refl, decide_true, br_t]
  exact h
theorem e59 {m : Msg} (h : m.2.2.1.length ≤ 1048576) : fE59 m = some (m, ()) := by
  rw [E59_eq, e101 h]; rfl
theorem e11 {x : List Msg} (h : Short x) : fE11 x = some (x, ()) := by
  have hF := fill_steps (F := fun k o => E11_L3 x (k : Int) o) (x := x) (fun k hk o ho => by
    show E11_L3 x (k : Int) o = E11_L3 x ((k + 1 : Nat) : Int) _
    rw [E11_L3_eq]
    have h1 : (k : Int) < (x.length : Int) := by omega
    have hm : lget x k z0 = x[k] := lget_n hk
    simp only [llen_n, lnat_n, lss_n, h1, decide_true, br_t, inb_n, hk, itn_n, ho]
    rw [hm, show ((x[k].1, (x[k].2.1, (x[k].2.2.1, ()))) : Msg) = x[k] from rfl, e59 (h.2 _ (List.getElem_mem hk)), add1 (by have := h.1; omega)]
    rfl) (fun o => by
    show E11_L3 x (x.length : Int) o = _
    rw [E11_L3_eq]; simp) x.length 0 (List.replicate x.length z0) (by omega) (by simp)
  rw [List.take_zero, List.nil_append] at hF
  rw [E11_eq, fits_n (show itn (lnat (llen x)) ≤ _ by simp; have := h.1; omega)]
  simp only [ile_n, Int.le_refl, decide_true, br_t]
  exact hF

theorem e94 {d : List Int} {k : Int} (hd : d.length ≤ maxLen) (h0 : 0 ≤ k) (h1 : k ≤ 1048576) : fE94 d k = some (if k < (d.length : Int) then -1 else k - (d.length : Int), ()) := by
  have hl := len_max hd
  rw [E94_eq, llen_n, lnat_n, sub_i64 (by omega) (by omega), lss_n]
  by_cases h : k < (d.length : Int)
  · rw [if_pos h, decide_eq_true (show k - (d.length : Int) < 0 by omega)]; rfl
  · rw [if_neg h, decide_eq_false (show ¬ k - (d.length : Int) < 0 by omega)]; rfl
theorem e56 {m : Msg} {k : Int} (hd : m.2.2.1.length ≤ maxLen) (h0 : 0 ≤ k) (h1 : k ≤ 1048576) : fE56 m k = some (if k < (m.2.2.1.length : Int) then -1 else k - (m.2.2.1.length : Int), ()) := by
  rw [E56_eq, e94 hd h0 h1, bd_s, lss_n]
  by_cases h : k < (m.2.2.1.length : Int)
  · simp only [if_pos h]; rfl
  · simp only [if_neg h]
    rw [decide_eq_false (show ¬ k - (m.2.2.1.length : Int) < 0 by omega)]; rfl
theorem e9 {x : List Msg} {k : Int} (hx : x.length ≤ maxLen) (hd : ∀ m ∈ x, m.2.2.1.length ≤ maxLen) (h0 : 0 ≤ k) (h1 : k ≤ 1048576) :
    ∃ r : Int, fE9 x k = some (r, ()) ∧ (r < 0 ∨ (0 ≤ r ∧ r ≤ k ∧ Short x)) := by
  have hl := len_max hx
  rw [E9_eq, llen_n, lnat_n, sub_i64 (by omega) (by omega), lss_n]
  by_cases h : k - (x.length : Int) < 0
  · rw [decide_eq_true h]; exact ⟨-1, rfl, Or.inl (by omega)⟩
  · rw [decide_eq_false h, br_f]
    obtain ⟨r, q1, q2⟩ := sz_steps (F := fun left k => E9_L5 x left (k : Int)) (n := x.length) (g := fun k => (lget x k z0).2.2.1.length) (fun j hj left l0 l1 => by
      show E9_L5 x left (j : Int) = _
      rw [E9_L5_eq]
      have hj1 : (j : Int) < (x.length : Int) := by omega
      simp only [llen_n, lnat_n, lss_n, hj1, decide_true, br_t, inb_n, hj, itn_n]
      have hm : (((lget x j z0).1, ((lget x j z0).2.1, ((lget x j z0).2.2.1, ()))) : Msg) = lget x j z0 := rfl
      rw [hm, e56 (by rw [lget_n hj]; exact hd _ (List.getElem_mem hj)) l0 l1, bd_s, add1 (by omega)]
      by_cases hlt : left < ((lget x j z0).2.2.1.length : Int)
      · simp only [if_pos hlt]; rfl
      · simp only [if_neg hlt]
        rw [decide_eq_false (show ¬ left - ((lget x j z0).2.2.1.length : Int) < 0 by omega)]; rfl) (fun left => by
      show E9_L5 x left (x.length : Int) = _
      rw [E9_L5_eq]; simp) x.length 0 (k - (x.length : Int)) (by omega) (by omega) (by omega)
    refine ⟨r, q1, q2.imp id fun ⟨a, b, c⟩ => ⟨a, by omega, by omega, fun m hm => ?_⟩⟩
    obtain ⟨j, hj, rfl⟩ := List.getElem_of_mem hm
    have := c j (by omega) hj
    simp only [lget_n hj] at this
    omega

theorem e105 {a : List Int} (ha : a.length ≤ 1048576) : fE105 a a = some (true, ()) := by
  have h := same_loop (F := E105_L4) E105_L4_eq (x := a) (by omega) a.length 0 (by omega)
  rw [E105_eq]
  simp only [neq_n, bne_self_eq_false, br_f]
  exact h
theorem e62 {m : Msg} (h : m.2.2.1.length ≤ 1048576) : fE62 m m = some (true, ()) := by
  rw [E62_eq, e105 h]
  simp [neq_n, beqv]
theorem e14 {x : List Msg} (h : Short x) : fE14 x x = some (true, ()) := by
  have hF := all_steps (F := fun k => E14_L4 x x (k : Int)) (n := x.length) (t := fun _ => true) (fun k hk => by
    show E14_L4 x x (k : Int) = _
    rw [E14_L4_eq]
    have h1 : (k : Int) < (x.length : Int) := by omega
    simp only [llen_n, lnat_n, lss_n, h1, decide_true, br_t, inb_n, hk, itn_n]
    have hm : (((lget x k z0).1, ((lget x k z0).2.1, ((lget x k z0).2.2.1, ()))) : Msg) = lget x k z0 := rfl
    rw [hm, e62 (by rw [lget_n hk]; exact h.2 _ (List.getElem_mem hk)), add1 (by have := h.1; omega)]
    rfl) (by
    show E14_L4 x x (x.length : Int) = _
    rw [E14_L4_eq]; simp) x.length 0 (by omega)
  rw [E14_eq]
  simp only [neq_n, bne_self_eq_false, br_f]
  rw [show E14_L4 x x 0 = E14_L4 x x ((0 : Nat) : Int) from rfl]
  refine Eq.trans hF ?_
  simp


theorem e98 {a : List Int} (h : a.length ≤ 1048576) : fE98 a = some (a, ()) := by
  rw [E98_eq, fits_n (by simp; omega)]
  simp
theorem e102 {a : List Int} (h : a.length ≤ 1048576) : fE102 a = some (a, ()) := by
  rw [E102_eq, fits_n (by simp; omega)]
  simp only [br_t, lcat_n, List.nil_append, llen_n, nsame]
  by_cases h0 : a.length = 0
  · have : a = [] := List.eq_nil_of_length_eq_zero h0
    subst this
    simp only [List.length_nil, beq_self_eq_true, br_t]
    exact both_some.2 ⟨rfl, rfl⟩
  · rw [show (a.length == 0) = false by simpa using h0]; rfl
theorem clean (m : Msg) : ((m.1, (m.2.1, (m.2.2.1, ()))) : Msg) = m := rfl
theorem e143 {x : List Msg} (h : Short x) : fE143 x = some (x, ()) := by
  have hs : ∀ k (hk : k < x.length), ∀ o : List Msg, o.length ≤ k → E143_L3 x (x.length : Int) (k : Int) o = if (fun _ : Msg => true) x[k] = true then E143_L3 x (x.length : Int) ((k + 1 : Nat) : Int) (o ++ [x[k]]) else E143_L3 x (x.length : Int) ((k + 1 : Nat) : Int) o := fun k hk o ho => by
    rw [E143_L3_eq]
    have h1 : (k : Int) < (x.length : Int) := by omega
    have hl := h.1
    have hm : lget x k z0 = x[k] := lget_n hk
    simp only [llen_n, lnat_n, lss_n, h1, decide_true, br_t, inb_n, hk, itn_n, nadd_n, lcat_n]
    rw [hm, e102 (h.2 _ (List.getElem_mem hk)), bd_s, fits_n (by simp; omega), br_t, add1 (by omega), clean]; simp
  have hF := (filt_steps (F := fun k o => E143_L3 x (x.length : Int) (k : Int) o) (F1 := fun k o => E143_L3 x (x.length : Int) (k : Int) o) (G := fun o => some (o, ())) (p := fun _ => true) hs hs (fun o => by
    show E143_L3 x (x.length : Int) (x.length : Int) o = _
    rw [E143_L3_eq]; simp) (fun o => by
    show E143_L3 x (x.length : Int) (x.length : Int) o = _
    rw [E143_L3_eq]; simp) x.length 0 [] (by omega) (by simp)).1
  rw [E143_eq]
  refine Eq.trans hF ?_
  simp
theorem e58 {x : List Msg} (h : Short x) : fE58 x = some (x, ()) := by
  have hs : ∀ k (hk : k < x.length), ∀ o : List Msg, o.length ≤ k → E58_L3 x (k : Int) o = if (fun _ : Msg => true) x[k] = true then E58_L3 x ((k + 1 : Nat) : Int) (o ++ [x[k]]) else E58_L3 x ((k + 1 : Nat) : Int) o := fun k hk o ho => by
    rw [E58_L3_eq]
    have h1 : (k : Int) < (x.length : Int) := by omega
    have hl := h.1
    have hm : lget x k z0 = x[k] := lget_n hk
    simp only [llen_n, lnat_n, lss_n, h1, decide_true, br_t, inb_n, hk, itn_n, nadd_n, lcat_n]
    rw [hm, e98 (h.2 _ (List.getElem_mem hk)), bd_s, fits_n (by simp; omega), br_t, add1 (by omega), clean]; simp
  have hF := (filt_steps (F := fun k o => E58_L3 x (k : Int) o) (F1 := fun k o => E58_L3 x (k : Int) o) (G := fun o => some (o, ())) (p := fun _ => true) hs hs (fun o => by
    show E58_L3 x (x.length : Int) o = _
    rw [E58_L3_eq]; simp) (fun o => by
    show E58_L3 x (x.length : Int) o = _
    rw [E58_L3_eq]; simp) x.length 0 [] (by omega) (by simp)).1
  rw [E58_eq]
  refine Eq.trans hF ?_
  simp
def pick (s : Int) (m : Msg) : Bool := (m.1 == s) && !m.2.1
def ofStream (x : List Msg) (s : Int) : List Msg := x.filter (pick s)
theorem Short.filter {x : List Msg} (h : Short x) (p : Msg → Bool) : Short (x.filter p) :=
  ⟨Nat.le_trans (List.length_filter_le _ _) h.1, fun m hm => h.2 m (List.mem_filter.1 hm).1⟩
theorem e117 (m : Msg) (s : Int) : fE117 m s = some (pick s m, ()) := by
  rw [E117_eq, eql_n]
  unfold pick
  cases m.1 == s <;> simp
theorem e116 {x : List Msg} (h : Short x) (s : Int) : fE116 x s = some (ofStream x s, ()) := by
  have hF := (filt_steps (F := fun k o => E116_L3 s x (x.length : Int) (k : Int) o) (F1 := fun k o => E116_L3_1 s x (x.length : Int) (k : Int) o) (G := fun o => bd (fE143 o) fun y1 => some (y1.1, ())) (x := x) (p := pick s) (fun k hk o ho => by
    show E116_L3 s x (x.length : Int) (k : Int) o = _
    rw [E116_L3_eq]
    have h1 : (k : Int) < (x.length : Int) := by omega
    have hl := h.1
    have hm : lget x k z0 = x[k] := lget_n hk
    simp only [llen_n, lnat_n, lss_n, h1, decide_true, br_t, inb_n, hk, itn_n, nadd_n, lcat_n]
    rw [hm, clean, e117, bd_s, fits_n (by simp; omega), add1 (by omega)]
    cases pick s x[k] <;> simp) (fun k hk o ho => by
    show E116_L3_1 s x (x.length : Int) (k : Int) o = _
    rw [E116_L3_1_eq]
    have h1 : (k : Int) < (x.length : Int) := by omega
    have hl := h.1
    have hm : lget x k z0 = x[k] := lget_n hk
    simp only [llen_n, lnat_n, lss_n, h1, decide_true, br_t, inb_n, hk, itn_n, nadd_n, lcat_n]
    rw [hm, clean, e117, bd_s, fits_n (by simp; omega), add1 (by omega)]
    cases pick s x[k] <;> simp) (fun o => by
    show E116_L3 s x (x.length : Int) (x.length : Int) o = _
    rw [E116_L3_eq]; simp) (fun o => by
    show E116_L3_1 s x (x.length : Int) (x.length : Int) o = _
    rw [E116_L3_1_eq]; simp) x.length 0 [] (by omega) (by simp)).1
  rw [E116_eq]
  refine Eq.trans hF ?_
  simp only [List.nil_append, List.drop_zero]
  rw [e143 (h.filter _)]; rfl
def ans (x : List Msg) (s : Int) : Option ((Int × (List Msg × Unit)) × Unit) :=
  br (icm .gtr (x.length : Int) 200) (some (((2 : Int), (([] : List Msg), ())), ())) (br (icm .geq s 0) (br (icm .leq s 9) (some (((0 : Int), (ofStream x s, ())), ())) (some (((3 : Int), (([] : List Msg), ())), ()))) (some (((3 : Int), (([] : List Msg), ())), ())))
theorem e12 {x : List Msg} (h : Short x) (s : Int) : fE12 x s = ans x s := by
  rw [E12_eq, E60_eq, E115_eq, E61_eq, e116 h]
  unfold ans
  simp only [llen_n, lnat_n]
  cases icm .gtr (x.length : Int) 200 <;> cases icm .geq s 0 <;> cases icm .leq s 9 <;> simp
theorem e10 {x : List Msg} (h : Short x) (s : Int) : fE10 x s = ans x s := by
  have hF := (filt_steps (F := fun k o => E10_L7 x s (k : Int) 0 o) (F1 := fun k o => E10_L7_1 x s (k : Int) 0 o) (G := fun o => bd (fE58 o) fun y0 => some (((0 : Int), (y0.1, ())), ())) (x := x) (p := pick s) (fun k hk o ho => by
    show E10_L7 x s (k : Int) 0 o = _
    rw [E10_L7_eq]
    have h1 : (k : Int) < (x.length : Int) := by omega
    have hl := h.1
    have hm : lget x k z0 = x[k] := lget_n hk
    simp only [llen_n, lnat_n, lss_n, h1, decide_true, br_t, inb_n, hk, itn_n, nadd_n, lcat_n]
    rw [hm, clean, fits_n (by simp; omega), add1 (by omega), eql_n]
    unfold pick
    cases x[k].1 == s <;> cases x[k].2.1 <;> simp) (fun k hk o ho => by
    show E10_L7_1 x s (k : Int) 0 o = _
    rw [E10_L7_1_eq]
    have h1 : (k : Int) < (x.length : Int) := by omega
    have hl := h.1
    have hm : lget x k z0 = x[k] := lget_n hk
    simp only [llen_n, lnat_n, lss_n, h1, decide_true, br_t, inb_n, hk, itn_n, nadd_n, lcat_n]
    rw [hm, clean, fits_n (by simp; omega), add1 (by omega), eql_n]
    unfold pick
    cases x[k].1 == s <;> cases x[k].2.1 <;> simp) (fun o => by
    show E10_L7 x s (x.length : Int) 0 o = _
    rw [E10_L7_eq]; simp) (fun o => by
    show E10_L7_1 x s (x.length : Int) 0 o = _
    rw [E10_L7_1_eq]; simp) x.length 0 [] (by omega) (by simp)).1
  have hF : E10_L7 x s 0 0 [] = _ := hF
  rw [E10_eq, E57_eq, hF]
  simp only [List.nil_append, List.drop_zero]
  rw [e58 (h.filter _)]
  unfold ans
  simp only [llen_n, lnat_n]
  cases icm .gtr (x.length : Int) 200 <;> cases icm .geq s 0 <;> cases icm .leq s 9 <;> simp [ofStream]

/-! ### Marks on messages -/
def mk : Nat → List Msg → Nat × List Msg
  | k, [] => (k, [])
  | k, m :: l => ((mk (k + 2 + m.2.2.1.length) l).1, ((k : Int), (icm .eql (iar .rem .i64 ((k + 1 : Nat) : Int) 3) 0, (marks (k + 2) m.2.2.1.length, ()))) :: (mk (k + 2 + m.2.2.1.length) l).2)
theorem mk_len : ∀ (l : List Msg) (k : Nat), (mk k l).2.length = l.length
  | [], _ => rfl
  | m :: l, k => by simp [mk, mk_len l]
theorem lget_app {a : List Msg} {m : Msg} {r : List Msg} : lget (a ++ m :: r) a.length z0 = m := by
  rw [lget_n (by simp)]; simp
theorem e63 {k : Nat} {l : List Int} (h : l.length ≤ 1048576) (hk : k ≤ 4611686018427387904) : fE63 l (k : Int) = some (((k + l.length : Nat) : Int), (marks k l.length, ())) := by
  have hm := mark_loop (F := E63_L2) E63_L2_eq (k := k) (n := l.length) h hk l.length 0 l (by omega) rfl
  exact (E63_eq l k).trans hm
theorem e118 {k n : Nat} (h : n ≤ 1048576) (hk : k ≤ 4611686018427387904) : fE118 (marks k n) (k : Int) = some (((k + n : Nat) : Int), ()) := by
  have hm := held_loop (F := E118_L2) E118_L2_eq (k := k) (n := n) h hk n 0 (by omega)
  exact (E118_eq _ k).trans hm
theorem mark_msgs : ∀ (r a : List Msg) (k : Nat), (∀ m ∈ r, m.2.2.1.length ≤ 1048576) → a.length + r.length ≤ 1048576 → k + r.length * 2097152 ≤ 4611686018427387904 →
    E15_L2 (k : Int) (a.length : Int) (a ++ r) = some (((mk k r).1 : Int), (a ++ (mk k r).2, ()))
  | [], a, k, _, _, _ => by
    rw [E15_L2_eq]; simp [mk]
  | m :: r, a, k, hm, hl, hk => by
    simp only [List.length_cons] at hl hk
    have hml := hm m (by simp)
    rw [E15_L2_eq]
    have h1 : (a.length : Int) < ((a ++ m :: r).length : Int) := by simp; omega
    have h2 : a.length < (a ++ m :: r).length := by simp
    have ha1 : iar .add .i64 (k : Int) 1 = ((k + 1 : Nat) : Int) := add1 (by omega)
    have ha2 : iar .add .i64 ((k + 1 : Nat) : Int) 1 = ((k + 1 + 1 : Nat) : Int) := add1 (by omega)
    have ha3 : iar .add .i64 (a.length : Int) 1 = ((a.length + 1 : Nat) : Int) := add1 (by omega)
    rw [ha1, ha2, ha3]
    simp only [itn_n, lmod_app, lget_app]
    have h3 : ∀ n : Msg, (a.length : Int) < ((a ++ n :: r).length : Int) := fun n => by simp; omega
    have h4 : ∀ n : Msg, a.length < (a ++ n :: r).length := fun n => by simp
    simp only [llen_n, lnat_n, lss_n, h3, decide_true, br_t, inb_n, h4]
    rw [e63 hml (by omega), bd_s]
    simp only [marks_len, nsame, beq_self_eq_true, br_t]
    have ih := mark_msgs r (a ++ [((k : Int), (icm .eql (iar .rem .i64 ((k + 1 : Nat) : Int) 3) 0, (marks (k + 2) m.2.2.1.length, ())))]) (k + 2 + m.2.2.1.length) (fun n hn => hm n (by simp [hn])) (by simp; omega) (by omega)
    simp only [List.length_append, List.length_cons, List.length_nil, List.append_assoc, List.cons_append, List.nil_append] at ih
    refine Eq.trans ?_ (ih.trans ?_)
    · rfl
    · simp [mk]
theorem held_msgs : ∀ (r a : List Msg) (k : Nat), (∀ m ∈ r, m.2.2.1.length ≤ 1048576) → a.length + r.length ≤ 1048576 → k + r.length * 2097152 ≤ 4611686018427387904 →
    E64_L2 (a ++ (mk k r).2) (k : Int) (a.length : Int) = some (((mk k r).1 : Int), ())
  | [], a, k, _, _, _ => by
    rw [E64_L2_eq]; simp [mk]
  | m :: r, a, k, hm, hl, hk => by
    simp only [List.length_cons] at hl hk
    have hml := hm m (by simp)
    rw [E64_L2_eq]
    have ha1 : iar .add .i64 (k : Int) 1 = ((k + 1 : Nat) : Int) := add1 (by omega)
    have ha2 : iar .add .i64 ((k + 1 : Nat) : Int) 1 = ((k + 1 + 1 : Nat) : Int) := add1 (by omega)
    have ha3 : iar .add .i64 (a.length : Int) 1 = ((a.length + 1 : Nat) : Int) := add1 (by omega)
    rw [ha1, ha2, ha3]
    have hmk : (mk k (m :: r)).2 = ((k : Int), (icm .eql (iar .rem .i64 ((k + 1 : Nat) : Int) 3) 0, (marks (k + 2) m.2.2.1.length, ()))) :: (mk (k + 2 + m.2.2.1.length) r).2 := rfl
    rw [hmk]
    have h3 : ∀ (n : Msg) (s : List Msg), (a.length : Int) < ((a ++ n :: s).length : Int) := fun n s => by simp; omega
    have h4 : ∀ (n : Msg) (s : List Msg), a.length < (a ++ n :: s).length := fun n s => by simp
    simp only [itn_n, lget_app, llen_n, lnat_n, lss_n, h3, decide_true, br_t, inb_n, h4, neq_n, bne_self_eq_false, br_f, beqv, beq_self_eq_true, bnot_n, Bool.not_true]
    rw [show fE118 (marks (k + 2) m.2.2.1.length) ((k + 1 + 1 : Nat) : Int) = some (((k + 2 + m.2.2.1.length : Nat) : Int), ()) from e118 hml (by omega), bd_s]
    rw [decide_eq_false (show ¬ ((k + 2 + m.2.2.1.length : Nat) : Int) < 0 by omega), br_f]
    have ih := held_msgs r (a ++ [((k : Int), (icm .eql (iar .rem .i64 ((k + 1 : Nat) : Int) 3) 0, (marks (k + 2) m.2.2.1.length, ())))]) (k + 2 + m.2.2.1.length) (fun n hn => hm n (by simp [hn])) (by simp; omega) (by omega)
    simp only [List.length_append, List.length_cons, List.length_nil, List.append_assoc, List.cons_append, List.nil_append] at ih
    exact ih
theorem e15 {x : List Msg} (h : Short x) : fE15 x 1 = some (((mk 1 x).1 : Int), ((mk 1 x).2, ())) := by
  have := mark_msgs x [] 1 h.2 (by simpa using h.1) (by have := h.1; omega)
  rw [E15_eq]; exact this
theorem e64 {x : List Msg} (h : Short x) : fE64 (mk 1 x).2 1 = some (((mk 1 x).1 : Int), ()) := by
  have := held_msgs x [] 1 h.2 (by simpa using h.1) (by have := h.1; omega)
  rw [E64_eq]; exact this
theorem e16 {x : List Msg} (h : Short x) (c : Int) : fE16 c x 1 = some (((mk 1 x).1 : Int), ((mk 1 x).2, ())) := by
  rw [E16_eq, e15 h]
  simp only [bd_s, llen_n, mk_len, nsame, beq_self_eq_true, br_t]
theorem e17 {x : List Msg} (h : Short x) (c : Int) : fE17 (c, ((mk 1 x).2, ())) 1 = some (((mk 1 x).1 : Int), ()) := by
  rw [E17_eq]
  simp only [e64 h, bd_s, lss_n]
  rw [decide_eq_false (show ¬ ((mk 1 x).1 : Int) < 0 by omega), br_f]
theorem e13 {x : List Msg} (h : Short x) (c : Int) : fE13 (c, (x, ())) (c, (x, ())) = some (true, ()) := by
  rw [E13_eq]
  simp only [neq_n, bne_self_eq_false, br_f, e14 h, bd_s, bnot_n, Bool.not_true]
theorem len_of {a : List Msg} (h : DOk (.sl (.st (.pair (.int .i64) (.pair .bool (.pair (.sl (.int .u8)) .unit))))) a) : ∀ m ∈ a, m.2.2.1.length ≤ maxLen := fun m hm => (h.2 m hm).2.2.1.1
theorem both_of {a : List Msg} (h : Short a) (s : Int) : ∃ (c : Int) (r : List Msg), Short r ∧ fE10 a s = some ((c, (r, ())), ()) ∧ fE12 a s = some ((c, (r, ())), ()) := by
  rw [e10 h, e12 h]
  unfold ans
  have h0 : Short ([] : List Msg) := ⟨by simp, by simp⟩
  cases icm .gtr (a.length : Int) 200 <;> cases icm .geq s 0 <;> cases icm .leq s 9 <;> first | exact ⟨2, [], h0, rfl, rfl⟩ | exact ⟨3, [], h0, rfl, rfl⟩ | exact ⟨0, ofStream a s, h.filter _, rfl, rfl⟩
theorem pureLaw {a : List Msg} {s : Int} (da : DOk (.sl (.st (.pair (.int .i64) (.pair .bool (.pair (.sl (.int .u8)) .unit))))) a) (_ : DOk (.int .i64) s) : fE3 a s = some (true, ()) := by
  rw [E3_eq]
  obtain ⟨r, h1, h2⟩ := e9 (k := 1048576) da.1 (len_of da) (by omega) (by omega)
  rw [h1, bd_s, lss_n]
  rcases h2 with h2 | ⟨h2, h3, sa⟩
  · rw [decide_eq_true h2]; rfl
  · rw [decide_eq_false (show ¬ r < 0 by omega), br_f]
    obtain ⟨c, q, sq, q1, q2⟩ := both_of sa s
    have n1 : ¬ ((mk 1 a).1 : Int) < 0 := by omega
    have n2 : ¬ ((mk 1 q).1 : Int) < 0 := by omega
    simp only [e11 sa, bd_s, q1, q2, e13 sq, e14 sa, bnot_n, Bool.not_true, br_f, e15 sa, llen_n, mk_len, nsame, beq_self_eq_true, br_t, lss_n, n1, n2, decide_false, e16 sq, e17 sq, neq_n, bne_self_eq_false]

theorem own : ownKnob Try.prog.godebug = none := by kernel_rfl
theorem laidOut : laidOutB Try.prog = true := by kernel_rfl
theorem kind_0 : C.ty 22 = some (.sl (.st (.pair (.int .i64) (.pair .bool (.pair (.sl (.int .u8)) .unit))))) := by kernel_rfl
theorem kind_1 : C.ty 2 = some (.int .i64) := by kernel_rfl
set_option maxRecDepth 100000 in
theorem lifted (os : Os) (started : os.Started) (H : Type) (enc : TypeId × Value → H) :
    ReturnsInHanded {} Try.checked os 3 .any (Rows.fnExactStreamOfSpec.pre6 enc Try.prog Try.f3 Rows.fnExactStreamOfRow.domain false) (Rows.fnExactStreamOfSpec.post enc Try.prog Try.f3 false true false false) := by
  refine returnsInHanded_of_change_sized (C := Try.checked) own started (by kernel_rfl) Try.func3
    (ChangeSpec.witness6 (enc := enc) (C := Try.checked) false ⟨#[], #[.slice none 0 0, .int .i64 0], []⟩ 8 (by kernel_rfl) (by kernel_rfl) (by kernel_rfl) (by kernel_rfl)) ?_
  intro W base args ds gs before hval0 hW hcnd hsz0 _
  have hval : ∀ (j : Nat) t v, Try.f3.params[j]? = some t → args[j]? = some v → Value.okWide Try.prog W .any base t v := hval0
  have hW' := hW
  obtain ⟨p, q, hA0, hV, rfl, hfz, hnd⟩ := hW
  have hA : DataW.TrodAll enc Try.prog W 0 (fun _ => true) true Try.f3.params.toList args.toList ds p := hA0
  rw [Try.params3] at hA hval
  obtain ⟨v0, vs0, d0, ds0, p0, q0, hargs, rfl, rfl, h0, r0⟩ := trodAll_cons hA
  obtain ⟨v1, vs1, d1, ds1, p1, q1, hargs1, rfl, rfl, h1, r1⟩ := trodAll_cons r0
  obtain ⟨rfl, rfl, rfl⟩ := trodAll_nil r1
  obtain rfl : args = #[v0, v1] := by cases args; simp_all
  obtain ⟨rfl, rfl⟩ := trodVars_none hV
  have k0 := h0
  have lt0 : ∀ x ∈ p0, x.block < W.heap.size := by obtain ⟨m, hm⟩ := k0; exact DataW.trod_lt m _ _ _ hm
  obtain ⟨x0, us0, hr0, hs0, hd0⟩ := arg_ok cok kind_0 (by kernel_rfl) (hval 0 22 v0 rfl rfl) h0
  have k1 := h1
  have lt1 : ∀ x ∈ p1, x.block < W.heap.size := by obtain ⟨m, hm⟩ := k1; exact DataW.trod_lt m _ _ _ hm
  obtain ⟨x1, us1, hr1, hs1, hd1⟩ := arg_ok cok kind_1 (by kernel_rfl) (hval 1 2 v1 rfl rfl) h1
  have hp := pureLaw hd0 hd1
  have ha : ArgsOk ZT W E3.ps (x0, (x1, ())) [v0, v1] ZF := ⟨v0, [v1], us0, rfl, hr0, hs0, ⟨v1, [], us1, rfl, hr1, hs1, rfl⟩⟩
  refine (law_calls cok eok mix (id := 4) (fid := 3) (ps := E3.ps) (hook := Option.none) (by simp [C, E3]) hp rfl ha Try.func3 (by kernel_rfl) (by kernel_rfl)).mono fun e W' ⟨he, bel⟩ => ?_
  subst he
  exact ⟨_, rfl, _, _, _, [], _, [], hW', trodAll_mk1 (shut_bool Try.underlying4 _), (trodAll_cons_mk (Below.trod laidOut (by kernel_rfl) (of_decide_eq_true (by kernel_rfl)) k0 bel lt0) (trodAll_cons_mk (Below.trod laidOut (by kernel_rfl) (of_decide_eq_true (by kernel_rfl)) k1 bel lt1) trodAll_mk0)), rfl, bel.frame _, fun h => by cases h⟩
theorem over : Rows.fnExactStreamOfRow.holds Try.pinned (OpenSpec.ofChange Rows.fnExactStreamOfSpec) :=
  OpenClaim.holds_of_wide 3 Try.f3 rfl rfl rfl rfl rfl rfl rfl ⟨rfl, rfl, rfl, rfl, rfl⟩ rfl rfl rfl rfl rfl (by kernel_rfl) Try.func3 (by kernel_rfl)
    (of_decide_eq_true (by kernel_rfl)) (by unfold Func.isWrapper; first | (rw [if_pos (by decide +kernel)]; kernel_rfl) | (rw [if_neg (by decide +kernel)]; exact ⟨rfl, rfl⟩))
    (fun os started H enc _ => lifted os started H enc)
end Go.Proofs.Ytblomclgbnacnaa.So.Sb
namespace Go.Proofs.Ytblomclgbnacnaa
/-- The law, for the claim. -/
theorem fnExactStreamOf_holds : Rows.FnExactStreamOfSaid := So.Sb.over
end Go.Proofs.Ytblomclgbnacnaa
