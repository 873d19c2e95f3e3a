/- An evaluator for the code of the program, and the proof that what it answers is true (part 4). -/
import Derived.Test.YtblomclgbnacnaaEv3
import Derived.Laws.BitsLemmas
import Derived.Laws.Strings
import Derived.Laws.StandIn
set_option linter.unusedVariables false
set_option linter.unusedSimpArgs false
namespace Go.Evr

/-! ### The evaluator's names, plainly -/
@[simp] theorem br_t {α : Type} (x y : Option α) : br true x y = x := rfl
@[simp] theorem br_f {α : Type} (x y : Option α) : br false x y = y := rfl
@[simp] theorem bd_s {α β : Type} (a : α) (f : α → Option β) : bd (some a) f = f a := rfl
@[simp] theorem itn_n (k : Nat) : itn (k : Int) = k := rfl
@[simp] theorem itn_lnat (k : Nat) : itn (lnat k) = k := rfl
@[simp] theorem lnat_n (k : Nat) : lnat k = (k : Int) := rfl
@[simp] theorem llen_n {α : Type} (l : List α) : llen l = l.length := rfl
@[simp] theorem lcat_n {α : Type} (a b : List α) : lcat a b = a ++ b := rfl
@[simp] theorem nadd_n (a b : Nat) : nadd a b = a + b := rfl
@[simp] theorem bnot_n (a : Bool) : bnot a = !a := rfl
@[simp] theorem lss_n (a b : Int) : icm .lss a b = decide (a < b) := rfl
@[simp] theorem gtr_n (a b : Int) : icm .gtr a b = decide (a > b) := rfl
@[simp] theorem leq_n (a b : Int) : icm .leq a b = decide (a ≤ b) := rfl
@[simp] theorem geq_n (a b : Int) : icm .geq a b = decide (a ≥ b) := rfl
theorem eql_n (a b : Int) : icm .eql a b = (a == b) := rfl
theorem neq_n (a b : Int) : icm .neq a b = (a != b) := rfl
theorem inb_n (k n : Nat) : inb (k : Int) (n : Int) = decide (k < n) := by
  unfold inb
  by_cases h : k < n
  · simp [h]
  · simp [h]
@[simp] theorem ile_n (a b : Int) : ile a b = decide (a ≤ b) := rfl
theorem fits_n {n : Nat} (h : n ≤ 4294967296) : fits n = true := by unfold fits; simpa using h
theorem wrap_i64 {n : Int} (h1 : -9223372036854775808 ≤ n) (h2 : n ≤ 9223372036854775807) : IntKind.i64.wrap n = n := by
  rw [IntKind.wrap_i64]; omega
theorem add1 {k : Nat} (h : k < 9223372036854775807) : iar .add .i64 (k : Int) 1 = ((k + 1 : Nat) : Int) := by
  show IntKind.i64.wrap _ = _
  rw [wrap_i64 (by omega) (by omega)]; rfl
theorem lget_n {α : Type} {l : List α} {i : Nat} {d : α} (h : i < l.length) : lget l i d = l[i] := lget_eq h

theorem wf_u8 {n : Int} (h : (Lit.int .u8 n).wf = true) : 0 ≤ n ∧ n < 256 := by
  simp only [Lit.wf, Bool.and_eq_true, decide_eq_true_eq] at h
  have h1 : IntKind.u8.min = 0 := rfl
  have h2 : IntKind.u8.max = 255 := rfl
  omega
/-- All bytes. -/
def Bytes (l : List Int) : Prop := ∀ b ∈ l, 0 ≤ b ∧ b < 256
theorem bytes_of {l : List Int} (h : DOk (.sl (.int .u8)) l) : Bytes l := fun b hb => wf_u8 (h.2 b hb)

/-! ### A copy made element by element -/
theorem lmod_app {α : Type} (a : List α) (x : α) (r : List α) (f : α → α) : lmod (a ++ x :: r) a.length f = a ++ f x :: r := by
  unfold lmod
  induction a with
  | nil => simp
  | cons b a ih => simpa using ih

theorem copy_loop {α : Type} {z : α} {F : List α → Int → List α → Option (List α × Unit)}
    (h : ∀ x i o, F x i o = br (icm .lss i (lnat (llen x))) (br (inb i (lnat (llen x))) (br (inb i (lnat (llen o))) (F x (iar .add .i64 i 1) (lmod o (itn i) (fun _ => (lget x (itn i) z)))) none) none) (some (o, ())))
    {x : List α} (hx : x.length ≤ 1073741824) : ∀ (d k : Nat) (r : List α), k + d = x.length → r.length = d → F x (k : Int) (x.take k ++ r) = some (x, ())
  | 0, k, r, hk, hr => by
    rw [h]
    have hr : r = [] := List.eq_nil_of_length_eq_zero hr
    subst hr
    have : ¬ (k : Int) < (x.length : Int) := by omega
    simp [this, List.take_of_length_le (show x.length ≤ k by omega)]
  | d + 1, k, r, hk, hr => by
    match r, hr with
    | y :: r, hr =>
      simp only [List.length_cons, Nat.add_right_cancel_iff] at hr
      rw [h]
      have h1 : (k : Int) < (x.length : Int) := by omega
      have h2 : k < x.length := by omega
      have hl : (x.take k ++ y :: r).length = x.length := by simp; omega
      simp only [llen_n, lnat_n, lss_n, h1, decide_true, br_t, inb_n, h2, hl, itn_n]
      rw [add1 (by omega), lget_n h2]
      have e : lmod (x.take k ++ y :: r) k (fun _ => x[k]) = x.take (k + 1) ++ r := by
        have hk' : (x.take k).length = k := by simp; omega
        have := lmod_app (x.take k) y r (fun _ => x[k])
        rw [hk'] at this
        rw [this, List.take_succ_eq_append_getElem h2, List.append_assoc]; rfl
      rw [e]
      exact copy_loop h hx d (k + 1) r (by omega) hr

/-! ### Whether two lists are the same -/
theorem same_loop {F : List Int → List Int → Int → Option (Bool × Unit)}
    (h : ∀ x y i, F x y i = br (icm .lss i (lnat (llen x))) (br (inb i (lnat (llen x))) (br (inb i (lnat (llen y))) (br (icm .neq (lget x (itn i) (0 : Int)) (lget y (itn i) (0 : Int))) (some (false, ())) (F x y (iar .add .i64 i 1))) none) none) (some (true, ())))
    {x : List Int} (hx : x.length ≤ 1073741824) : ∀ (d k : Nat), k + d = x.length → F x x (k : Int) = some (true, ())
  | 0, k, hk => by
    rw [h]
    have : ¬ (k : Int) < (x.length : Int) := by omega
    simp [this]
  | d + 1, k, hk => by
    rw [h]
    have h1 : (k : Int) < (x.length : Int) := by omega
    have h2 : k < x.length := by omega
    simp only [llen_n, lnat_n, lss_n, h1, decide_true, br_t, inb_n, h2, neq_n, bne_self_eq_false, br_f]
    rw [add1 (by omega)]
    exact same_loop h hx d (k + 1) (by omega)

/-! ### Hexadecimal texts -/
abbrev digs : ByteArray := ⟨#[48, 49, 50, 51, 52, 53, 54, 55, 56, 57, 97, 98, 99, 100, 101, 102]⟩
def hexL (l : List Int) : List Int := l.flatMap fun b => [sget digs (b / 16), sget digs (b % 16)]
theorem hexL_cons (b : Int) (l : List Int) : hexL (b :: l) = sget digs (b / 16) :: sget digs (b % 16) :: hexL l := rfl
theorem quo16 {b : Int} (h : 0 ≤ b ∧ b < 256) : iar .quo .u8 b 16 = b / 16 := by
  show IntKind.u8.wrap (b.tdiv 16) = _
  rw [Int.tdiv_eq_ediv_of_nonneg h.1, wraps_u8 _ (by omega) (by omega)]
theorem rem16 {b : Int} (h : 0 ≤ b ∧ b < 256) : iar .rem .u8 b 16 = b % 16 := by
  show b.tmod 16 = _
  exact Int.tmod_eq_emod_of_nonneg h.1
theorem shr4 {b : Int} (h : 0 ≤ b ∧ b < 256) : iar .shr .u8 b 4 = b / 16 := by
  show b.fdiv (2 ^ (min (4 : Int).toNat IntKind.u8.bits)) = _
  have : (2 : Int) ^ (min (4 : Int).toNat IntKind.u8.bits) = 16 := by decide
  rw [this, Int.fdiv_eq_ediv_of_nonneg _ (by decide)]
theorem and15 {b : Int} (h : 0 ≤ b ∧ b < 256) : iar .and .u8 b 15 = b % 16 := u8_and15 b h.1 h.2
theorem ssize_digs : ssize digs = 16 := rfl
theorem inb16 {a : Int} (h1 : 0 ≤ a) (h2 : a < 16) : inb a 16 = true := by unfold inb; simp [h1, h2]

theorem hex_loop1 {F : List Int → ByteArray → Int → List Int → Option (ByteArray × Unit)}
    (h : ∀ x0 x1 x2 x3, F x0 x1 x2 x3 = br (icm .lss x2 (lnat (llen x0))) (br (inb x2 (lnat (llen x0))) (br (inb (iar .quo .u8 (lget x0 (itn x2) (0 : Int)) 16) (ssize x1)) (br (inb x2 (lnat (llen x0))) (br (inb (iar .rem .u8 (lget x0 (itn x2) (0 : Int)) 16) (ssize x1))
      (br (fits (nadd (llen x3) (llen ((sget x1 (iar .quo .u8 (lget x0 (itn x2) (0 : Int)) 16)) :: ((sget x1 (iar .rem .u8 (lget x0 (itn x2) (0 : Int)) 16)) :: ([] : List Int))))))
        (F x0 x1 (iar .add .i64 x2 1) (lcat x3 ((sget x1 (iar .quo .u8 (lget x0 (itn x2) (0 : Int)) 16)) :: ((sget x1 (iar .rem .u8 (lget x0 (itn x2) (0 : Int)) 16)) :: ([] : List Int))))) none) none) none) none) none) (some ((bytesStr x3), ())))
    {x : List Int} (hx : x.length ≤ 1048576) (hb : Bytes x) : ∀ (d k : Nat) (o : List Int), k + d = x.length → o.length ≤ 2 * k → F x digs (k : Int) o = some (bytesStr (o ++ hexL (x.drop k)), ())
  | 0, k, o, hk, ho => by
    rw [h]
    have : ¬ (k : Int) < (x.length : Int) := by omega
    simp [this, List.drop_eq_nil_of_le (show x.length ≤ k by omega), hexL]
  | d + 1, k, o, hk, ho => by
    rw [h]
    have h1 : (k : Int) < (x.length : Int) := by omega
    have h2 : k < x.length := by omega
    have hbk := hb x[k] (List.getElem_mem h2)
    simp only [llen_n, lnat_n, lss_n, h1, decide_true, br_t, inb_n, h2, itn_n, lget_n h2, quo16 hbk, rem16 hbk, ssize_digs, inb16 (show 0 ≤ x[k] / 16 by omega) (by omega), inb16 (show 0 ≤ x[k] % 16 by omega) (by omega), nadd_n, lcat_n]
    rw [fits_n (by simp; omega), br_t, add1 (by omega), hex_loop1 h hx hb d (k + 1) _ (by omega) (by simp; omega), List.drop_eq_getElem_cons h2, hexL_cons]
    simp only [List.append_assoc, List.cons_append, List.nil_append]

theorem hex_loop2 {F : List Int → Int → Int → List Int → Option (ByteArray × Unit)}
    (h : ∀ x0 x1 x2 x3, F x0 x1 x2 x3 = br (icm .lss x2 x1) (br (inb x2 (lnat (llen x0))) (br (inb (iar .shr .u8 (lget x0 (itn x2) (0 : Int)) 4) (ssize digs)) (br (inb (iar .and .u8 (lget x0 (itn x2) (0 : Int)) 15) (ssize digs))
      (br (fits (nadd (llen x3) (llen ((sget digs (iar .shr .u8 (lget x0 (itn x2) (0 : Int)) 4)) :: ((sget digs (iar .and .u8 (lget x0 (itn x2) (0 : Int)) 15)) :: ([] : List Int))))))
        (F x0 x1 (iar .add .i64 x2 1) (lcat x3 ((sget digs (iar .shr .u8 (lget x0 (itn x2) (0 : Int)) 4)) :: ((sget digs (iar .and .u8 (lget x0 (itn x2) (0 : Int)) 15)) :: ([] : List Int))))) none) none) none) none) (some ((bytesStr x3), ())))
    {x : List Int} (hx : x.length ≤ 1048576) (hb : Bytes x) : ∀ (d k : Nat) (o : List Int), k + d = x.length → o.length ≤ 2 * k → F x (x.length : Int) (k : Int) o = some (bytesStr (o ++ hexL (x.drop k)), ())
  | 0, k, o, hk, ho => by
    rw [h]
    have : ¬ (k : Int) < (x.length : Int) := by omega
    simp [this, List.drop_eq_nil_of_le (show x.length ≤ k by omega), hexL]
  | d + 1, k, o, hk, ho => by
    rw [h]
    have h1 : (k : Int) < (x.length : Int) := by omega
    have h2 : k < x.length := by omega
    have hbk := hb x[k] (List.getElem_mem h2)
    simp only [llen_n, lnat_n, lss_n, h1, decide_true, br_t, inb_n, h2, itn_n, lget_n h2, shr4 hbk, and15 hbk, ssize_digs, inb16 (show 0 ≤ x[k] / 16 by omega) (by omega), inb16 (show 0 ≤ x[k] % 16 by omega) (by omega), nadd_n, lcat_n]
    rw [fits_n (by simp; omega), br_t, add1 (by omega), hex_loop2 h hx hb d (k + 1) _ (by omega) (by simp; omega), List.drop_eq_getElem_cons h2, hexL_cons]
    simp only [List.append_assoc, List.cons_append, List.nil_append]
end Go.Evr

namespace Go.Evr

/-! ### Loops, by their steps -/
theorem all_steps {F : Nat → Option (Bool × Unit)} {n : Nat} {t : Nat → Bool} (hs : ∀ k, k < n → F k = if t k = true then F (k + 1) else some (false, ())) (he : F n = some (true, ())) :
    ∀ d k, k + d = n → F k = some ((List.range' k d).all t, ())
  | 0, k, h => by rw [show k = n by omega, he]; rfl
  | d + 1, k, h => by
    rw [hs k (by omega), List.range'_succ, List.all_cons, all_steps hs he d (k + 1) (by omega)]
    cases t k <;> simp
theorem any_steps {F : Nat → Option (Int × Unit)} {n : Nat} {t : Nat → Bool} (hs : ∀ k, k < n → F k = if t k = true then some ((k : Int), ()) else F (k + 1)) (he : F n = some (-1, ())) :
    ∀ d k, k + d = n → ∃ r : Int, F k = some (r, ()) ∧ decide (r ≥ 0) = (List.range' k d).any t
  | 0, k, h => ⟨-1, by rw [show k = n by omega, he], rfl⟩
  | d + 1, k, h => by
    obtain ⟨r, h1, h2⟩ := any_steps hs he d (k + 1) (by omega)
    rw [hs k (by omega), List.range'_succ, List.any_cons]
    cases ht : t k with
    | true => exact ⟨k, by simp, by simp⟩
    | false => exact ⟨r, by simp [h1], by simp [h2]⟩
theorem count_steps {F : Int → Nat → Option (Int × Unit)} {n : Nat} {t : Nat → Bool} (hs : ∀ k, k < n → ∀ c : Nat, c ≤ k → F c k = if t k = true then F ((c + 1 : Nat) : Int) (k + 1) else F c (k + 1)) (he : ∀ c, F c n = some (c, ())) :
    ∀ d k (c : Nat), k + d = n → c ≤ k → F c k = some (((c + (List.range' k d).countP t : Nat) : Int), ())
  | 0, k, c, h, _ => by rw [show k = n by omega, he]; simp
  | d + 1, k, c, h, hc => by
    rw [hs k (by omega) c hc, List.range'_succ, List.countP_cons]
    cases ht : t k with
    | true =>
      simp only [if_true]
      rw [count_steps hs he d (k + 1) (c + 1) (by omega) (by omega), show c + 1 + (List.range' (k + 1) d).countP t = c + ((List.range' (k + 1) d).countP t + 1) by omega]
    | false =>
      simp only [Bool.false_eq_true, if_false]
      rw [count_steps hs he d (k + 1) c (by omega) (by omega)]; rfl
theorem fill_steps {α : Type} {F : Nat → List α → Option (List α × Unit)} {x : List α} (hs : ∀ k (h : k < x.length), ∀ o, o.length = x.length → F k o = F (k + 1) (lmod o k fun _ => x[k])) (he : ∀ o, F x.length o = some (o, ())) :
    ∀ (d k : Nat) (r : List α), k + d = x.length → r.length = d → F k (x.take k ++ r) = some (x, ())
  | 0, k, r, hk, hr => by
    have hr : r = [] := List.eq_nil_of_length_eq_zero hr
    subst hr
    rw [show k = x.length by omega, he]; simp
  | d + 1, k, r, hk, hr => by
    match r, hr with
    | y :: r, hr =>
      simp only [List.length_cons, Nat.add_right_cancel_iff] at hr
      have h2 : k < x.length := by omega
      rw [hs k h2 _ (by simp; omega)]
      have e : lmod (x.take k ++ y :: r) k (fun _ => x[k]) = x.take (k + 1) ++ r := by
        have hk' : (x.take k).length = k := by simp; omega
        have := lmod_app (x.take k) y r (fun _ => x[k])
        rw [hk'] at this
        rw [this, List.take_succ_eq_append_getElem h2, List.append_assoc]; rfl
      rw [e]
      exact fill_steps hs he d (k + 1) r (by omega) hr
theorem sz_steps {F : Int → Nat → Option (Int × Unit)} {n : Nat} {g : Nat → Nat} (hs : ∀ k, k < n → ∀ left : Int, 0 ≤ left → left ≤ 1048576 → F left k = if left < (g k : Int) then some (-1, ()) else F (left - (g k : Int)) (k + 1)) (he : ∀ left, F left n = some (left, ())) :
    ∀ d k (left : Int), k + d = n → 0 ≤ left → left ≤ 1048576 → ∃ r : Int, F left k = some (r, ()) ∧ (r < 0 ∨ (0 ≤ r ∧ r ≤ left ∧ ∀ j, k ≤ j → j < n → (g j : Int) ≤ left))
  | 0, k, left, h, h0, _ => ⟨left, by rw [show k = n by omega, he], Or.inr ⟨h0, Int.le_refl _, fun j h1 h2 => by omega⟩⟩
  | d + 1, k, left, h, h0, h1 => by
    rw [hs k (by omega) left h0 h1]
    by_cases hl : left < (g k : Int)
    · exact ⟨-1, if_pos hl, Or.inl (by omega)⟩
    · rw [if_neg hl]
      obtain ⟨r, q1, q2⟩ := sz_steps hs he d (k + 1) (left - (g k : Int)) (by omega) (by omega) (by omega)
      refine ⟨r, q1, q2.imp id fun ⟨a, b, c⟩ => ⟨a, by omega, fun j h2 h3 => ?_⟩⟩
      by_cases hj : j = k
      · subst hj; omega
      · have := c j (by omega) h3; omega

theorem bne_t {a b : Int} (h : a ≠ b) : (a != b) = true := bne_iff_ne.2 h
theorem len_ne {α β : Type} {x : List α} {y : List β} (h : ¬ x.length = y.length) : ((x.length : Int) != (y.length : Int)) = true := bne_t (by omega)
theorem sub_i64 {a b : Int} (h1 : -9223372036854775808 ≤ a - b) (h2 : a - b ≤ 9223372036854775807) : iar .sub .i64 a b = a - b := wrap_i64 h1 h2
theorem len_max {α : Type} {l : List α} (h : l.length ≤ maxLen) : (l.length : Int) ≤ 9223372036854775807 := by unfold maxLen at h; omega

/-! ### Texts of bytes -/
theorem toU_inj {a b : Int} (ha : 0 ≤ a ∧ a < 256) (hb : 0 ≤ b ∧ b < 256) (h : UInt8.ofNat a.toNat = UInt8.ofNat b.toNat) : a = b := by
  have := congrArg UInt8.toNat h
  simp only [UInt8.toNat_ofNat'] at this
  omega
theorem bytes_map_inj : ∀ {a b : List Int}, Bytes a → Bytes b → a.map (fun x => UInt8.ofNat x.toNat) = b.map (fun x => UInt8.ofNat x.toNat) → a = b
  | [], [], _, _, _ => rfl
  | [], _ :: _, _, _, h => by cases h
  | _ :: _, [], _, _, h => by cases h
  | x :: a, y :: b, ha, hb, h => by
    simp only [List.map_cons, List.cons.injEq] at h
    rw [toU_inj (ha x (by simp)) (hb y (by simp)) h.1, bytes_map_inj (fun z hz => ha z (by simp [hz])) (fun z hz => hb z (by simp [hz])) h.2]
theorem scm_neq {a b : List Int} (ha : Bytes a) (hb : Bytes b) : scm .neq (bytesStr a) (bytesStr b) = !decide (a = b) := by
  show (!((bytesStr a).toList == (bytesStr b).toList)) = _
  rw [ByteArray.toList_eq, ByteArray.toList_eq]
  congr 1
  by_cases h : a = b
  · subst h; simp
  · rw [decide_eq_false h]
    simp only [beq_eq_false_iff_ne, ne_eq]
    intro he
    exact h (bytes_map_inj ha hb (by simpa [bytesStr] using he))

theorem all_eq {α : Type} [DecidableEq α] {z : α} {x y : List α} (hl : x.length = y.length) : (List.range' 0 x.length).all (fun k => decide (lget x k z = lget y k z)) = decide (x = y) := by
  by_cases h : x = y
  · subst h; simp
  · rw [decide_eq_false h]
    apply Bool.eq_false_iff.2
    intro hall
    apply h
    refine List.ext_getElem hl fun k h1 h2 => ?_
    have := List.all_eq_true.1 hall k (by simp [List.mem_range'_1]; exact h1)
    rw [lget_n h1, lget_n h2] at this
    exact of_decide_eq_true this
end Go.Evr

namespace Go.Evr
/-- Where a byte stands first in a text. -/
def idxByte (s : ByteArray) (c : Int) : Int := firstIdx s c.toNat.toUInt8
theorem one_ret {W : World} {us : List Value} {t : Ty} {ms : List Md} {y : t.den} {o : (outT ms).den} {v : Value} {Z : Zone} (ho : Own ZF W t y [v]) (ht : t.isSt = false) (h : OutsOk W ms o us ZF) : RetsOk W us [t] ms (y, o) [v] Z :=
  ⟨v, [], [v], ZF, ZF, rfl, fun _ _ h => h.elim, fun _ _ h => h.elim, fun _ _ h => h.elim, ho, by unfold Shape; rw [ht]; simp, rfl, h⟩
theorem idx_ok {P : Program} {id fid : Nat} {hook} {fn : Func} (hf : P.funcs[fid]? = some fn) (hname : (fn.name == "runtime.NumGoroutine") = false) (hb : fn.body.isNone = true) (hn : Extern.findNext fn = none) (he : Extern.find fn = some Extern.BytealgIndexByte.indexByte)
    (x : (argT [.view .str, .view (.int .u8)]).den) : CallOk P ⟨id, fid, [.view .str, .view (.int .u8)], [.int .i64], hook⟩ x (idxByte x.1 x.2.1, ()) := by
  intro W us V Z ha _
  obtain ⟨u, us', vs, rfl, hr, hs, ha⟩ := ha
  obtain ⟨u2, us2, vs2, rfl, hr2, hs2, ha⟩ := ha
  cases ha
  have hr : vs = [.string x.1] := hr
  have hr2 : vs2 = [.int .u8 x.2.1] := hr2
  subst hr; subst hr2
  unfold Shape at hs hs2
  simp [Ty.isSt] at hs hs2
  subst hs; subst hs2
  refine Or.inr ⟨.int .i64 (idxByte x.1 x.2.1), W, ?_, [.int .i64 (idxByte x.1 x.2.1)], rfl, Frm.refl _ _, ?_⟩
  · rw [run_callFunc_indexByte hf hname hb hn he]
    show ((Extern.BytealgIndexByte.indexByte #[.string x.1, .int .u8 x.2.1]).run P W).andThen _ = _
    rw [run_indexByte_string]; rfl
  · exact one_ret (t := .int .i64) rfl rfl ⟨_, _, rfl, _, _, rfl, trivial⟩
end Go.Evr

namespace Go.Evr
/-! ### What is picked -/
theorem filt_steps {α β : Type} {F F1 : Nat → List α → Option β} {G : List α → Option β} {x : List α} {p : α → Bool} (hs : ∀ k (h : k < x.length), ∀ o, o.length ≤ k → F k o = if p x[k] = true then F1 (k + 1) (o ++ [x[k]]) else F (k + 1) o)
    (hs1 : ∀ k (h : k < x.length), ∀ o, o.length ≤ k → F1 k o = if p x[k] = true then F1 (k + 1) (o ++ [x[k]]) else F1 (k + 1) o) (he : ∀ o, F x.length o = G o) (he1 : ∀ o, F1 x.length o = G o) :
    ∀ (d k : Nat) (o : List α), k + d = x.length → o.length ≤ k → F k o = G (o ++ (x.drop k).filter p) ∧ F1 k o = G (o ++ (x.drop k).filter p)
  | 0, k, o, hk, ho => by
    rw [show k = x.length by omega, he, he1]; simp
  | d + 1, k, o, hk, ho => by
    have h2 : k < x.length := by omega
    have e1 := filt_steps hs hs1 he he1 d (k + 1) (o ++ [x[k]]) (by omega) (by simp; omega)
    have e2 := filt_steps hs hs1 he he1 d (k + 1) o (by omega) (by omega)
    rw [hs k h2 o ho, hs1 k h2 o ho, List.drop_eq_getElem_cons h2, List.filter_cons]
    cases hp : p x[k] with
    | true =>
      simp only [if_true]
      rw [List.append_assoc] at e1
      exact ⟨e1.2, e1.2⟩
    | false => simpa using e2

/-! ### Marks -/
def marks (k n : Nat) : List Int := (List.range' k n).map fun (j : Nat) => iwr .u8 (j : Int)
theorem marks_len (k n : Nat) : (marks k n).length = n := by simp [marks]
theorem marks_succ (k n : Nat) : marks k (n + 1) = marks k n ++ [iwr .u8 ((k + n : Nat) : Int)] := by
  unfold marks
  rw [List.range'_concat, List.map_append]; simp
theorem mark_loop {F : Int → Int → List Int → Option (Int × (List Int × Unit))}
    (h : ∀ x0 x1 x2, F x0 x1 x2 = br (icm .lss x1 (lnat (llen x2))) (br (inb x1 (lnat (llen x2))) (F (iar .add .i64 x0 1) (iar .add .i64 x1 1) (lmod x2 (itn x1) (fun _ => (iwr .u8 x0)))) none) (some (x0, (x2, ()))))
    {k n : Nat} (hn : n ≤ 1048576) (hk : k ≤ 4611686018427387904) : ∀ (d i : Nat) (r : List Int), i + d = n → r.length = d → F ((k + i : Nat) : Int) (i : Int) (marks k i ++ r) = some (((k + n : Nat) : Int), (marks k n, ()))
  | 0, i, r, hi, hr => by
    have hr : r = [] := List.eq_nil_of_length_eq_zero hr
    subst hr
    have hi : i = n := by omega
    subst hi
    rw [h]; simp [marks_len]
  | d + 1, i, r, hi, hr => by
    match r, hr with
    | y :: r, hr =>
      simp only [List.length_cons, Nat.add_right_cancel_iff] at hr
      rw [h]
      have hl : (marks k i ++ y :: r).length = n := by simp [marks_len]; omega
      have h1 : (i : Int) < (n : Int) := by omega
      have h2 : i < n := by omega
      simp only [llen_n, lnat_n, hl, lss_n, h1, decide_true, br_t, inb_n, h2, itn_n]
      rw [add1 (by omega), add1 (by omega)]
      have e := lmod_app (marks k i) y r (fun _ => iwr .u8 ((k + i : Nat) : Int))
      rw [marks_len] at e
      rw [e, show marks k i ++ iwr .u8 ((k + i : Nat) : Int) :: r = marks k (i + 1) ++ r by rw [marks_succ, List.append_assoc]; rfl]
      exact mark_loop h hn hk d (i + 1) r (by omega) hr
theorem held_loop {F : List Int → Int → Int → Option (Int × Unit)}
    (h : ∀ x0 x1 x2, F x0 x1 x2 = br (icm .lss x2 (lnat (llen x0))) (br (inb x2 (lnat (llen x0))) (br (icm .neq (lget x0 (itn x2) (0 : Int)) (iwr .u8 x1)) (some ((-1 : Int), ())) (F x0 (iar .add .i64 x1 1) (iar .add .i64 x2 1))) none) (some (x1, ())))
    {k n : Nat} (hn : n ≤ 1048576) (hk : k ≤ 4611686018427387904) : ∀ (d i : Nat), i + d = n → F (marks k n) ((k + i : Nat) : Int) (i : Int) = some (((k + n : Nat) : Int), ())
  | 0, i, hi => by
    have hi : i = n := by omega
    subst hi
    rw [h]; simp [marks_len]
  | d + 1, i, hi => by
    rw [h]
    have h1 : (i : Int) < (n : Int) := by omega
    have h2 : i < n := by omega
    have hg : lget (marks k n) i 0 = iwr .u8 ((k + i : Nat) : Int) := by
      rw [lget_n (by rw [marks_len]; exact h2)]; simp [marks]
    simp only [llen_n, lnat_n, marks_len, lss_n, h1, decide_true, br_t, inb_n, h2, itn_n, hg, neq_n, bne_self_eq_false, br_f]
    rw [add1 (by omega), add1 (by omega)]
    exact held_loop h hn hk d (i + 1) (by omega)
/-- A digit of a hexadecimal text, or -1. -/
def dg (c : Int) : Int := if 48 ≤ c ∧ c ≤ 57 then c - 48 else if 97 ≤ c ∧ c ≤ 102 then c - 87 else -1
theorem idx_digs : ∀ n : Fin 256, idxByte digs (n.val : Int) = dg (n.val : Int) := by decide +kernel
theorem idx_dg {c : Int} (h : 0 ≤ c ∧ c < 256) : idxByte digs c = dg c := by
  have := idx_digs ⟨c.toNat, by omega⟩
  simp only [Int.toNat_of_nonneg h.1] at this
  exact this
theorem sget_byte (s : ByteArray) (i : Int) : 0 ≤ sget s i ∧ sget s i < 256 := by
  unfold sget
  split
  · rename_i b _
    have := b.toNat_lt
    omega
  · omega
theorem join4 : ∀ a : Fin 16, ∀ b : Fin 16, iwr .u8 (iar .or .i64 (iar .shl .i64 (a.val : Int) 4) (b.val : Int)) = iwr .u8 (iar .add .i64 (iar .mul .i64 16 (a.val : Int)) (b.val : Int)) := by decide +kernel
theorem join_dg {a b : Int} (ha : 0 ≤ a ∧ a < 16) (hb : 0 ≤ b ∧ b < 16) : iwr .u8 (iar .or .i64 (iar .shl .i64 a 4) b) = iwr .u8 (iar .add .i64 (iar .mul .i64 16 a) b) := by
  have := join4 ⟨a.toNat, by omega⟩ ⟨b.toNat, by omega⟩
  simp only [Int.toNat_of_nonneg ha.1, Int.toNat_of_nonneg hb.1] at this
  exact this
theorem dg_lt {c : Int} (h : ¬ dg c < 0) : 0 ≤ dg c ∧ dg c < 16 := by
  have key : dg c < 16 := by
    unfold dg
    by_cases h1 : 48 ≤ c ∧ c ≤ 57
    · rw [if_pos h1]; omega
    · rw [if_neg h1]
      by_cases h2 : 97 ≤ c ∧ c ≤ 102
      · rw [if_pos h2]; omega
      · rw [if_neg h2]; omega
  omega
end Go.Evr

