/- The law FnExactReadHex holds for every input: what the program's ReadHex returns is what the reference's returns, and it shares no memory. -/
import Derived.Test.YtijelhbbkjjciaaLaw1
import Derived.Test.YtijelhbbkjjciaaEv3
import Derived.Test.YtijelhbbkjjciaaRows
import Derived.WalkKit
import Derived.ProofKit
import Derived.OpenShut
import Derived.ShutString
import Derived.ChangeOld
import Derived.Below
import Derived.SizedLaws
set_option linter.unusedVariables false
set_option linter.unusedSimpArgs false
namespace Go.Proofs.Ytijelhbbkjjciaa.Rx.Rb
open Go Go.Evr
open Go.ChangeShapes Go.WideShapes Go.ChangeAt Go.RowKit

theorem e39 {c : Int} (h : 0 ≤ c ∧ c < 256) : fE39 c = some (dg c, ()) := by
  have s48 : 48 ≤ c → c ≤ 57 → iwr .i64 (iar .sub .u8 c 48) = c - 48 := fun h1 h2 => by
    show IntKind.i64.wrap (IntKind.u8.wrap (c - 48)) = _
    rw [wraps_u8 _ (by omega) (by omega), wrap_i64 (by omega) (by omega)]
  have s97 : 97 ≤ c → c ≤ 102 → iar .add .i64 (iwr .i64 (iar .sub .u8 c 97)) 10 = c - 87 := fun h1 h2 => by
    show IntKind.i64.wrap (IntKind.i64.wrap (IntKind.u8.wrap (c - 97)) + 10) = _
    rw [wraps_u8 _ (by omega) (by omega), wrap_i64 (n := c - 97) (by omega) (by omega), wrap_i64 (by omega) (by omega)]
    omega
  rw [E39_eq]
  unfold dg
  simp only [geq_n, leq_n]
  by_cases h1 : 48 ≤ c <;> by_cases h2 : c ≤ 57 <;> by_cases h3 : 97 ≤ c <;> by_cases h4 : c ≤ 102 <;> simp only [ge_iff_le, h1, h2, h3, h4, decide_true, decide_false, br_t, br_f, true_and, false_and, and_true, and_false, if_true, if_false, s48, s97] <;> first | rfl | omega
theorem e40 (s : ByteArray) (i : Int) : fE40 digs (sget s i) = some (dg (sget s i), ()) := by
  rw [E40_eq, E61_eq, bd_s, idx_dg (sget_byte s i)]
theorem both {x : ByteArray} {n : Nat} (hx : ssize x = ((2 * n : Nat) : Int)) (hn : n ≤ 500) : ∀ (d i : Nat) (o : List Int), i + d = n → o.length = i →
    ∃ r : Int × (List Int × Unit), E14_L5 x ((2 * i : Nat) : Int) 0 o = some (r, ()) ∧ E15_L5 x ((2 * i : Nat) : Int) 0 o = some (r, ()) ∧ r.2.1.length ≤ 500
  | 0, i, o, hi, ho => by
    have hi : i = n := by omega
    subst hi
    refine ⟨(0, (o, ())), ?_, ?_, by simp; omega⟩
    · rw [E14_L5_eq, hx]; simp
    · rw [E15_L5_eq, hx]; simp
  | d + 1, i, o, hi, ho => by
    have h1 : ((2 * i : Nat) : Int) < ((2 * n : Nat) : Int) := by omega
    have h2 : 2 * i < 2 * n := by omega
    have h3 : 2 * i + 1 < 2 * n := by omega
    have a2 : iar .add .i64 ((2 * i : Nat) : Int) 2 = ((2 * (i + 1) : Nat) : Int) := by
      show IntKind.i64.wrap _ = _
      rw [wrap_i64 (by omega) (by omega)]; omega
    have b1 := sget_byte x ((2 * i : Nat) : Int)
    have b2 := sget_byte x ((2 * i + 1 : Nat) : Int)
    have e14 := E14_L5_eq x ((2 * i : Nat) : Int) 0 o
    have e15 := E15_L5_eq x ((2 * i : Nat) : Int) 0 o
    rw [add1 (by omega), a2, hx] at e14 e15
    rw [e39 b1, e39 b2] at e14
    rw [e40 x ((2 * i : Nat) : Int), e40 x ((2 * i + 1 : Nat) : Int)] at e15
    simp only [lss_n, h1, decide_true, br_t, inb_n, h2, h3, bd_s, llen_n, nadd_n, lcat_n, List.length_cons, List.length_nil] at e14 e15
    by_cases n1 : dg (sget x ((2 * i : Nat) : Int)) < 0
    · refine ⟨(5, ([], ())), ?_, ?_, by simp⟩
      · rw [e14]; simp only [n1, decide_true, br_t]
      · rw [e15]; simp only [n1, decide_true, br_t]
    · by_cases n2 : dg (sget x ((2 * i + 1 : Nat) : Int)) < 0
      · refine ⟨(5, ([], ())), ?_, ?_, by simp⟩
        · rw [e14]; simp only [n1, n2, decide_true, decide_false, br_t, br_f]
        · rw [e15]; simp only [n1, n2, decide_true, decide_false, br_t, br_f]
      · have hf : fits (o.length + (0 + 1)) = true := fits_n (by omega)
        rw [join_dg (dg_lt n1) (dg_lt n2)] at e15
        simp only [n1, n2, decide_false, br_f, hf, br_t] at e14 e15
        obtain ⟨r, q1, q2, q3⟩ := both hx hn d (i + 1) (o ++ [iwr .u8 (iar .add .i64 (iar .mul .i64 16 (dg (sget x ((2 * i : Nat) : Int)))) (dg (sget x ((2 * i + 1 : Nat) : Int))))]) (by omega) (by simp; omega)
        exact ⟨r, e14.trans q1, e15.trans q2, q3⟩
theorem size_n (x : ByteArray) : ssize x = ((x.size : Nat) : Int) := rfl
theorem rem2 (n : Nat) : iar .rem .i64 (n : Int) 2 = ((n % 2 : Nat) : Int) := by
  show (n : Int).tmod 2 = _
  rw [Int.tmod_eq_emod_of_nonneg (by omega)]; omega
theorem reads (x : ByteArray) : ∃ r : Int × (List Int × Unit), fE14 x = some (r, ()) ∧ fE15 x = some (r, ()) ∧ r.2.1.length ≤ 500 := by
  have e14 := E14_eq x
  have e15 := E15_eq x
  rw [size_n, rem2] at e14 e15
  simp only [gtr_n, eql_n, neq_n] at e14 e15
  by_cases h1 : (x.size : Int) > 1000
  · refine ⟨(5, ([], ())), ?_, ?_, by simp⟩
    · rw [e14]; simp only [h1, decide_true, br_t]
    · rw [e15]
      cases ((x.size % 2 : Nat) : Int) != 0
      · simp only [br_f, h1, decide_true, br_t]
      · rfl
  · by_cases h2 : x.size % 2 = 1
    · refine ⟨(5, ([], ())), ?_, ?_, by simp⟩
      · rw [e14, h2]; simp only [h1, decide_false, br_f]; rfl
      · rw [e15, h2]; rfl
    · have h3 : x.size % 2 = 0 := by omega
      rw [h3] at e14 e15
      simp only [h1, decide_false, br_f] at e14 e15
      obtain ⟨r, q1, q2, q3⟩ := both (x := x) (n := x.size / 2) (by rw [size_n]; omega) (by omega) (x.size / 2) 0 [] (by omega) rfl
      exact ⟨r, e14.trans q1, e15.trans q2, q3⟩
theorem e13 {a : List Int} (ha : a.length ≤ 1048576) : fE13 a a = some (true, ()) := by
  have h := same_loop (F := E13_L4) E13_L4_eq (x := a) (by omega) a.length 0 (by omega)
  rw [E13_eq]
  simp only [neq_n, bne_self_eq_false, br_f]
  exact h
theorem e16 (r : Int × (List Int × Unit)) (h : r.2.1.length ≤ 500) : fE16 (r.1, (r.2.1, ())) (r.1, (r.2.1, ())) = some (true, ()) := by
  have h2 := e13 (a := r.2.1) (by omega)
  rw [E16_eq]
  simp only [neq_n, bne_self_eq_false, br_f, h2, bd_s, bnot_n, Bool.not_true]
theorem e17 (c : Int) {l : List Int} (h : l.length ≤ 500) : fE17 c l 1 = some (((1 + l.length : Nat) : Int), (marks 1 l.length, ())) := by
  have hm := mark_loop (F := E41_L2) E41_L2_eq (k := 1) (n := l.length) (by omega) (by omega) l.length 0 l (by omega) rfl
  have hm : fE41 l 1 = some (((1 + l.length : Nat) : Int), (marks 1 l.length, ())) := (E41_eq l 1).trans hm
  rw [E17_eq, hm]
  simp only [bd_s, llen_n, marks_len, nsame, beq_self_eq_true, br_t]
theorem e18 (c : Int) {n : Nat} (h : n ≤ 500) : fE18 (c, (marks 1 n, ())) 1 = some (((1 + n : Nat) : Int), ()) := by
  have hm := held_loop (F := E42_L2) E42_L2_eq (k := 1) (n := n) (by omega) (by omega) n 0 (by omega)
  have hm : fE42 (marks 1 n) 1 = some (((1 + n : Nat) : Int), ()) := (E42_eq _ 1).trans hm
  rw [E18_eq, hm]
  simp only [bd_s, lss_n]
  rw [decide_eq_false (show ¬ ((1 + n : Nat) : Int) < 0 by omega), br_f]
theorem pureLaw {x : ByteArray} (_ : DOk .str x) : fE4 x = some (true, ()) := by
  rw [E4_eq]
  by_cases h : ssize x > 1048576
  · simp only [gtr_n, h, decide_true, br_t]
  · obtain ⟨r, h1, h2, h3⟩ := reads x
    simp only [gtr_n, h, decide_false, br_f, h1, h2, bd_s, e16 r h3, bnot_n, Bool.not_true, e17 r.1 h3, llen_n, marks_len, nsame, beq_self_eq_true, br_t, e18 r.1 h3, lss_n, neq_n, bne_self_eq_false]
    rw [decide_eq_false (show ¬ ((1 + r.2.1.length : Nat) : Int) < 0 by omega)]
    rfl

theorem own : ownKnob Try.prog.godebug = none := by kernel_rfl
theorem laidOut : laidOutB Try.prog = true := by kernel_rfl
theorem kind_0 : C.ty 9 = some .str := by kernel_rfl
set_option maxRecDepth 100000 in
theorem lifted (os : Os) (started : os.Started) (H : Type) (enc : TypeId × Value → H) :
    ReturnsInHanded {} Try.checked os 4 .any (Rows.fnExactReadHexSpec.pre6 enc Try.prog Try.f4 Rows.fnExactReadHexRow.domain false) (Rows.fnExactReadHexSpec.post enc Try.prog Try.f4 false true false false) := by
  refine returnsInHanded_of_change_sized (C := Try.checked) own started (by kernel_rfl) Try.func4
    (ChangeSpec.witness6 (enc := enc) (C := Try.checked) false ⟨#[], #[.string ByteArray.empty], []⟩ 8 (by kernel_rfl) (by kernel_rfl) (by kernel_rfl) (by kernel_rfl)) ?_
  intro W base args ds gs before hval0 hW hcnd hsz0 _
  have hval : ∀ (j : Nat) t v, Try.f4.params[j]? = some t → args[j]? = some v → Value.okWide Try.prog W .any base t v := hval0
  have hW' := hW
  obtain ⟨p, q, hA0, hV, rfl, hfz, hnd⟩ := hW
  have hA : DataW.TrodAll enc Try.prog W 0 (fun _ => true) true Try.f4.params.toList args.toList ds p := hA0
  rw [Try.params4] at hA hval
  obtain ⟨v0, vs0, d0, ds0, p0, q0, hargs, rfl, rfl, h0, r0⟩ := trodAll_cons hA
  obtain ⟨rfl, rfl, rfl⟩ := trodAll_nil r0
  obtain rfl : args = #[v0] := by cases args; simp_all
  obtain ⟨rfl, rfl⟩ := trodVars_none hV
  have k0 := h0
  have lt0 : ∀ x ∈ p0, x.block < W.heap.size := by obtain ⟨m, hm⟩ := k0; exact DataW.trod_lt m _ _ _ hm
  obtain ⟨x0, us0, hr0, hs0, hd0⟩ := arg_ok cok kind_0 (by kernel_rfl) (hval 0 9 v0 rfl rfl) h0
  have hp := pureLaw hd0
  have ha : ArgsOk ZT W E4.ps (x0, ()) [v0] ZF := ⟨v0, [], us0, rfl, hr0, hs0, rfl⟩
  refine (law_calls cok eok mix (id := 5) (fid := 4) (ps := E4.ps) (hook := Option.none) (by simp [C, E4]) hp rfl ha Try.func4 (by kernel_rfl) (by kernel_rfl)).mono fun e W' ⟨he, bel⟩ => ?_
  subst he
  exact ⟨_, rfl, _, _, _, [], _, [], hW', trodAll_mk1 (shut_bool Try.underlying4 _), (trodAll_cons_mk (Below.trod laidOut (by kernel_rfl) (of_decide_eq_true (by kernel_rfl)) k0 bel lt0) trodAll_mk0), rfl, bel.frame _, fun h => by cases h⟩
theorem over : Rows.fnExactReadHexRow.holds Try.pinned (OpenSpec.ofChange Rows.fnExactReadHexSpec) :=
  OpenClaim.holds_of_wide 4 Try.f4 rfl rfl rfl rfl rfl rfl rfl ⟨rfl, rfl, rfl, rfl, rfl⟩ rfl rfl rfl rfl rfl (by kernel_rfl) Try.func4 (by kernel_rfl)
    (of_decide_eq_true (by kernel_rfl)) (by unfold Func.isWrapper; first | (rw [if_pos (by decide +kernel)]; kernel_rfl) | (rw [if_neg (by decide +kernel)]; exact ⟨rfl, rfl⟩))
    (fun os started H enc _ => lifted os started H enc)
end Go.Proofs.Ytijelhbbkjjciaa.Rx.Rb
namespace Go.Proofs.Ytijelhbbkjjciaa
/-- The law, for the claim. -/
theorem fnExactReadHex_holds : Rows.FnExactReadHexSaid := Rx.Rb.over
end Go.Proofs.Ytijelhbbkjjciaa
