/- An evaluator for the code of the program, and the proof that what it answers is true (part 2). -/
import Derived.Test.YtblomclgbnacnaaEv1
import Derived.Laws.MakeOwn
import Derived.Great.BuildSlice
import Derived.Laws.IdiomStrings
import Derived.Laws.IdiomCopy
set_option linter.unusedVariables false
set_option linter.unusedSimpArgs false
namespace Go.Evr
section
variable {C : Ctx} {P : Program}
variable {X : Cx} {D : Nat → Nat → Prop} {E : Env} {S : St} {tm : List Value} {nx : Nat} {o : Oper} {l : List Nat} {e : Eff}

def lookP : Puts → Nat → Option (Option Ob)
  | [], _ => none
  | (o, x) :: p, k => if o = k then some x else lookP p k

theorem lookP_none : ∀ {p : Puts} {k : Nat}, k ∉ p.map (·.1) → lookP p k = none
  | [], _, _ => rfl
  | (o, x) :: p, k, h => by
    simp only [List.map_cons, List.mem_cons, not_or] at h
    simp only [lookP]
    rw [if_neg (Ne.symm h.1), lookP_none h.2]

theorem lookP_mem : ∀ {p : Puts} {k : Nat} {x : Option Ob}, lookP p k = some x → (k, x) ∈ p
  | (o, x) :: p, k, y, h => by
    simp only [lookP] at h
    split at h
    · rename_i hk; cases h; subst hk; exact List.mem_cons_self ..
    · exact List.mem_cons_of_mem _ (lookP_mem h)

theorem obPuts_look : ∀ {p : Puts} {f : Nat → Option Ob} {k : Nat}, (p.map (·.1)).Nodup → obPuts f p k = match lookP p k with | some x => x | none => f k
  | [], _, _, _ => rfl
  | (o, x) :: p, f, k, h => by
    simp only [List.map_cons, List.nodup_cons] at h
    simp only [obPuts, lookP]
    rw [obPuts_look h.2]
    by_cases hk : o = k
    · subst hk
      rw [if_pos rfl, lookP_none h.1]
      simp
    · rw [if_neg hk]
      split
      · rfl
      · rw [if_neg (Ne.symm hk)]

/-- What becomes of an object's cells when it is handed in, published or laid down. -/
def gPut (p : Puts) (tk : Option (Nat × Bool)) (o : Nat) (m : Bool) : Option (Nat × Bool) := match lookP p o with
  | none => some (o, m)
  | some none => tk
  | some (some (.arr _ _ false _ _)) => none
  | some (some (.arr _ _ true _ _)) => if m then some (o, true) else none
  | some (some (.box _)) => some (o, m)

def ownP (own : Nat → Nat → Option (Nat × Bool)) (p : Puts) (tk : Option (Nat × Bool)) : Nat → Nat → Option (Nat × Bool) := fun b k => match own b k with
  | some (o, m) => gPut p tk o m
  | none => none

/-- Puts that hand objects in or publish them. -/
def MoveOk (X : Cx) (p : Puts) : Prop := ∀ q ∈ p, ∃ e xs lv d v, X.ob q.1 = some (.arr e xs lv d v) ∧
  ((q.2 = none ∧ lv = true) ∨ q.2 = some (.arr e xs false d v) ∨ (q.2 = some (.arr e xs lv (!e.deep) v)))

theorem ownP_none {own : Nat → Nat → Option (Nat × Bool)} {p : Puts} {tk : Option (Nat × Bool)} {b k : Nat} (h : own b k = none) : ownP own p tk b k = none := by unfold ownP; rw [h]

theorem Own.flat {Z : Zone} {W : World} : ∀ {t : Ty} {Z' : Zone} {x : t.den} {vs : List Value}, t.deep = false → Rep Z' W t x vs → Own Z W t x vs
  | .int _, _, _, _, _, h => h
  | .bool, _, _, _, _, h => h
  | .str, _, _, _, _, h => h
  | .sl _, _, _, _, hd, _ => by cases hd
  | .unit, _, _, _, _, h => h
  | .pair a b, Z', x, _, hd, h => by
    simp only [Ty.deep, Bool.or_eq_false_iff] at hd
    obtain ⟨v1, v2, rfl, h1, h2⟩ := h
    exact ⟨v1, v2, rfl, fun _ _ => False, fun _ _ => False, fun _ _ h => h.elim, fun _ _ h => h.elim, fun _ _ h => h.elim, Own.flat hd.1 h1, Own.flat hd.2 h2⟩
  | .st t, Z', x, _, hd, h => Own.flat (t := t) (Z' := Z') hd h
  | .ref, _, _, _, _, h => h

/-- The ids that puts take away. -/
def taken (p : Puts) : List Nat := (p.filter fun q => q.2.isNone).map (·.1)
theorem mem_taken {p : Puts} {k : Nat} : k ∈ taken p ↔ (k, none) ∈ p := by
  unfold taken
  simp only [List.mem_map, List.mem_filter]
  constructor
  · rintro ⟨⟨a, b⟩, ⟨h1, h2⟩, rfl⟩
    cases b with
    | none => exact h1
    | some _ => cases h2
  · intro h; exact ⟨(k, none), ⟨h, rfl⟩, rfl⟩
theorem look_taken {p : Puts} (hn : (p.map (·.1)).Nodup) : ∀ {k : Nat} {x : Option Ob}, (k, x) ∈ p → lookP p k = some x := by
  induction p with
  | nil => intro k x h; cases h
  | cons q p ih =>
    intro k x h
    obtain ⟨o, y⟩ := q
    simp only [List.map_cons, List.nodup_cons] at hn
    simp only [lookP]
    rcases List.mem_cons.1 h with h | h
    · cases h; rw [if_pos rfl]
    · have : o ≠ k := by rintro rfl; exact hn.1 (List.mem_map_of_mem h)
      rw [if_neg this]; exact ih hn.2 h

theorem cellSl_lt : ∀ {t : Ty} {x : t.den} {c : Nat} {e : Ty} {ys : List e.den}, cellSl t x c e ys → c < t.cells
  | .sl _, _, _, _, _, h => by simp [h.1, Ty.cells]
  | .pair a b, x, c, e, ys, h => by
    simp only [cellSl] at h
    simp only [Ty.cells]
    split at h
    · omega
    · have := cellSl_lt h; omega
  | .st t, x, c, e, ys, h => cellSl_lt (t := t) h
  | .int _, _, _, _, _, h => h.elim
  | .bool, _, _, _, _, h => h.elim
  | .str, _, _, _, _, h => h.elim
  | .unit, _, _, _, _, h => h.elim
  | .ref, _, _, _, _, h => h.elim
def tkOf (nx : Nat) (dp : Bool) : Option (Nat × Bool) := if dp then some (nx, false) else none
/-- The rows of a new array as they lie, with the cells that puts free. -/
def NewRows (X : Cx) (p : Puts) (M : Zone) (e : Ty) (xs : List e.den) (dp : Bool) (row : Nat → List Value) : Prop :=
  if dp then ∃ ZR : Nat → Zone, (∀ i b k, ZR i b k → ownZ X.own (taken p) b k ∧ ¬ M b k) ∧ (∀ i j b k, ZR i b k → ZR j b k → i = j) ∧ ∀ i (h : i < xs.length), Own (ZR i) X.W e xs[i] (row i)
  else ∀ i (h : i < xs.length), Rep (fun b k => ownP X.own p none b k = none ∧ ¬ M b k) X.W e xs[i] (row i)

/-- A new array, made of what is handed in: its cells are new, or those of an array that is handed in. -/
theorem Done.arr (I : Inv X D E S tm) (hn : ¬ D nx 0) {p : Puts} (hp : MoveOk X p) (hnd : (p.map (·.1)).Nodup) {et : Ty} {xs : List et.den} {dp : Bool} {cap : Nat} {g : List Bool} {M : Zone} {W1 : World} {a : Option Addr}
    (F : Frm M X.W W1) (hM : ∀ b k, M b k → X.W.heap.size ≤ b ∨ ∃ o, (o, none) ∈ p ∧ X.own b k = some (o, true)) (hlt : ∀ b k, M b k → b < W1.heap.size)
    (hl : xs.length ≤ cap) (hr : cap = 0 ∨ ∃ b k row, a = some ⟨b, k, none⟩ ∧ (∀ j, j < cap * et.cells → M b (k + j)) ∧ Mine W1 b k (cap * et.cells) ∧
      (∀ i, i < xs.length → ∀ j v, (row i)[j]? = some v → W1.cell? ⟨b, k + i * et.cells + j, none⟩ = some v) ∧ NewRows X p M et xs dp row) :
    Done X D E S tm nx ⟨.fsl nx, (nx, some (.arr et xs true dp 0)) :: p, nx + 1, g⟩ (.slice a xs.length cap) W1 := by
  classical
  have hne : ∀ o, D o 0 → o ≠ nx := fun o ho e => hn (e ▸ ho)
  have hpne : ∀ q ∈ p, q.1 ≠ nx := by
    intro q hq
    obtain ⟨e, xs, lv, d, v, h1, _⟩ := hp q hq
    exact hne _ (I.dob _ _ ((I.ob _).symm.trans h1))
  have hnp : nx ∉ p.map (·.1) := by
    intro h
    obtain ⟨q, hq, he⟩ := List.mem_map.1 h
    exact hpne q hq he
  let own' : Nat → Nat → Option (Nat × Bool) := fun b k => if M b k then some (nx, true) else ownP X.own p (tkOf nx dp) b k
  let X' : Cx := { own := own', loc := fun o => if o = nx then .arr a cap else X.loc o,
                   ob := fun o => if o = nx then some (.arr et xs true dp 0) else match lookP p o with | some x => x | none => X.ob o, W := W1 }
  have hown : ∀ b k, ¬ M b k → X'.own b k = ownP X.own p (tkOf nx dp) b k := fun b k hb => by show own' b k = _; simp only [own']; rw [if_neg hb]
  have hcell : ∀ b k v, ¬ M b k → X.W.cell? ⟨b, k, none⟩ = some v → X'.W.cell? ⟨b, k, none⟩ = some v := fun b k v hm hv => F.cell b k v hm hv
  -- what belongs to nobody, or to an object that is not handed in whole, is no cell of the new array
  have hM0 : ∀ b k v, X.own b k = none → X.W.cell? ⟨b, k, none⟩ = some v → ¬ M b k := fun b k v h0 hv hm => by
    rcases hM b k hm with h | ⟨o, _, h⟩
    · have := cell_lt hv; omega
    · rw [h0] at h; cases h
  have hM1 : ∀ b k o m, X.own b k = some (o, m) → (m = false ∨ lookP p o ≠ some none) → ¬ M b k := fun b k o m h0 ho hm => by
    rcases hM b k hm with h | ⟨o', ho', h⟩
    · have := (I.dom b k o m h0).1; omega
    · rw [h0] at h; cases h
      rcases ho with ho | ho
      · cases ho
      · exact ho (look_taken hnd ho')
  have hob : ∀ o, (S.puts ((nx, some (.arr et xs true dp 0)) :: p)).ob o = X'.ob o := by
    intro o
    rw [ob_puts, obPuts_look (by simp only [List.map_cons, List.nodup_cons]; exact ⟨hnp, hnd⟩)]
    simp only [lookP, X']
    by_cases h : o = nx
    · subst h; simp
    · rw [if_neg (Ne.symm h), if_neg h]
      cases lookP p o with
      | none => exact (I.ob o).symm
      | some x => rfl
  -- an object that is still there has the kind, the length and the place that it had
  have hold : ∀ o x, o ≠ nx → X'.ob o = some x → (lookP p o = none ∧ X.ob o = some x) ∨ ∃ e ys lv d v lv' d', X.ob o = some (.arr e ys lv d v) ∧ x = .arr e ys lv' d' v ∧ lookP p o = some (some x) ∧ ((lv' = false) ∨ (lv' = lv ∧ d' = !e.deep)) := by
    intro o x ho hx
    simp only [X'] at hx
    rw [if_neg ho] at hx
    cases hlk : lookP p o with
    | none => rw [hlk] at hx; exact Or.inl ⟨rfl, hx⟩
    | some y =>
      rw [hlk] at hx
      simp only [] at hx
      subst hx
      obtain ⟨e, ys, lv, d, v, h1, h2⟩ := hp _ (lookP_mem hlk)
      rcases h2 with ⟨h2, _⟩ | h2 | h2
      · cases h2
      · cases h2; exact Or.inr ⟨e, ys, lv, d, v, false, d, h1, rfl, rfl, Or.inl rfl⟩
      · cases h2; exact Or.inr ⟨e, ys, lv, d, v, lv, !e.deep, h1, rfl, rfl, Or.inr ⟨rfl, rfl⟩⟩
  have hrowc : ∀ o e (ys : List e.den) lv d v, X.ob o = some (.arr e ys lv d v) → lookP p o ≠ some none → ∀ i (hi : i < ys.length) c e' zs, cellSl e ys[i] c e' zs →
      ∀ b k cap w, X.loc o = .arr (some ⟨b, k, none⟩) cap → X.W.cell? ⟨b, k + i * e.cells + c, none⟩ = some w → X'.W.cell? ⟨b, k + i * e.cells + c, none⟩ = some w := by
    intro o e ys lv d v ho hlk i hi c e' zs hc b k cap w hloc hw
    refine hcell _ _ _ (fun hm => ?_) hw
    obtain ⟨a1, cap1, q1, q2, q3⟩ := (I.obs o _ ((I.ob o).symm.trans ho)).rows
    rw [hloc] at q1
    cases q1
    obtain ⟨b2, k2, cs, hbk, hrep, hat⟩ := q3 i hi
    cases hbk
    have hc' := cellSl_lt hc
    have hlen := hrep.len
    obtain ⟨hz, _⟩ := hat c _ (List.getElem?_eq_getElem (by omega))
    rcases hz with hz | ⟨o1, m1, ho1, hz⟩
    · exact hM0 _ _ _ hz hw hm
    · simp only [List.mem_singleton] at ho1; subst ho1
      exact hM1 _ _ _ _ hz (Or.inr hlk) hm
  have K : Keeps X X' D := by
    refine ⟨fun b k v hz hv => ⟨by rw [hown b k (hM0 b k v hz hv)]; exact ownP_none hz, hcell b k v (hM0 b k v hz hv) hv⟩, fun o e ys lv d ver ho hd => ?_, fun o cs ho hd => ?_, fun o e ys lv d ver ho hd => ?_⟩
    · have hon := hne o hd
      refine (hold o _ hon ho).elim (fun h => ⟨ys, lv, d, ver, h.2, by simp only [X']; rw [if_neg hon], rfl⟩) ?_
      rintro ⟨e', ys', lv0, d0, v0, lv', d', h1, h2, _⟩
      cases h2
      exact ⟨ys, lv0, d0, ver, h1, by simp only [X']; rw [if_neg hon], rfl⟩
    · have hon := hne o hd
      refine (hold o _ hon ho).elim (fun h => ⟨cs, h.2, by simp only [X']; rw [if_neg hon]⟩) ?_
      rintro ⟨e', ys', lv0, d0, v0, lv', d', h1, h2, _⟩
      cases h2
    · have hon : o ≠ nx := by
        rintro rfl
        simp only [X', if_true] at ho
        cases ho
        exact hn hd
      have hz : ∀ b k v, X.own b k = some (o, false) → X.W.cell? ⟨b, k, none⟩ = some v → (X'.own b k = none ∨ X'.own b k = some (o, false)) ∧ X'.W.cell? ⟨b, k, none⟩ = some v := by
        intro b k v hz hv
        have hm := hM1 b k o false hz (Or.inl rfl)
        refine ⟨?_, hcell b k v hm hv⟩
        rw [hown b k hm]
        unfold ownP gPut
        rw [hz]
        simp only []
        rcases hold o _ hon ho with h | ⟨e', ys', lv0, d0, v0, lv', d', h1, h2, h3, h4⟩
        · rw [h.1]; exact Or.inr rfl
        · rw [h3]
          cases h2
          cases lv <;> simp
      have hlk : lookP p o ≠ some none := by
        rcases hold o _ hon ho with h | ⟨e', ys', lv0, d0, v0, lv', d', h1, h2, h3, h4⟩
        · rw [h.1]; simp
        · rw [h3]; simp
      rcases hold o _ hon ho with h | ⟨e', ys', lv0, d0, v0, lv', d', h1, h2, h3, h4⟩
      · have := h.2
        exact ⟨ys, lv, d, h.2, by simp only [X']; rw [if_neg hon], hz, fun i hi c e' zs hc => ⟨⟨hi, hc⟩, hrowc o _ _ _ _ _ (by assumption) hlk i hi c e' zs hc⟩⟩
      · cases h2
        exact ⟨ys, lv0, d0, h1, by simp only [X']; rw [if_neg hon], hz, fun i hi c e' zs hc => ⟨⟨hi, hc⟩, hrowc o _ _ _ _ _ (by assumption) hlk i hi c e' zs hc⟩⟩
  have hF : Frm E.R0 E.W0 W1 := by
    have hR : ∀ b k, M b k → E.W0.heap.size ≤ b ∨ E.R0 b k := fun b k hm => by
      rcases hM b k hm with h | ⟨o, _, h⟩
      · exact Or.inl (Nat.le_trans I.fr.size h)
      · exact (I.dom b k o true h).2.1
    refine ⟨F.os.trans I.fr.os, F.tape.trans I.fr.tape, F.output.trans I.fr.output, Nat.le_trans I.fr.size F.size, fun b hb hk => ?_, fun b k v hk hv => ?_, fun b k hb hk => ?_⟩
    · exact (F.block b (Nat.lt_of_lt_of_le hb I.fr.size) fun k hm => (hR b k hm).elim (fun h => by omega) (hk k)).trans (I.fr.block b hb hk)
    · exact F.cell b k v (fun hm => (hR b k hm).elim (fun h => by have := cell_lt hv; omega) hk) (I.fr.cell b k v hk hv)
    · exact (F.frozen b k (Nat.lt_of_lt_of_le hb I.fr.size) fun hm => (hR b k hm).elim (fun h => by omega) hk).trans (I.fr.frozen b k hb hk)
  -- cells of an object that puts do not name stay its own
  have hkeep : ∀ o, lookP p o = none → ∀ b k m, X.own b k = some (o, m) → X'.own b k = some (o, m) ∧ X'.W.frozen? ⟨b, k, none⟩ = X.W.frozen? ⟨b, k, none⟩ ∧ ∀ v, X.W.cell? ⟨b, k, none⟩ = some v → X'.W.cell? ⟨b, k, none⟩ = some v := by
    intro o ho b k m hw
    have hb := (I.dom b k o m hw).1
    have hm := hM1 b k o m hw (Or.inr (by rw [ho]; simp))
    refine ⟨?_, F.frozen b k hb hm, fun v => hcell b k v hm⟩
    rw [hown b k hm]; unfold ownP gPut; rw [hw]; simp only [ho]
  refine ⟨X', fun o n => D o n ∨ (o = nx ∧ n = 0), rfl, ⟨fun o => (hob o).symm, fun b k o m ho => ?_, hF, fun q hq => ⟨by simp only [X']; rw [if_neg (hne q (I.pin q hq).2)]; exact (I.pin q hq).1, Or.inl (I.pin q hq).2⟩,
    I.tmps.keeps K I.okt, fun o x hx => ?_, I.okt.mono (fun _ _ h => Or.inl h), fun o x hx => ?_, fun o x hx => ?_, fun o e ys lv d ver hx => ?_, fun o ho => ?_, fun o v hv => hv.imp (I.dknown o v) fun h => ⟨h.1, rfl⟩, fun o e ys lv d ver hx v hv => ?_⟩, ?_, Or.inr ⟨rfl, rfl⟩, fun _ _ h => Or.inl h, Nat.le_succ _, fun o ho => ?_⟩
  · show b < W1.heap.size ∧ _
    have ho' : own' b k = some (o, m) := ho
    have hsz := F.size
    simp only [own'] at ho'
    split at ho'
    · rename_i hb
      cases ho'
      refine ⟨hlt b k hb, ?_, .arr et xs true dp 0, by rw [hob]; simp only [X']; exact if_pos trivial⟩
      rcases hM b k hb with h | ⟨o, _, h⟩
      · exact Or.inl (Nat.le_trans I.fr.size h)
      · exact (I.dom b k o true h).2.1
    · unfold ownP gPut at ho'
      cases hw : X.own b k with
      | none => rw [hw] at ho'; cases ho'
      | some q =>
        obtain ⟨o1, m1⟩ := q
        rw [hw] at ho'
        simp only [] at ho'
        obtain ⟨h1, h2, x, h3⟩ := I.dom b k o1 m1 hw
        refine ⟨by omega, h2, ?_⟩
        cases hlk : lookP p o1 with
        | none =>
          rw [hlk] at ho'
          cases ho'
          refine ⟨x, ?_⟩
          rw [hob]; simp only [X']; rw [if_neg (hne _ (I.dob _ _ h3)), hlk, I.ob]; exact h3
        | some y =>
          rw [hlk] at ho'
          obtain ⟨e, ys, lv, d, v, q1, q2⟩ := hp _ (lookP_mem hlk)
          cases y with
          | none =>
            have ho' : tkOf nx dp = some (o, m) := ho'
            unfold tkOf at ho'
            split at ho'
            · cases ho'
              exact ⟨_, by rw [hob]; simp [X']; rfl⟩
            · cases ho'
          | some z =>
            cases z with
            | box _ => rcases q2 with ⟨q2, _⟩ | q2 | q2 <;> cases q2
            | arr e2 ys2 lv2 d2 v2 =>
              cases lv2 with
              | false => cases ho'
              | true =>
                cases m1 with
                | false => cases ho'
                | true =>
                  cases ho'
                  refine ⟨.arr e2 ys2 true d2 v2, ?_⟩
                  rw [hob]; simp only [X']; rw [if_neg (hne _ (I.dob _ _ h3)), hlk]
  · rw [hob] at hx
    by_cases hon : o = nx
    · subst hon
      simp only [X', if_true] at hx
      cases hx
      refine ⟨a, cap, by simp [X'], hl, hr.imp id ?_⟩
      rintro ⟨b, k, row, rfl, r1, r2, r3, r4⟩
      refine ⟨b, k, rfl, fun _ => ⟨fun j hj => ?_, r2⟩, ?_⟩
      · show own' _ _ = _
        simp only [own']
        exact if_pos (r1 j hj)
      · unfold NewRows at r4
        cases dp with
        | true =>
          obtain ⟨ZR, q1, q2, q3⟩ := r4
          have hzr : ∀ i b k, ZR i b k → X'.own b k = some (o, false) := by
            intro i b k hz
            obtain ⟨⟨o1, m1, h1, h2⟩, hm⟩ := q1 i b k hz
            rw [hown b k hm]
            unfold ownP gPut
            rw [h2]
            simp only [look_taken hnd (mem_taken.1 h1), tkOf, if_true]
          refine ⟨ZR, hzr, q2, fun i hi => ⟨_, (q3 i hi).mono (fun _ _ h => h) (fun b k v hz hv => hcell b k v (q1 i b k hz).2 hv) (fun b k hz hf => ?_), r3 i hi⟩⟩
          obtain ⟨⟨o1, m1, h1, h2⟩, hm⟩ := q1 i b k hz
          exact (F.frozen b k (I.dom b k o1 m1 h2).1 hm).trans hf
        | false =>
          intro i hi
          refine ⟨_, (r4 i hi).mono fun b k v hz hv => ⟨Or.inl ?_, hcell b k v hz.2 hv⟩, r3 i hi⟩
          rw [hown b k hz.2]; exact hz.1
    · rcases hold o x hon hx with h | ⟨e, ys, lv, d, v, lv', d', h1, rfl, h3, h4⟩
      · exact (I.obs o x ((I.ob o).symm.trans h.2)).keeps K (by simp only [X']; rw [if_neg hon]) (I.oko o x ((I.ob o).symm.trans h.2)) (hkeep o h.1)
      · have hob0 := I.obs o _ ((I.ob o).symm.trans h1)
        have hloc : X'.loc o = X.loc o := by simp only [X']; rw [if_neg hon]
        cases lv' with
        | false =>
          -- published
          obtain ⟨a, cap0, q1, q2, q3⟩ := hob0.rows
          have hz : ∀ b k w, zoneIds X.own [o] b k → X.W.cell? ⟨b, k, none⟩ = some w → zoneOf X'.own none b k ∧ X'.W.cell? ⟨b, k, none⟩ = some w := by
            intro b k w hz hw
            have hm : ¬ M b k := by
              rcases hz with hz | ⟨o1, m1, ho1, hz⟩
              · exact hM0 b k w hz hw
              · simp only [List.mem_singleton] at ho1; subst ho1
                exact hM1 b k _ _ hz (Or.inr (by rw [h3]; simp))
            refine ⟨Or.inl ?_, hcell b k w hm hw⟩
            rw [hown b k hm]
            rcases hz with hz | ⟨o1, m1, ho1, hz⟩
            · exact ownP_none hz
            · simp at ho1; subst ho1
              unfold ownP gPut; rw [hz]; simp only [h3]
          obtain ⟨a', cap', p1, p2, p3⟩ := hob0
          rw [q1] at p1
          cases p1
          refine ⟨a, cap0, hloc.trans q1, q2, p3.imp id ?_⟩
          rintro ⟨b, k, rfl, _, _⟩
          refine ⟨b, k, rfl, fun h => (by cases h), fun i hi => ?_⟩
          obtain ⟨b2, k2, cs, hbk, hrep, hat⟩ := q3 i hi
          cases hbk
          exact ⟨cs, hrep.mono hz, hat.mono hz⟩
        | true =>
          rcases h4 with h4 | ⟨rfl, rfl⟩
          · cases h4
          -- its own arrays are published
          have hmain : ∀ b k, X.own b k = some (o, true) → X'.own b k = some (o, true) := by
            intro b k hw
            rw [hown b k (hM1 b k o true hw (Or.inr (by rw [h3]; simp)))]; unfold ownP gPut; rw [hw]; simp only [h3]; rfl
          have hnest : ∀ b k, X.own b k = some (o, false) → X'.own b k = none := by
            intro b k hw
            rw [hown b k (hM1 b k o false hw (Or.inr (by rw [h3]; simp)))]; unfold ownP gPut; rw [hw]; simp only [h3]; rfl
          obtain ⟨a, cap0, q1, q2, q3⟩ := hob0
          refine ⟨a, cap0, hloc.trans q1, q2, q3.imp id ?_⟩
          rintro ⟨b, k, rfl, hm, hrw⟩
          obtain ⟨hm1, hm2⟩ := hm rfl
          have hnm : ∀ b k m, X.own b k = some (o, m) → ¬ M b k := fun b k m hw => hM1 b k o m hw (Or.inr (by rw [h3]; simp))
          refine ⟨b, k, rfl, fun _ => ⟨fun j hj => hmain _ _ (hm1 j hj), fun j hj => ?_⟩, ?_⟩
          · obtain ⟨⟨w, hw⟩, hf⟩ := hm2 j hj
            exact ⟨⟨w, hcell _ _ _ (hnm _ _ _ (hm1 j hj)) hw⟩, (F.frozen _ _ (cell_lt hw) (hnm _ _ _ (hm1 j hj))).trans hf⟩
          · have hcl : ∀ i, i < ys.length → ∀ cs : List Value, cs.length = e.cells → ∀ (j : Nat) (v : Value), cs[j]? = some v → ¬ M b (k + i * e.cells + j) := by
              intro i hi cs hcs j v hj
              have hj' := (List.getElem?_eq_some_iff.1 hj).1
              have := hm1 _ (row_lt hi q2 (show j < e.cells by omega))
              rw [← Nat.add_assoc] at this
              exact hnm _ _ _ this
            have hrep : ∀ i (hi : i < ys.length), ∃ cs, Rep (zoneOf X'.own none) X'.W e ys[i] cs ∧ ∀ j v, cs[j]? = some v → X'.W.cell? ⟨b, k + i * e.cells + j, none⟩ = some v := by
              intro i hi
              cases d with
              | true =>
                obtain ⟨ZR, r1, _, r3⟩ := hrw
                obtain ⟨cs, w1, w2⟩ := r3 i hi
                exact ⟨cs, w1.rep.mono fun b' k' v hz hv => ⟨Or.inl (hnest _ _ (r1 i b' k' hz)), hcell _ _ _ (hnm _ _ _ (r1 i b' k' hz)) hv⟩, fun j v hj => hcell _ _ _ (hcl i hi cs w1.len j v hj) (w2 j v hj)⟩
              | false =>
                obtain ⟨cs, w1, w2⟩ := hrw i hi
                refine ⟨cs, w1.mono fun b' k' v hz hv => ?_, fun j v hj => hcell _ _ _ (hcl i hi cs w1.len j v hj) (w2 j v hj)⟩
                rcases hz with hz | ⟨q, hq, _⟩
                · exact ⟨Or.inl (by rw [hown _ _ (hM0 _ _ _ hz hv)]; exact ownP_none hz), hcell _ _ _ (hM0 _ _ _ hz hv) hv⟩
                · cases hq
            cases hed : e.deep with
            | true => exact hrep
            | false =>
              refine ⟨fun _ _ _ => False, fun _ _ _ h => h.elim, fun _ _ _ _ h => h.elim, fun i hi => ?_⟩
              obtain ⟨cs, w1, w2⟩ := hrep i hi
              exact ⟨cs, Own.flat hed w1, w2⟩
  · rw [hob] at hx
    by_cases hon : o = nx
    · subst hon; simp only [X', if_true] at hx; cases hx; trivial
    · rcases hold o x hon hx with h | ⟨e, ys, lv, d, v, lv', d', h1, rfl, _⟩
      · have := I.oko o x ((I.ob o).symm.trans h.2)
        cases x with
        | box cs => exact okL.mono (fun _ _ h => Or.inl h) (by exact this)
        | arr => trivial
      · trivial
  · rw [hob] at hx
    by_cases hon : o = nx
    · exact Or.inr ⟨hon, rfl⟩
    · rcases hold o x hon hx with h | ⟨e, ys, lv, d, v, lv', d', h1, rfl, _⟩
      · exact Or.inl (I.dob o x ((I.ob o).symm.trans h.2))
      · exact Or.inl (I.dob o _ ((I.ob o).symm.trans h1))
  · rw [hob] at hx
    by_cases hon : o = nx
    · subst hon; simp only [X', if_true] at hx; cases hx; exact Or.inr ⟨rfl, rfl⟩
    · rcases hold o _ hon hx with h | ⟨e', ys', lv', d', v, lv2, d2, h1, h2, _⟩
      · exact Or.inl (I.dcur _ _ _ _ _ _ ((I.ob o).symm.trans h.2))
      · cases h2; exact Or.inl (I.dcur _ _ _ _ _ _ ((I.ob o).symm.trans h1))
  · have hl := puts_len ((nx, some (.arr et xs true dp 0)) :: p) S
    rcases ho with ho | ⟨rfl, _⟩
    · exact Nat.lt_of_lt_of_le (I.dlen o ho) hl.1
    · exact hl.2 _ (List.mem_cons_self ..)
  · rw [hob] at hx
    by_cases hon : o = nx
    · subst hon
      simp only [X', if_true] at hx
      cases hx
      rcases hv with hv | ⟨_, rfl⟩
      · exact absurd (I.dknown _ _ hv) hn
      · exact Nat.le_refl _
    · rcases hv with hv | ⟨hv, _⟩
      · rcases hold o _ hon hx with h | ⟨e', ys', lv', d', v, lv2, d2, h1, h2, _⟩
        · exact I.dver _ _ _ _ _ _ ((I.ob o).symm.trans h.2) _ hv
        · cases h2; exact I.dver _ _ _ _ _ _ ((I.ob o).symm.trans h1) _ hv
      · exact absurd hv hon
  · exact ⟨⟨_, _, _, rfl⟩, fun e ys lv d ver ho => by
      simp only [X', if_true] at ho
      cases ho
      exact ⟨a, cap, by simp [X'], rfl⟩⟩
  · exact ho.imp id fun h => by have := h.1; simp only []; omega
end
end Go.Evr

namespace Go.Evr
section
variable {C : Ctx} {P : Program}
variable {X : Cx} {D : Nat → Nat → Prop} {E : Env} {S : St} {tm : List Value} {nx : Nat} {o : Oper} {l : List Nat} {e : Eff}

theorem own_zero {W : World} : ∀ {u : Ty} {Z : Zone}, Own Z W u u.zero (zeroV u)
  | .int _, _ => rfl
  | .bool, _ => rfl
  | .str, _ => rfl
  | .sl _, _ => ⟨none, 0, rfl, Nat.le_refl _, Or.inl rfl⟩
  | .unit, _ => rfl
  | .pair _ _, _ => ⟨_, _, rfl, fun _ _ => False, fun _ _ => False, fun _ _ h => h.elim, fun _ _ h => h.elim, fun _ _ h => h.elim, own_zero, own_zero⟩
  | .st t, _ => own_zero (u := t)
  | .ref, _ => ⟨rfl, by simp [zeroV, Value.oneCell']⟩

/-- The zero value's cells stand for the zero datum. -/
theorem zero_own {u : Ty} {z : Value} {Z : Zone} {W : World} (h : ZeroOk u z) (hd : ∃ t, DescOk C P t u) : Own Z W u u.zero z.cells.toList := by
  obtain ⟨t, hd⟩ := hd
  cases u with
  | int k => cases h; rfl
  | bool => cases h; rfl
  | str => cases h; rfl
  | sl e => cases h; exact own_zero (u := .sl e)
  | unit => exact hd.elim
  | pair _ _ => exact hd.elim
  | st w => cases h; exact own_zero (u := .st w)
  | ref => rcases h with rfl | rfl <;> exact ⟨rfl, by simp [Value.cells, Value.oneCell']⟩

/-- Where what a slice's value shows may lie. -/
def zoneFV (own : Nat → Nat → Option (Nat × Bool)) : FV → Zone
  | .isl t _ _ => zoneOf own t
  | .fsl o => zoneIds own [o]
  | .osl o _ _ => zoneIds own [o]
  | _ => zoneIds own []

theorem readSl_zone (OB : ∀ o x, X.ob o = some x → ObRel X o x) {e : Ty} {f : FV} {v : Value} {l : List Nat} {xs : List e.den}
    (hr : readSl e f X.ob = some (l, xs)) (hv : VRel X f v) : Rep (zoneFV X.own f) X.W (.sl e) xs [v] := by
  have h0 := readSl_rep OB hr hv
  cases f with
  | isl t e' ys =>
    cases t with
    | none =>
      obtain ⟨z, hz, hh⟩ := Rd.of_some hr
      cases hh
      obtain ⟨rfl, hq⟩ := castSl hz
      cases hq
      exact hv.2.1 trivial
    | some q =>
      obtain ⟨l1, _, l2, z, h1, h2, he⟩ := Rd.bind_some hr
      cases he
      obtain ⟨hl, hl1⟩ := tagOk_some h1
      obtain ⟨z', hz, hh⟩ := Rd.of_some h2
      cases hh
      obtain ⟨rfl, hq⟩ := castSl hz
      cases hq
      exact hv.2.1 hl
  | nsl => cases hr; exact h0
  | fsl p =>
    obtain ⟨l1, x, l2, z, h1, h2, he⟩ := Rd.bind_some hr
    obtain ⟨y, hy, hh⟩ := Rd.look_some h1
    cases hh
    cases x with
    | box _ => cases h2
    | arr e' ys lv d ver =>
      obtain ⟨z', hz, hh⟩ := Rd.of_some h2
      cases hh
      cases he
      exact h0
  | osl p lo n =>
    obtain ⟨l1, x, l2, z, h1, h2, he⟩ := Rd.bind_some hr
    obtain ⟨y, hy, hh⟩ := Rd.look_some h1
    cases hh
    cases x with
    | box _ => cases h2
    | arr e' ys lv d ver =>
      obtain ⟨z', hz, hh⟩ := Rd.of_some h2
      cases hh
      cases he
      exact h0
  | bad => cases hr
  | int _ _ => cases hr
  | bool _ => cases hr
  | str _ => cases hr
  | ptr _ _ => cases hr
  | ept _ _ _ => cases hr
  | vpt _ _ => cases hr
  | clo _ _ _ => cases hr
  | nilp => cases hr
  | agg _ => cases hr
  | tup _ => cases hr
  | nilb _ => cases hr

/-- Data out of cells, with a zone that holds what the cells show. -/
theorem implode_gen (OB : ∀ o x, X.ob o = some x → ObRel X o x) {Z : Zone} : ∀ {t : Ty} {cs : List FV} {us : List Value} {l : List Nat} {x : t.den} {rest : List FV},
    implode t cs X.ob = some (l, (x, rest)) → LRel X cs us → (∀ c ∈ cs, ∀ b k v, zoneFV X.own c b k → X.W.cell? ⟨b, k, none⟩ = some v → Z b k) → ∃ u1 u2, us = u1 ++ u2 ∧ Rep Z X.W t x u1 ∧ LRel X rest u2 ∧ ∀ c ∈ rest, c ∈ cs := by
  intro t
  induction t with
  | int k =>
    intro cs us l x rest h hr hZ
    match cs, h with
    | c :: cs, h =>
      obtain ⟨v, us', rfl, hv, hr⟩ := hr
      cases c with
      | int k' n =>
        simp only [implode] at h
        split at h
        · rename_i hk; subst hk; cases h; exact ⟨[v], us', rfl, by cases hv; rfl, hr, fun c hc => List.mem_cons_of_mem _ hc⟩
        · cases h
      | _ => cases h
    | [], h => cases h
  | bool =>
    intro cs us l x rest h hr hZ
    match cs, h with
    | c :: cs, h =>
      obtain ⟨v, us', rfl, hv, hr⟩ := hr
      cases c with
      | bool n => cases h; exact ⟨[v], us', rfl, by cases hv; rfl, hr, fun c hc => List.mem_cons_of_mem _ hc⟩
      | _ => cases h
    | [], h => cases h
  | str =>
    intro cs us l x rest h hr hZ
    match cs, h with
    | c :: cs, h =>
      obtain ⟨v, us', rfl, hv, hr⟩ := hr
      cases c with
      | str n => cases h; exact ⟨[v], us', rfl, by cases hv; rfl, hr, fun c hc => List.mem_cons_of_mem _ hc⟩
      | _ => cases h
    | [], h => cases h
  | sl e =>
    intro cs us l x rest h hr hZ
    match cs, h with
    | c :: cs, h =>
      obtain ⟨v, us', rfl, hv, hr⟩ := hr
      obtain ⟨l1, xs, l2, z, h1, h2, he⟩ := Rd.bind_some h
      cases h2
      simp only [List.append_nil, Prod.mk.injEq] at he
      obtain ⟨rfl, rfl, rfl⟩ := he
      exact ⟨[v], us', rfl, (readSl_zone OB h1 hv).mono fun b k v hz hv => ⟨hZ c (List.mem_cons_self ..) b k v hz hv, hv⟩, hr, fun c hc => List.mem_cons_of_mem _ hc⟩
    | [], h => cases h
  | unit =>
    intro cs us l x rest h hr hZ
    cases h
    exact ⟨[], us, rfl, rfl, hr, fun c hc => hc⟩
  | pair a b iha ihb =>
    intro cs us l x rest h hr hZ
    simp only [implode] at h
    obtain ⟨l1, xa, l2, z, h1, h2, he⟩ := Rd.bind_some h
    obtain ⟨l3, xb, l4, z', h3, h4, he'⟩ := Rd.bind_some h2
    cases h4
    cases he'
    simp only [List.append_nil, Prod.mk.injEq] at he
    obtain ⟨rfl, rfl, rfl⟩ := he
    obtain ⟨u1, u2, rfl, r1, r2, r5⟩ := iha (x := xa.1) (rest := xa.2) h1 hr hZ
    obtain ⟨u3, u4, rfl, r3, r4, r6⟩ := ihb (x := xb.1) (rest := xb.2) h3 r2 fun c hc => hZ c (r5 c hc)
    exact ⟨u1 ++ u3, u4, by simp, ⟨u1, u3, rfl, r1, r3⟩, r4, fun c hc => r5 c (r6 c hc)⟩
  | st t ih =>
    intro cs us l x rest h hr hZ
    exact ih (x := x) h hr hZ
  | ref =>
    intro cs us l x rest h hr hZ
    cases cs <;> cases h

/-- Puts that free what a cell shows. -/
def Frees (p : Puts) : FV → Prop
  | .isl (some (o, _)) _ _ => ∃ e xs lv d v, (o.1, some (.arr e xs lv d v)) ∈ p
  | .fsl o => ∃ e xs d v, (o, some (.arr e xs false d v)) ∈ p
  | .osl o _ _ => ∃ e xs d v, (o, some (.arr e xs false d v)) ∈ p
  | _ => True

theorem Frees.mono {p q : Puts} (h : ∀ r ∈ p, r ∈ q) {c : FV} (hc : Frees p c) : Frees q c := by
  cases c with
  | isl t e xs =>
    cases t with
    | none => trivial
    | some t => obtain ⟨a, b, c, d, v, hh⟩ := hc; exact ⟨a, b, c, d, v, h _ hh⟩
  | fsl o => obtain ⟨a, b, c, d, hh⟩ := hc; exact ⟨a, b, c, d, h _ hh⟩
  | osl o _ _ => obtain ⟨a, b, c, d, hh⟩ := hc; exact ⟨a, b, c, d, h _ hh⟩
  | _ => trivial

theorem MoveOk.nil : MoveOk X [] := fun _ h => by cases h
theorem MoveOk.append {p q : Puts} (h : MoveOk X p) (k : MoveOk X q) : MoveOk X (p ++ q) := fun r hr => (List.mem_append.1 hr).elim (h r) (k r)

theorem publish_ok : ∀ {cs : List FV} {l : List Nat} {p : Puts}, publish cs X.ob = some (l, p) → MoveOk X p ∧ ∀ c ∈ cs, Frees p c
  | [], l, p, h => by cases h; exact ⟨MoveOk.nil, fun _ h => by cases h⟩
  | c :: cs, l, p, h => by
    obtain ⟨l1, q, l2, z, h1, h2, he⟩ := Rd.bind_some h
    cases he
    obtain ⟨m1, m2⟩ := publish_ok h1
    have hin : ∀ (r : Nat × Option Ob), ∀ c ∈ cs, Frees (r :: q) c := fun r c hc => (m2 c hc).mono fun x hx => List.mem_cons_of_mem _ hx
    have hmv : ∀ (o : Nat) (e : Ty) (xs : List e.den) lv d v (y : Option Ob), X.ob o = some (.arr e xs lv d v) → (y = some (.arr e xs false d v) ∨ y = some (.arr e xs lv (!e.deep) v)) → MoveOk X ((o, y) :: q) := by
      intro o e xs lv d v y h1 h2 r hr
      rcases List.mem_cons.1 hr with rfl | hr
      · exact ⟨e, xs, lv, d, v, h1, h2.elim (fun h => Or.inr (Or.inl h)) fun h => Or.inr (Or.inr h)⟩
      · exact m1 r hr
    cases c with
    | isl t e xs =>
      cases t with
      | none => cases h2; exact ⟨m1, fun c hc => (List.mem_cons.1 hc).elim (fun h => h ▸ trivial) (m2 c)⟩
      | some t =>
        obtain ⟨t, tp⟩ := t
        obtain ⟨l3, x, l4, z', h3, h4, he'⟩ := Rd.bind_some h2
        obtain ⟨y, hy, hh⟩ := Rd.look_some h3
        cases hh
        cases he'
        cases x with
        | box _ => cases h4
        | arr e' ys lv d ver =>
          cases h4
          exact ⟨hmv _ _ _ _ _ _ _ hy (Or.inr rfl), fun c hc => (List.mem_cons.1 hc).elim (fun h => h ▸ ⟨_, _, _, _, _, List.mem_cons_self ..⟩) (hin _ c)⟩
    | fsl p =>
      obtain ⟨l3, x, l4, z', h3, h4, he'⟩ := Rd.bind_some h2
      obtain ⟨y, hy, hh⟩ := Rd.look_some h3
      cases hh
      cases he'
      cases x with
      | box _ => cases h4
      | arr e' ys lv d ver =>
        cases h4
        exact ⟨hmv _ _ _ _ _ _ _ hy (Or.inl rfl), fun c hc => (List.mem_cons.1 hc).elim (fun h => h ▸ ⟨_, _, _, _, List.mem_cons_self ..⟩) (hin _ c)⟩
    | osl p _ _ =>
      obtain ⟨l3, x, l4, z', h3, h4, he'⟩ := Rd.bind_some h2
      obtain ⟨y, hy, hh⟩ := Rd.look_some h3
      cases hh
      cases he'
      cases x with
      | box _ => cases h4
      | arr e' ys lv d ver =>
        cases h4
        exact ⟨hmv _ _ _ _ _ _ _ hy (Or.inl rfl), fun c hc => (List.mem_cons.1 hc).elim (fun h => h ▸ ⟨_, _, _, _, List.mem_cons_self ..⟩) (hin _ c)⟩
    | bad => cases h2; exact ⟨m1, fun c hc => (List.mem_cons.1 hc).elim (fun h => h ▸ trivial) (m2 c)⟩
    | int _ _ => cases h2; exact ⟨m1, fun c hc => (List.mem_cons.1 hc).elim (fun h => h ▸ trivial) (m2 c)⟩
    | bool _ => cases h2; exact ⟨m1, fun c hc => (List.mem_cons.1 hc).elim (fun h => h ▸ trivial) (m2 c)⟩
    | str _ => cases h2; exact ⟨m1, fun c hc => (List.mem_cons.1 hc).elim (fun h => h ▸ trivial) (m2 c)⟩
    | nsl => cases h2; exact ⟨m1, fun c hc => (List.mem_cons.1 hc).elim (fun h => h ▸ trivial) (m2 c)⟩
    | ptr _ _ => cases h2; exact ⟨m1, fun c hc => (List.mem_cons.1 hc).elim (fun h => h ▸ trivial) (m2 c)⟩
    | ept _ _ _ => cases h2; exact ⟨m1, fun c hc => (List.mem_cons.1 hc).elim (fun h => h ▸ trivial) (m2 c)⟩
    | vpt _ _ => cases h2; exact ⟨m1, fun c hc => (List.mem_cons.1 hc).elim (fun h => h ▸ trivial) (m2 c)⟩
    | clo _ _ _ => cases h2; exact ⟨m1, fun c hc => (List.mem_cons.1 hc).elim (fun h => h ▸ trivial) (m2 c)⟩
    | nilp => cases h2; exact ⟨m1, fun c hc => (List.mem_cons.1 hc).elim (fun h => h ▸ trivial) (m2 c)⟩
    | agg _ => cases h2; exact ⟨m1, fun c hc => (List.mem_cons.1 hc).elim (fun h => h ▸ trivial) (m2 c)⟩
    | tup _ => cases h2; exact ⟨m1, fun c hc => (List.mem_cons.1 hc).elim (fun h => h ▸ trivial) (m2 c)⟩
    | nilb _ => cases h2; exact ⟨m1, fun c hc => (List.mem_cons.1 hc).elim (fun h => h ▸ trivial) (m2 c)⟩

/-- What puts free belongs to nobody behind them. -/
theorem frees_zone {p : Puts} {tk : Option (Nat × Bool)} (hnd : (p.map (·.1)).Nodup) {c : FV} (hc : Frees p c) {b k : Nat} (hz : zoneFV X.own c b k) : ownP X.own p tk b k = none := by
  have hids : ∀ o, (∃ e xs d v, (o, some (Ob.arr e xs false d v)) ∈ p) → zoneIds X.own [o] b k → ownP X.own p tk b k = none := by
    rintro o ⟨e, xs, d, v, hm⟩ (hz | ⟨o', m, ho', hz⟩)
    · exact ownP_none hz
    · simp only [List.mem_singleton] at ho'; subst ho'
      unfold ownP gPut; rw [hz]; simp only [look_taken hnd hm]
  cases c with
  | isl t e xs =>
    rcases hz with hz | ⟨q, rfl, hz⟩
    · exact ownP_none hz
    · obtain ⟨e', xs', lv, d, v, hm⟩ := hc
      unfold ownP gPut; rw [hz]; simp only [look_taken hnd hm]
      cases lv <;> simp
  | fsl o => exact hids o hc hz
  | osl o _ _ => exact hids o hc hz
  | _ =>
    rcases hz with hz | ⟨o', m, ho', hz⟩
    · exact ownP_none hz
    · cases ho'

theorem taken_append (p q : Puts) : taken (p ++ q) = taken p ++ taken q := by simp [taken]
theorem taken_ids (l : List Nat) : taken (l.map fun o => (o, none)) = l := by
  induction l with
  | nil => rfl
  | cons a l ih => simpa [taken] using ih

theorem ownZ_taken {p : Puts} (hnd : (p.map (·.1)).Nodup) {b k : Nat} (h : ownZ X.own (taken p) b k) : ownP X.own p none b k = none := by
  obtain ⟨o, m, h1, h2⟩ := h
  unfold ownP gPut
  rw [h2]
  simp only [look_taken hnd (mem_taken.1 h1)]

/-- Cells that are new, or the first cells of objects that puts do not name. -/
structure Off (X : Cx) (M : Zone) (p : Puts) : Prop where
  dom : ∀ b k o m, X.own b k = some (o, m) → b < X.W.heap.size
  off : ∀ b k, M b k → X.W.heap.size ≤ b ∨ ∃ o, o ∉ p.map (·.1) ∧ X.own b k = some (o, true)

theorem Off.sub {M : Zone} {p q : Puts} (h : Off X M q) (hs : ∀ r ∈ p, r ∈ q) : Off X M p :=
  ⟨h.dom, fun b k hm => (h.off b k hm).imp id fun ⟨o, ho, hw⟩ => ⟨o, fun hi => ho (by
    obtain ⟨r, hr, rfl⟩ := List.mem_map.1 hi
    exact List.mem_map_of_mem (hs r hr)), hw⟩⟩

theorem Off.none {M : Zone} {p : Puts} (h : Off X M p) {b k : Nat} {v : Value} (hz : X.own b k = none) (hv : X.W.cell? ⟨b, k, none⟩ = some v) : ¬ M b k := fun hm => by
  rcases h.off b k hm with h | ⟨o, _, h⟩
  · have := cell_lt hv; omega
  · rw [hz] at h; cases h
theorem Off.some {M : Zone} {p : Puts} (h : Off X M p) {b k o : Nat} {m : Bool} (hz : X.own b k = some (o, m)) (ho : o ∈ p.map (·.1)) : ¬ M b k := fun hm => by
  rcases h.off b k hm with h' | ⟨o', ho', h'⟩
  · have := h.dom b k o m hz; omega
  · rw [hz] at h'; cases h'; exact ho' ho
theorem Off.taken {M : Zone} {p : Puts} (h : Off X M p) {b k : Nat} (hz : ownZ X.own (taken p) b k) : ¬ M b k := by
  obtain ⟨o, m, ho, hw⟩ := hz
  exact h.some hw (List.mem_map.2 ⟨_, mem_taken.1 ho, rfl⟩)

theorem Frees.key {p : Puts} {c : FV} (hc : Frees p c) {b k : Nat} (hz : zoneFV X.own c b k) : X.own b k = none ∨ ∃ o m, X.own b k = some (o, m) ∧ o ∈ p.map (·.1) := by
  have hids : ∀ o, (∃ e xs d v, (o, some (Ob.arr e xs false d v)) ∈ p) → zoneIds X.own [o] b k → X.own b k = none ∨ ∃ o m, X.own b k = some (o, m) ∧ o ∈ p.map (·.1) := by
    rintro o ⟨e, xs, d, v, hm⟩ (hz | ⟨o', m, ho', hz⟩)
    · exact Or.inl hz
    · simp only [List.mem_singleton] at ho'; subst ho'
      exact Or.inr ⟨_, m, hz, List.mem_map.2 ⟨_, hm, rfl⟩⟩
  cases c with
  | isl t e xs =>
    rcases hz with hz | ⟨q, rfl, hz⟩
    · exact Or.inl hz
    · obtain ⟨e', xs', lv, d, v, hm⟩ := hc
      exact Or.inr ⟨_, _, hz, List.mem_map.2 ⟨_, hm, rfl⟩⟩
  | fsl o => exact hids o hc hz
  | osl o _ _ => exact hids o hc hz
  | _ =>
    rcases hz with hz | ⟨o', m, ho', hz⟩
    · exact Or.inl hz
    · cases ho'

/-- What becomes of a row that is laid into a new array. -/
structure RowOk (X : Cx) (M : Zone) (t : Ty) (x : t.den) (dp : Bool) (p : Puts) (us : List Value) : Prop where
  mv : MoveOk X p
  own : dp = true → Own (fun b k => ownZ X.own (taken p) b k ∧ ¬ M b k) X.W t x us
  rep : ∀ P : Puts, (P.map (·.1)).Nodup → (∀ q ∈ p, q ∈ P) → Rep (fun b k => ownP X.own P none b k = none ∧ ¬ M b k) X.W t x us

theorem taken_sub {p P : Puts} (h : ∀ q ∈ p, q ∈ P) : ∀ o ∈ taken p, o ∈ taken P := fun o ho => mem_taken.2 (h _ (mem_taken.1 ho))

theorem RowOk.of_own {M : Zone} {t : Ty} {x : t.den} {p : Puts} {us : List Value} (hm : MoveOk X p) (ho : Off X M p) (h : Own (ownZ X.own (taken p)) X.W t x us) (dp : Bool) : RowOk X M t x dp p us :=
  ⟨hm, fun _ => h.mono (fun b k hz => ⟨hz, ho.taken hz⟩) (fun _ _ _ _ hv => hv) (fun _ _ _ hf => hf), fun P hnd hp => h.rep.zone fun b k hz => ⟨ownZ_taken hnd (ownZ.mono (taken_sub hp) b k hz), ho.taken hz⟩⟩
end
end Go.Evr

namespace Go.Evr
section
variable {C : Ctx} {P : Program}
variable {X : Cx} {D : Nat → Nat → Prop} {E : Env} {S : St} {tm : List Value} {nx : Nat} {o : Oper} {l : List Nat} {e : Eff}

theorem MoveOk.taken {ids : List Nat} (h : LiveD X ids) : MoveOk X (ids.map fun o => (o, none)) := by
  intro q hq
  obtain ⟨o, ho, rfl⟩ := List.mem_map.1 hq
  obtain ⟨e, xs, v, hx⟩ := h o ho
  exact ⟨e, xs, true, true, v, hx, Or.inl ⟨rfl, rfl⟩⟩

theorem rowIn_ok (OB : ∀ o x, X.ob o = some x → ObRel X o x) {t : Ty} {f : FV} {v : Value} {l : List Nat} {x : t.den} {dp : Bool} {p : Puts}
    {M : Zone} (h : rowIn t f X.ob = some (l, (x, dp, p))) (hv : VRel X f v) (hO : Off X M p) : RowOk X M t x dp p v.cells.toList := by
  unfold rowIn at h
  cases hc : f.cells? with
  | none => rw [hc] at h; cases h
  | some cs =>
    rw [hc] at h
    simp only [] at h
    cases hb : Nat.beq cs.length t.cells with
    | true =>
      have hl := Nat.eq_of_beq_eq_true hb
      rw [hb] at h
      have hr := cells_rel hc hv
      cases ho : ownAll X.ob cs with
      | true =>
        rw [ho] at h
        simp only [br] at h
        obtain ⟨l1, z, l2, z', h1, h2, he⟩ := Rd.bind_some h
        obtain ⟨⟨z1, z2⟩, rest⟩ := z
        simp only [] at h2
        split at h2
        · rename_i hn
          cases h2
          cases he
          obtain ⟨u1, u2, hu, q1, q2, q3⟩ := ownCells_own OB h1 hr (nodupB_iff.1 hn)
          have hlen := q1.len
          have hrl := hr.len
          have : u2 = [] := by
            rw [hu] at hrl
            simp only [List.length_append] at hrl
            exact List.length_eq_zero_iff.1 (by omega)
          subst this
          rw [hu, List.append_nil]
          exact RowOk.of_own (MoveOk.taken q3) hO (by rw [taken_ids]; exact q1) true
        · cases h2
      | false =>
        rw [ho] at h
        simp only [br] at h
        obtain ⟨l1, z, l2, z', h1, h2, he⟩ := Rd.bind_some h
        obtain ⟨l3, w, l4, w', h3, h4, he'⟩ := Rd.bind_some h2
        cases h4
        cases he'
        cases he
        obtain ⟨m1, m2⟩ := publish_ok h3
        refine ⟨m1, (fun h => by cases h), fun P hnd hp => ?_⟩
        obtain ⟨u1, u2, hu, q1, q2, _⟩ := implode_gen OB (x := z.1) (rest := z.2) (Z := fun b k => ownP X.own P none b k = none ∧ ¬ M b k) h1 hr fun c hc b k v hz hv' => ⟨frees_zone hnd ((m2 c hc).mono hp) hz, ((m2 c hc).key hz).elim (fun h => hO.none h hv') fun ⟨o, m, h, hi⟩ => hO.some h hi⟩
        have hlen := q1.len
        have hrl := hr.len
        have : u2 = [] := by
          rw [hu] at hrl
          simp only [List.length_append] at hrl
          exact List.length_eq_zero_iff.1 (by omega)
        subst this
        rw [hu, List.append_nil]; exact q1
    | false => rw [hb] at h; cases h

/-- What becomes of the rows of a new array. -/
structure RowsOk (X : Cx) (M : Zone) (t : Ty) (xs : List t.den) (dp : Bool) (p : Puts) (row : Nat → List Value) : Prop where
  mv : MoveOk X p
  own : dp = true → (p.map (·.1)).Nodup → ∃ ZR : Nat → Zone, (∀ i b k, ZR i b k → ownZ X.own (taken p) b k ∧ ¬ M b k) ∧ (∀ i j b k, ZR i b k → ZR j b k → i = j) ∧ ∀ i (h : i < xs.length), Own (ZR i) X.W t xs[i] (row i)
  rep : ∀ P : Puts, (P.map (·.1)).Nodup → (∀ q ∈ p, q ∈ P) → ∀ i (h : i < xs.length), Rep (fun b k => ownP X.own P none b k = none ∧ ¬ M b k) X.W t xs[i] (row i)

theorem RowsOk.nil {M : Zone} {t : Ty} {row : Nat → List Value} : RowsOk X M t [] true [] row :=
  ⟨MoveOk.nil, fun _ _ => ⟨fun _ _ _ => False, fun _ _ _ h => h.elim, fun _ _ _ _ h => h.elim, fun i h => absurd h (Nat.not_lt_zero i)⟩, fun _ _ _ i h => absurd h (Nat.not_lt_zero i)⟩

theorem RowsOk.one {M : Zone} {t : Ty} {x : t.den} {dp : Bool} {p : Puts} {us : List Value} (h : RowOk X M t x dp p us) : RowsOk X M t [x] dp p fun _ => us :=
  ⟨h.mv, fun hd _ => ⟨fun i b k => i = 0 ∧ ownZ X.own (taken p) b k ∧ ¬ M b k, fun _ _ _ h => h.2, fun i j b k h1 h2 => h1.1.trans h2.1.symm, fun i hi => by
    have : i = 0 := by simpa using hi
    subst this
    exact (h.own hd).mono (fun _ _ hz => ⟨rfl, hz⟩) (fun _ _ _ _ h => h) (fun _ _ _ h => h)⟩, fun P hn hs i hi => by
    have : i = 0 := by simpa using hi
    subst this
    exact h.rep P hn hs⟩

theorem RowsOk.append {M : Zone} {t : Ty} {xs ys : List t.den} {d1 d2 : Bool} {p q : Puts} {row row' : Nat → List Value}
    (h : RowsOk X M t xs d1 p row) (k : RowsOk X M t ys d2 q row') : RowsOk X M t (xs ++ ys) (d1 && d2) (p ++ q) fun i => if i < xs.length then row i else row' (i - xs.length) := by
  refine ⟨h.mv.append k.mv, fun hd hn => ?_, fun P hn hs i hi => ?_⟩
  · simp only [Bool.and_eq_true] at hd
    rw [List.map_append] at hn
    obtain ⟨n1, n2, n3⟩ := List.nodup_append.1 hn
    obtain ⟨Z1, a1, a2, a3⟩ := h.own hd.1 n1
    obtain ⟨Z2, b1, b2, b3⟩ := k.own hd.2 n2
    have key : ∀ b' k', ownZ X.own (taken p) b' k' → ownZ X.own (taken q) b' k' → False := by
      rintro b' k' ⟨o, m, ho, hw⟩ ⟨o', m', ho', hw'⟩
      rw [hw] at hw'
      cases hw'
      exact n3 o (List.mem_map.2 ⟨_, mem_taken.1 ho, rfl⟩) o (List.mem_map.2 ⟨_, mem_taken.1 ho', rfl⟩) rfl
    refine ⟨fun i b k => if i < xs.length then Z1 i b k else Z2 (i - xs.length) b k, fun i b k hz => ?_, fun i j b k hi hj => ?_, fun i hi => ?_⟩
    · rw [taken_append]
      simp only [] at hz
      split at hz
      · exact ⟨ownZ.mono (by simp +contextual) b k (a1 i b k hz).1, (a1 i b k hz).2⟩
      · exact ⟨ownZ.mono (by simp +contextual) b k (b1 _ b k hz).1, (b1 _ b k hz).2⟩
    · simp only [] at hi hj
      split at hi <;> split at hj
      · exact a2 i j b k hi hj
      · exact (key b k (a1 _ _ _ hi).1 (b1 _ _ _ hj).1).elim
      · exact (key b k (a1 _ _ _ hj).1 (b1 _ _ _ hi).1).elim
      · have := b2 _ _ _ _ hi hj; omega
    · simp only [List.length_append] at hi
      by_cases hlt : i < xs.length
      · simp only [if_pos hlt, List.getElem_append_left hlt]
        exact a3 i hlt
      · simp only [if_neg hlt, List.getElem_append_right (Nat.le_of_not_lt hlt)]
        exact b3 _ _
  · simp only [List.length_append] at hi
    by_cases hlt : i < xs.length
    · simp only [if_pos hlt, List.getElem_append_left hlt]
      exact h.rep P hn (fun r hr => hs r (List.mem_append_left _ hr)) i hlt
    · simp only [if_neg hlt, List.getElem_append_right (Nat.le_of_not_lt hlt)]
      exact k.rep P hn (fun r hr => hs r (List.mem_append_right _ hr)) _ _

theorem RowsOk.congr {M : Zone} {t : Ty} {xs : List t.den} {dp : Bool} {p : Puts} {row row' : Nat → List Value} (h : RowsOk X M t xs dp p row) (hr : ∀ i, i < xs.length → row' i = row i) : RowsOk X M t xs dp p row' :=
  ⟨h.mv, fun hd hn => by
    obtain ⟨Q, h1, h2, h3⟩ := h.own hd hn
    exact ⟨Q, h1, h2, fun i hi => by rw [hr i hi]; exact h3 i hi⟩, fun P hn hs i hi => by rw [hr i hi]; exact h.rep P hn hs i hi⟩

/-- The rows as an array wants them. -/
theorem RowsOk.new {M : Zone} {t : Ty} {xs : List t.den} {dp : Bool} {p : Puts} {row : Nat → List Value} (h : RowsOk X M t xs dp p row) (hn : (p.map (·.1)).Nodup) : NewRows X p M t xs dp row := by
  unfold NewRows
  cases dp with
  | true => exact h.own rfl hn
  | false => exact fun i hi => h.rep p hn (fun q hq => hq) i hi

theorem putsOk_iff {p : Puts} : putsOk p = true ↔ (p.map (·.1)).Nodup := nodupB_iff

/-! ### Parts laid into rows -/
def rowAt (m : Nat) (L : List Value) (i : Nat) : List Value := (L.drop (i * m)).take m

theorem mul_step {i j m : Nat} (h : i < j) : i * m + m ≤ j * m := by
  have := Nat.mul_le_mul_right m (show i + 1 ≤ j by omega)
  rw [Nat.add_mul] at this; omega

theorem rowAt_splice {L V : List Value} {n m i j : Nat} (hL : L.length = n * m) (hV : V.length = m) (hj : j < n) :
    rowAt m (L.take (j * m) ++ V ++ L.drop (j * m + m)) i = if i = j then V else rowAt m L i := by
  have hjn := mul_step (m := m) hj
  have hlt : (L.take (j * m)).length = j * m := by simp; omega
  unfold rowAt
  by_cases hij : i = j
  · subst hij
    rw [if_pos rfl, List.append_assoc, List.drop_append_of_le_length (by omega), List.drop_of_length_le (by omega), List.nil_append, List.take_append_of_le_length (by omega), List.take_of_length_le (by omega)]
  · rw [if_neg hij]
    by_cases hlt' : i < j
    · have := mul_step (m := m) hlt'
      apply List.ext_getElem?
      intro q
      rw [List.getElem?_take, List.getElem?_take]
      split
      · rename_i hq
        rw [List.getElem?_drop, List.getElem?_drop, List.append_assoc, List.getElem?_append_left (by omega), List.getElem?_take, if_pos (by omega)]
      · rfl
    · have := mul_step (m := m) (show j < i by omega)
      apply List.ext_getElem?
      intro q
      rw [List.getElem?_take, List.getElem?_take]
      split
      · rename_i hq
        rw [List.getElem?_drop, List.getElem?_drop, List.getElem?_append_right (by simp; omega), List.getElem?_drop]
        congr 1
        simp
        omega
      · rfl

theorem fill_rows {n m : Nat} : ∀ {vs : List (Nat × Value)} {L : List Value}, L.length = n * m → (∀ p ∈ vs, p.1 < n ∧ p.2.cells.size = m) → (vs.map (·.1)).Nodup →
    ∃ L', Instr.fill (fun i => some (i * m, m)) L.toArray vs = some L'.toArray ∧ L'.length = n * m ∧ ∀ i, rowAt m L' i = match vs.find? (fun p => p.1 == i) with | some p => p.2.cells.toList | none => rowAt m L i
  | [], L, hL, _, _ => ⟨L, rfl, hL, fun _ => rfl⟩
  | (j, v) :: vs, L, hL, hp, hnd => by
    obtain ⟨hj, hs⟩ := hp (j, v) (List.mem_cons_self ..)
    simp only [] at hj hs
    simp only [List.map_cons, List.nodup_cons] at hnd
    have hjn := mul_step (m := m) hj
    have hvl : v.cells.toList.length = m := by simpa using hs
    have hf := foldSet v.cells.toList (j * m) 0 L.toArray (by simp [hs]; omega)
    have hl2 : (L.take (j * m) ++ v.cells.toList ++ L.drop (j * m + m)).length = n * m := by simp [hs]; omega
    obtain ⟨L', h1, h2, h3⟩ := fill_rows (vs := vs) hl2 (fun p hp' => hp p (List.mem_cons_of_mem _ hp')) hnd.2
    refine ⟨L', ?_, h2, fun i => ?_⟩
    · simp only [Instr.fill]
      rw [if_neg (by simp [hs]; omega), ← h1]
      congr 1
      apply Array.ext'
      simp only [Nat.add_zero] at hf
      rw [hvl] at hf
      rw [← Array.foldl_toList, Array.toList_zipIdx]
      simpa using hf
    · rw [h3 i, List.find?_cons]
      by_cases hij : j = i
      · subst hij
        have : vs.find? (fun p => p.1 == j) = none := by
          rw [List.find?_eq_none]
          intro p hp'
          simp only [beq_iff_eq]
          rintro rfl
          exact hnd.1 (List.mem_map_of_mem hp')
        rw [this]
        simp only [beq_self_eq_true]
        rw [rowAt_splice hL hvl hj, if_pos rfl]
      · rw [rowAt_splice hL hvl hj, if_neg (Ne.symm hij)]
        have : (j == i) = false := by simpa using hij
        simp only [this]

theorem PRel.find : ∀ {ps : List (Nat × FV)} {vs : List (Nat × Value)} (n : Nat), PRel X ps vs →
    (ps.find? (fun p => p.1 == n) = none ∧ vs.find? (fun p => p.1 == n) = none) ∨ ∃ f v, ps.find? (fun p => p.1 == n) = some (n, f) ∧ vs.find? (fun p => p.1 == n) = some (n, v) ∧ VRel X f v
  | [], _, n, h => by cases h; exact Or.inl ⟨rfl, rfl⟩
  | (i, f) :: ps, vs, n, h => by
    obtain ⟨v, us, rfl, hv, hr⟩ := h
    rw [List.find?_cons, List.find?_cons]
    by_cases hi : i = n
    · subst hi; simp only [beq_self_eq_true]; exact Or.inr ⟨f, v, rfl, rfl, hv⟩
    · have : (i == n) = false := by simpa using hi
      simp only [this]
      exact PRel.find n hr

theorem PRel.keys : ∀ {ps : List (Nat × FV)} {vs : List (Nat × Value)}, PRel X ps vs → vs.map (·.1) = ps.map (·.1)
  | [], _, h => by cases h; rfl
  | (i, f) :: ps, vs, h => by obtain ⟨v, us, rfl, hv, hr⟩ := h; simp [PRel.keys hr]

theorem rowsIn_ok (OB : ∀ o x, X.ob o = some x → ObRel X o x) {M : Zone} (hO : ∀ p, Off X M p) {t : Ty} {row : List Value} {ps : List (Nat × FV)} {vs : List (Nat × Value)} (hp : PRel X ps vs) (hz : ∀ Z, Own Z X.W t t.zero row) : ∀ {n : Nat} {l : List Nat} {xs : List t.den} {dp : Bool} {p : Puts},
    rowsIn t n ps X.ob = some (l, (xs, dp, p)) → xs.length = n ∧ RowsOk X M t xs dp p fun i => match vs.find? (fun p => p.1 == i) with | some p => p.2.cells.toList | none => row
  | 0, l, xs, dp, p, h => by cases h; exact ⟨rfl, RowsOk.nil⟩
  | n + 1, l, xs, dp, p, h => by
    obtain ⟨l1, z, l2, z', h1, h2, he⟩ := Rd.bind_some h
    obtain ⟨ys, d1, p1⟩ := z
    obtain ⟨ih1, ih2⟩ := rowsIn_ok OB hO hp hz h1
    have fin : ∀ {x : t.den} {d2 : Bool} {q : Puts} {us : List Value}, RowOk X M t x d2 q us → (match vs.find? (fun p => p.1 == n) with | some p => p.2.cells.toList | none => row) = us →
        RowsOk X M t (ys ++ [x]) (d1 && d2) (p1 ++ q) fun i => match vs.find? (fun p => p.1 == i) with | some p => p.2.cells.toList | none => row := by
      intro x d2 q us hx hu
      refine (ih2.append (RowsOk.one hx)).congr fun i hi => ?_
      simp only [List.length_append, List.length_singleton] at hi
      by_cases hlt : i < ys.length
      · rw [if_pos hlt]
      · have : i = n := by omega
        subst this
        rw [if_neg hlt]; exact hu
    rcases hp.find n with ⟨f1, f2⟩ | ⟨f, v, f1, f2, hv⟩
    · simp only [f1] at h2
      cases h2
      cases he
      refine ⟨by simp [ih1], ?_⟩
      have := fin (x := t.zero) (d2 := true) (q := []) (RowOk.of_own MoveOk.nil (hO _) (hz _) true) (by rw [f2])
      simpa using this
    · simp only [f1] at h2
      obtain ⟨l3, w, l4, w', h3, h4, he'⟩ := Rd.bind_some h2
      obtain ⟨x, d2, p2⟩ := w
      cases h4
      cases he'
      cases he
      exact ⟨by simp [ih1], fin (rowIn_ok OB h3 hv (hO _)) (by rw [f2])⟩
end
end Go.Evr

namespace Go.Evr
section
variable {C : Ctx} {P : Program}
variable {X : Cx} {D : Nat → Nat → Prop} {E : Env} {S : St} {tm : List Value} {nx : Nat} {o : Oper} {l : List Nat} {e : Eff}

/-- The cells of the next block. -/
def newM (X : Cx) : Zone := fun b _ => b = X.W.heap.size

theorem off_new (I : Inv X D E S tm) (p : Puts) : Off X (newM X) p :=
  ⟨fun b k o m h => (I.dom b k o m h).1, fun b k hm => Or.inl (by unfold newM at hm; omega)⟩

theorem rowAt_len {m n i : Nat} {L : List Value} (hL : L.length = n * m) (hi : i < n) : (rowAt m L i).length = m := by
  have := mul_step (m := m) hi
  unfold rowAt; simp; omega

theorem Done.newArr (I : Inv X D E S tm) (hn : ¬ D nx 0) {p : Puts} (hnd : (p.map (·.1)).Nodup) {et : Ty} {xs : List et.den} {dp : Bool} {cap : Nat} {g : List Bool} {W1 : World} {cells : List Value}
    (F : Frm (newM X) X.W W1) (hs : X.W.heap.size < W1.heap.size) (hcell : ∀ k v, cells[k]? = some v → W1.cell? ⟨X.W.heap.size, k, none⟩ = some v) (hfz : ∀ k, k < cells.length → W1.frozen? ⟨X.W.heap.size, k, none⟩ = false)
    (hl : xs.length ≤ cap) (hc : cells.length = cap * et.cells) (hr : RowsOk X (newM X) et xs dp p (rowAt et.cells cells)) :
    Done X D E S tm nx ⟨.fsl nx, (nx, some (.arr et xs true dp 0)) :: p, nx + 1, g⟩ (.slice (some ⟨X.W.heap.size, 0, none⟩) xs.length cap) W1 := by
  refine Done.arr I hn hr.mv hnd (M := newM X) F (fun b k hm => Or.inl (by unfold newM at hm; omega)) (fun b k hm => by unfold newM at hm; omega) hl
    (Or.inr ⟨X.W.heap.size, 0, rowAt et.cells cells, rfl, fun j hj => rfl, fun j hj => ?_, fun i hi j v hj => ?_, hr.new hnd⟩)
  · have hj' : 0 + j < cells.length := by omega
    exact ⟨⟨cells[0 + j], hcell _ _ (List.getElem?_eq_getElem hj')⟩, hfz _ hj'⟩
  · refine hcell _ _ ?_
    unfold rowAt at hj
    rw [List.getElem?_take] at hj
    split at hj
    · rw [List.getElem?_drop] at hj
      rw [← hj]; congr 1; omega
    · cases hj

theorem getB (z : Array Value) (i : Nat) (h : i < z.size) : z[i]! = z[i] := by simp [h]

theorem rowAt_made {z : Array Value} {n i : Nat} (hi : i < n) : rowAt z.size (madeCells z (n * z.size)).toList i = z.toList := by
  have := mul_step (m := z.size) hi
  apply List.ext_getElem?
  intro j
  unfold rowAt
  rw [List.getElem?_take]
  split
  · rename_i hj
    rw [List.getElem?_drop]
    unfold madeCells
    have hlt : i * z.size + j < n * z.size := by omega
    have hm : (i * z.size + j) % z.size = j := by rw [Nat.mul_comm, Nat.mul_add_mod, Nat.mod_eq_of_lt hj]
    simp only [Array.toList_map, Array.toList_range, List.getElem?_map, List.getElem?_range hlt, Option.map_some, hm]
    rw [getB z j hj]
    simp [hj]
  · rename_i hj
    simp; omega

theorem made_new (W : World) (cells : Array Value) (t : TypeId) : (∀ k v, cells.toList[k]? = some v → (W.alloc (.cells cells t)).cell? ⟨W.heap.size, k, none⟩ = some v) ∧ ∀ k, k < cells.toList.length → (W.alloc (.cells cells t)).frozen? ⟨W.heap.size, k, none⟩ = false := by
  refine ⟨fun k v hk => ?_, fun k _ => World.frozen?_alloc_at _ _ _ _ rfl⟩
  rw [World.cell?_alloc_at _ _ _ _ rfl]
  simpa using hk

theorem run_buildSl (w : World) (t te : TypeId) (len : Nat) (parts : Array (Nat × Value)) (cells : Array Value) (ie : TypeInfo) (z : Value)
    (hu : P.underlying t = some (.slice te)) (hie : P.info? te = some ie) (hz : ie.zero = some z) (hsmall : len * ie.size ≤ 2 ^ 24)
    (h : Instr.fill (fun i => some (i * ie.size, ie.size)) (madeCells z.cells (len * ie.size)) parts.toList = some cells) :
    (Instr.buildSlice t len parts).run P w = .ok (.slice (some ⟨w.heap.size, 0, none⟩) len len) (w.alloc (.cells cells te)) := by
  by_cases hpos : len * ie.size = 0
  · have h' : Instr.fill (fun i => some (i * ie.size, ie.size)) #[] parts.toList = some cells := by
      rw [hpos] at h; simpa [madeCells, Array.range_zero'] using h
    have hs : ¬ (16777216 < len * ie.size) := by omega
    simp [Instr.buildSlice, run_underlying hu, sizeOf, typeInfo, zeroValue, hie, hz, hs, hpos, h', newRow, Array.range_zero']
  · exact run_buildSlice w t te len parts cells ie z hu hie hz (by omega) hpos h

theorem parts_keys {n : Nat} {l : List Nat} (h : partsOk n l = true) : l.Nodup ∧ ∀ i ∈ l, i < n := by
  simp only [partsOk, Bool.and_eq_true, List.all_eq_true] at h
  exact ⟨nodupB_iff.1 h.1, fun i hi => by have := h.2 i hi; simpa [Nat.blt_eq] using this⟩
end
end Go.Evr

namespace Go.Evr
section
variable {C : Ctx} {P : Program}
variable {X : Cx} {D : Nat → Nat → Prop} {E : Env} {S : St} {tm : List Value} {nx : Nat} {o : Oper} {l : List Nat} {e : Eff}

theorem parts_keysE (ps : List (Nat × Operand)) (f : Operand → FV) : (ps.map fun p => (p.1, f p.2)).map (·.1) = ps.map (·.1) := by
  rw [List.map_map]; rfl

theorem RowIn_len {t : Ty} {x : t.den} {dp : Bool} {p : Puts} {us : List Value} {M : Zone} (h : RowOk X M t x dp p us) (hn : (p.map (·.1)).Nodup) : us.length = t.cells :=
  (h.rep p hn fun _ h => h).len

theorem rowIn_cells {t : Ty} {f : FV} {l : List Nat} {r : t.den × Bool × Puts} (h : rowIn t f X.ob = some (l, r)) {v : Value} (hv : VRel X f v) : v.cells.size = t.cells := by
  unfold rowIn at h
  cases hc : f.cells? with
  | none => rw [hc] at h; cases h
  | some cs =>
    rw [hc] at h
    simp only [] at h
    cases hb : Nat.beq cs.length t.cells with
    | true =>
      have hl := Nat.eq_of_beq_eq_true hb
      have := (cells_rel hc hv).len
      simpa [hl] using this
    | false => rw [hb] at h; cases h

theorem rowsIn_cells {t : Ty} {ps : List (Nat × FV)} {vs : List (Nat × Value)} (hp : PRel X ps vs) : ∀ {n : Nat} {l : List Nat} {r : List t.den × Bool × Puts},
    rowsIn t n ps X.ob = some (l, r) → ∀ i, i < n → ∀ v, vs.find? (fun p => p.1 == i) = some (i, v) → v.cells.size = t.cells
  | 0, l, r, h, i, hi, _, _ => absurd hi (Nat.not_lt_zero i)
  | n + 1, l, r, h, i, hi, v, hv => by
    obtain ⟨l1, z, l2, z', h1, h2, he⟩ := Rd.bind_some h
    by_cases hin : i < n
    · exact rowsIn_cells hp h1 i hin v hv
    · have : i = n := by omega
      subst this
      rcases hp.find i with ⟨f1, f2⟩ | ⟨f, v', f1, f2, hr⟩
      · rw [f2] at hv; cases hv
      · rw [f2] at hv
        cases hv
        simp only [f1] at h2
        obtain ⟨l3, w, l4, w', h3, h4, he'⟩ := Rd.bind_some h2
        exact rowIn_cells h3 hr

theorem find_of_mem : ∀ {vs : List (Nat × Value)} {p : Nat × Value}, (vs.map (·.1)).Nodup → p ∈ vs → vs.find? (fun q => q.1 == p.1) = some p
  | [], _, _, h => by cases h
  | q :: vs, p, hn, h => by
    simp only [List.map_cons, List.nodup_cons] at hn
    rw [List.find?_cons]
    rcases List.mem_cons.1 h with rfl | h
    · simp
    · have : (q.1 == p.1) = false := by
        simp only [beq_eq_false_iff_ne, ne_eq]
        intro hq; exact hn.1 (hq ▸ List.mem_map_of_mem h)
      simp only [this]
      exact find_of_mem hn.2 h

theorem op_buildSlice (hC : CtxOk C P) {t n : Nat} {parts : Array (Nat × Operand)} (ho : o.op = .buildSlice t n parts) (I : Inv X D E S tm) (hn : ¬ D nx 0) (h : evOp C nx S.ev o.op S.ob = some (l, e)) : OpOk P X D E S tm nx o e := by
  rw [ho] at h
  simp only [evOp] at h
  cases ht : C.ty t with
  | none => rw [ht] at h; cases h
  | some u =>
    rw [ht] at h
    cases u with
    | sl u =>
      simp only [] at h
      split at h
      · rename_i hk
        simp only [Bool.and_eq_true] at hk
        obtain ⟨k1, k2⟩ := parts_keys hk.1
        have hsm := Nat.le_of_ble_eq_true hk.2
        obtain ⟨l1, r, l2, z', h1, h2, he⟩ := Rd.bind_some h
        obtain ⟨xs, dp, p⟩ := r
        simp only [] at h2
        split at h2
        · rename_i hpo
          cases h2
          cases he
          obtain ⟨te, hu, hte⟩ := (hC t _ ht).desc
          obtain ⟨i, z, hi, hsz, hz, hzo, _⟩ := (hC te _ hte).info
          have hown : ∀ Z, Own Z X.W u u.zero z.cells.toList := fun Z => zero_own (C := C) (P := P) hzo ⟨te, (hC te _ hte).desc⟩
          have hzs : z.cells.size = u.cells := by have := (hown fun _ _ => False).len; simpa using this
          have hp := parts_rel I parts.toList
          rw [obF I] at h1
          obtain ⟨r1, r2⟩ := rowsIn_ok (obs' I) (off_new I) hp.1 hown h1
          have hkeys := hp.1.keys
          rw [parts_keysE] at hkeys
          have hcs := rowsIn_cells hp.1 h1
          have hvs : ∀ q ∈ parts.toList.map (fun p => (p.1, (⟨tm.toArray, []⟩ : Act).eval p.2)), q.1 < n ∧ q.2.cells.size = u.cells := by
            intro q hq
            have hlt := k2 q.1 (by rw [← hkeys]; exact List.mem_map_of_mem hq)
            exact ⟨hlt, hcs q.1 hlt q.2 (find_of_mem (by rw [hkeys]; exact k1) hq)⟩
          obtain ⟨L', f1, f2, f3⟩ := fill_rows (n := n) (m := u.cells) (L := (madeCells z.cells (n * u.cells)).toList) (by simp [size_madeCells]) hvs (by rw [hkeys]; exact k1)
          have hrun := run_buildSl (P := P) X.W t te n (parts.map fun p => (p.1, (⟨tm.toArray, []⟩ : Act).eval p.2)) L'.toArray i z hu hi hz (by rw [hsz]; exact hsm) (by
            rw [hsz]; simpa using f1)
          obtain ⟨m1, m2⟩ := made_new X.W L'.toArray te
          have := Done.newArr I hn (putsOk_iff.1 hpo) (et := u) (xs := xs) (dp := dp) (cap := n) (g := []) (cells := L') (W1 := X.W.alloc (.cells L'.toArray te))
            (Frm.alloc _) (by rw [size_alloc]; omega) m1 m2 (by omega) f2 (r2.congr fun j hj => by
              rw [f3 j]
              cases hq : (parts.toList.map (fun p => (p.1, (⟨tm.toArray, []⟩ : Act).eval p.2))).find? (fun p => p.1 == j) with
              | some q => rfl
              | none =>
                simp only []
                have := rowAt_made (z := z.cells) (n := n) (i := j) (by omega)
                rw [hzs] at this
                exact this)
          rw [r1] at this
          refine ⟨_, _, _, ?_, Or.inl rfl, this⟩
          simp only [execOp, ho, Sem.run_bind]
          rw [show (parts.map fun x => match x with | (i, x) => (i, (⟨tm.toArray, []⟩ : Act).eval x)) = parts.map fun p => (p.1, (⟨tm.toArray, []⟩ : Act).eval p.2) from rfl, hrun]
          rfl
        · cases h2
      · cases h
    | _ => cases h

theorem op_makeSlice (hC : CtxOk C P) {t : Nat} {x y : Operand} (ho : o.op = .makeSlice t x y) (I : Inv X D E S tm) (hn : ¬ D nx 0) (h : evOp C nx S.ev o.op S.ob = some (l, e)) (g : ∀ b ∈ e.guards, b = true) : OpOk P X D E S tm nx o e := by
  rw [ho] at h
  simp only [evOp] at h
  have hx := ev_rel I x
  have hy := ev_rel I y
  have key : ∃ u k1 n k2 m, C.ty t = some (.sl u) ∧ S.ev x = .int k1 n ∧ S.ev y = .int k2 m ∧ e = ⟨.fsl nx, [(nx, some (.arr u (lrep (itn n) u.zero) true true 0))], nx + 1, [ile 0 n, ile n m, fits (itn m)]⟩ := by
    cases ht : C.ty t with
    | none => rw [ht] at h; cases h
    | some u =>
      rw [ht] at h
      cases u with
      | sl u =>
        cases hx' : S.ev x <;> rw [hx'] at h <;> first | (cases h; done) | skip
        cases hy' : S.ev y <;> rw [hy'] at h <;> first | (cases h; done) | skip
        cases h
        exact ⟨u, _, _, _, _, rfl, rfl, rfl, rfl⟩
      | _ => cases h
  · obtain ⟨u, k1, n, k2, m, ht, hx', hy', rfl⟩ := key
    rw [hx'] at hx
    rw [hy'] at hy
    have ex : (⟨tm.toArray, []⟩ : Act).eval x = .int k1 n := hx
    have ey : (⟨tm.toArray, []⟩ : Act).eval y = .int k2 m := hy
    have g1 : 0 ≤ n := of_decide_eq_true (g _ (List.mem_cons_self ..))
    have g2 : n ≤ m := of_decide_eq_true (g _ (List.mem_cons_of_mem _ (List.mem_cons_self ..)))
    have g3 : m.toNat ≤ 4294967296 := of_decide_eq_true (g _ (List.mem_cons_of_mem _ (List.mem_cons_of_mem _ (List.mem_cons_self ..))))
    obtain ⟨te, hu, hte⟩ := (hC t _ ht).desc
    obtain ⟨i, z, hi, hsz, hz, hzo, hby, _⟩ := (hC te _ hte).info
    have hown : ∀ Z, Own Z X.W u u.zero z.cells.toList := fun Z => zero_own (C := C) (P := P) hzo ⟨te, (hC te _ hte).desc⟩
    have hzs : z.cells.size = u.cells := by have := (hown fun _ _ => False).len; simpa using this
    have hbytes : (i.bytes : Int) * m ≤ 281474976710656 := by
      have h1 : i.bytes * m.toNat ≤ 16384 * 4294967296 := Nat.mul_le_mul hby g3
      have h2 : ((i.bytes * m.toNat : Nat) : Int) = (i.bytes : Int) * m := by rw [Int.natCast_mul, Int.toNat_of_nonneg (by omega)]
      omega
    have hrun := run_make (P := P) X.W t te i z hu hi hz k1 k2 n m g1 g2 hbytes (by omega)
    rw [hsz] at hrun
    obtain ⟨m1, m2⟩ := made_new X.W (madeCells z.cells (m.toNat * u.cells)) te
    have hrows : RowsOk X (newM X) u (lrep (itn n) u.zero) true [] (rowAt u.cells (madeCells z.cells (m.toNat * u.cells)).toList) := by
      have : ∀ k : Nat, k ≤ m.toNat → RowsOk X (newM X) u (List.replicate k u.zero) true [] (rowAt u.cells (madeCells z.cells (m.toNat * u.cells)).toList) := by
        intro k
        induction k with
        | zero => intro _; exact RowsOk.nil
        | succ k ih =>
          intro hk
          have h1 := (ih (by omega)).append (RowsOk.one (RowOk.of_own (p := []) (us := z.cells.toList) MoveOk.nil (off_new I _) (hown _) true))
          rw [List.replicate_succ']
          refine h1.congr fun j hj => ?_
          simp only [List.length_replicate]
          split
          · rfl
          · rename_i hjk
            simp at hj
            have := rowAt_made (z := z.cells) (n := m.toNat) (i := j) (by omega)
            rw [hzs] at this
            exact this
      exact this _ (by unfold itn; omega)
    have := Done.newArr I hn (p := []) List.nodup_nil (et := u) (cap := m.toNat) (g := [ile 0 n, ile n m, fits (itn m)]) (W1 := X.W.alloc (.cells (madeCells z.cells (m.toNat * u.cells)) te))
      (Frm.alloc _) (by rw [size_alloc]; omega) m1 m2 (by unfold lrep itn; simp; omega) (by simp [size_madeCells]) hrows
    have hlen : (lrep (itn n) u.zero).length = n.toNat := by simp [lrep, itn]
    rw [hlen] at this
    refine ⟨_, _, _, ?_, Or.inl rfl, this⟩
    simp only [execOp, ho, Sem.run_bind, ex, ey, hrun]
    rfl
end
end Go.Evr

namespace Go.Evr
section
variable {C : Ctx} {P : Program}
variable {X : Cx} {D : Nat → Nat → Prop} {E : Env} {S : St} {tm : List Value} {nx : Nat} {o : Oper} {l : List Nat} {e : Eff}

theorem Frm.setCell {M : Zone} {W : World} {b k : Nat} (v : Value) (h : M b k) : Frm M W (W.setCell ⟨b, k, none⟩ v) := by
  have hother : ∀ b' k', ¬ M b' k' → (⟨b, k, none⟩ : Addr) ≠ ⟨b', k', none⟩ := by
    intro b' k' hm he; cases he; exact hm h
  refine ⟨?_, ?_, ?_, ?_, fun b' hb hk => ?_, fun b' k' w hm hw => ?_, fun b' k' _ _ => World.frozen?_setCell _ _ _ _⟩
  · unfold World.setCell; rfl
  · unfold World.setCell; rfl
  · unfold World.setCell; rfl
  · unfold World.setCell; simp
  · unfold World.setCell
    have : b ≠ b' := by rintro rfl; exact hk k h
    simp [Array.getElem?_modify, this]
  · rw [World.cell?_setCell_other _ _ _ _ (hother b' k' hm)]; exact hw

theorem Frm.setCells {M : Zone} {b : Nat} : ∀ (vs : List Value) (k : Nat) (W : World), (∀ j, j < vs.length → M b (k + j)) → Frm M W (W.setCells b k vs)
  | [], _, W, _ => Frm.refl _ _
  | v :: vs, k, W, h => (Frm.setCell v (by simpa using h 0 (by simp))).trans (Frm.setCells vs (k + 1) _ fun j hj => by
      have := h (j + 1) (by simp; omega)
      rwa [show k + (j + 1) = k + 1 + j by omega] at this)

/-- What is appended, as the built-in reads it. -/
def SrcOk (W : World) (size : Nat) (x : Value) (m : Nat) (news : List Value) : Prop :=
  (∃ a c, x = .slice a m c ∧ (m = 0 ∨ ∃ b k, a = some ⟨b, k, none⟩ ∧ ∀ j v, news[j]? = some v → W.cell? ⟨b, k + j, none⟩ = some v)) ∨
  ∃ s, x = .string s ∧ m = s.size ∧ size = 1 ∧ news = s.data.toList.map fun b => .int .u8 b.toNat

theorem run_firstCells' {W : World} {size m c : Nat} {a : Option Addr} {cs : List Value} (hl : cs.length = m * size)
    (h : m = 0 ∨ ∃ b k, a = some ⟨b, k, none⟩ ∧ ∀ j v, cs[j]? = some v → W.cell? ⟨b, k + j, none⟩ = some v) : (Builtin.firstCells size m (.slice a m c)).run P W = .ok cs.toArray W := by
  cases a with
  | none =>
    rcases h with rfl | ⟨b, k, h, _⟩
    · have : cs = [] := List.length_eq_zero_iff.1 (by simpa using hl)
      subst this; rfl
    · cases h
  | some a =>
    refine run_firstCells_some W size m a m c cs hl fun j v hj => ?_
    rcases h with rfl | ⟨b, k, h, hc⟩
    · have : cs = [] := List.length_eq_zero_iff.1 (by simpa using hl)
      subst this; simp at hj
    · cases h; rw [addr_add]; exact hc j v hj

theorem SrcOk.run {W : World} {size m : Nat} {x : Value} {news : List Value} (h : SrcOk W size x m news) (hl : news.length = m * size) :
    (Builtin.lenOf x).run P W = .ok m W ∧ (Builtin.firstCells size m x).run P W = .ok news.toArray W := by
  rcases h with ⟨a, c, rfl, h⟩ | ⟨s, rfl, rfl, rfl, rfl⟩
  · exact ⟨rfl, run_firstCells' hl h⟩
  · refine ⟨rfl, ?_⟩
    have : (s.extract 0 s.size).data = s.data := by
      have : s.extract 0 s.size = s := ByteArray.extract_zero_size
      rw [this]
    simp only [Builtin.firstCells, this]
    rw [Sem.run_pure]
    congr 1
    apply Array.ext'
    simp

theorem SrcOk.drew {W : World} {size m : Nat} {x : Value} {news : List Value} (h : SrcOk W size x m news) : SrcOk W.drew size x m news := h

/-- The kind of what is appended: no number. -/
def NoInt (P : Program) (ats : Array TypeId) : Prop := ∃ t d, ats[1]? = some t ∧ P.underlying t = some d ∧ ((∃ e, d = .slice e) ∨ d = .string)

theorem run_append_out (w : World) {ats : Array TypeId} {t te : TypeId} (ty : TypeId) {i : TypeInfo} {z : Value} (h0 : ats[0]? = some t) (h1 : NoInt P ats) (ht : P.underlying t = some (.slice te)) (hi : P.info? te = some i) (hz : i.zero = some z)
    {a : Option Addr} {n cap : Nat} {olds : List Value} (hol : olds.length = n * i.size) (hom : n = 0 ∨ ∃ b k, a = some ⟨b, k, none⟩ ∧ ∀ j v, olds[j]? = some v → w.cell? ⟨b, k + j, none⟩ = some v)
    {x : Value} {m : Nat} {news : List Value} (hnl : news.length = m * i.size) (hs : SrcOk w i.size x m news)
    (hg : cap < n + m) (hfit : n + m ≤ 4294967296) (hby : i.bytes ≤ 16384) (hb0 : 0 < i.bytes) :
    (Builtin.append_ ats ty #[.slice a n cap, x]).run P w = .ok (.slice (some ⟨w.heap.size, 0, none⟩) (n + m) (grownCap w (n + m) cap te))
      (w.drew.alloc (.cells (olds.toArray ++ news.toArray ++ Builtin.zeroCells z.cells (grownCap w (n + m) cap te - (n + m))) te)) := by
  obtain ⟨t2, d, h2, hd, hk⟩ := h1
  have hn : ¬ (n + m ≤ cap) := by omega
  have hbytes : (n + m) * i.bytes ≤ 4294967296 * 16384 := Nat.mul_le_mul hfit hby
  have h48 : ¬ (281474976710656 < Builtin.nextslicecap (n + m) cap * i.bytes) := by
    have := growslice_fits (need := n + m) (old := cap) (bytes := i.bytes) hg (by omega)
    omega
  have hf := (hs.drew.run (P := P) hnl).2
  have hlen := (hs.run (P := P) hnl).1
  have hfo := run_firstCells' (P := P) (W := w.drew) (size := i.size) (m := n) (c := cap) (a := a) hol hom
  have h63 : ¬ (9223372036854775807 < ((n : Int) + (m : Int))) := by omega
  rcases hk with ⟨e', rfl⟩ | rfl
  all_goals
    simp [Builtin.append_, h0, h2, run_underlying ht, run_underlying hd, sizeOf, typeInfo, zeroValue, hi, hz, hlen, hn, h63, h48, Question.forced, hf, hfo, newRow, grownCap]
  all_goals
    congr 2
    apply Array.ext'
    simp [List.append_assoc]

theorem run_append_zero (w : World) {ats : Array TypeId} {t te : TypeId} (ty : TypeId) {i : TypeInfo} (h0 : ats[0]? = some t) (h1 : NoInt P ats) (ht : P.underlying t = some (.slice te)) (hi : P.info? te = some i)
    {a : Option Addr} {x : Value} {news : List Value} (hnl : news.length = 0 * i.size) (hs : SrcOk w i.size x 0 news) :
    (Builtin.append_ ats ty #[.slice a 0 0, x]).run P w = .ok (.slice a 0 0) w := by
  obtain ⟨t2, d, h2, hd, hk⟩ := h1
  have hf := (hs.run (P := P) hnl).2
  have hlen := (hs.run (P := P) hnl).1
  have : news = [] := List.length_eq_zero_iff.1 (by simpa using hnl)
  subst this
  rcases hk with ⟨e', rfl⟩ | rfl
  all_goals
    cases a <;> simp [Builtin.append_, h0, h2, run_underlying ht, run_underlying hd, sizeOf, typeInfo, hi, hlen, hf, storeCells]

theorem run_append_in (w : World) {ats : Array TypeId} {t te : TypeId} (ty : TypeId) {i : TypeInfo} (h0 : ats[0]? = some t) (h1 : NoInt P ats) (ht : P.underlying t = some (.slice te)) (hi : P.info? te = some i)
    {b k n cap : Nat} {x : Value} {m : Nat} {news : List Value} (hnl : news.length = m * i.size) (hs : SrcOk w i.size x m news) (hone : ∀ v ∈ news, v.oneCell' = true)
    (hg : n + m ≤ cap) (hmine : Mine w b k (cap * i.size)) :
    (Builtin.append_ ats ty #[.slice (some ⟨b, k, none⟩) n cap, x]).run P w = .ok (.slice (some ⟨b, k, none⟩) (n + m) cap) (w.setCells b (k + n * i.size) news) := by
  obtain ⟨t2, d, h2, hd, hk⟩ := h1
  have hf := (hs.run (P := P) hnl).2
  have hlen := (hs.run (P := P) hnl).1
  have hlt : ∀ j, j < news.length → n * i.size + j < cap * i.size := fun j hj => by
    have := Nat.mul_le_mul_right i.size hg
    rw [Nat.add_mul] at this
    omega
  have hst := run_storeCells_cells (P := P) b (k + n * i.size) news 0 w
    (fun j hj => by obtain ⟨⟨v, hv⟩, _⟩ := hmine _ (hlt j hj); rw [Nat.add_zero, Nat.add_assoc, hv]; rfl)
    (fun j hj => by obtain ⟨_, hv⟩ := hmine _ (hlt j hj); rw [Nat.add_zero, Nat.add_assoc, hv]) hone
  rw [Nat.add_zero] at hst
  rcases hk with ⟨e', rfl⟩ | rfl
  all_goals
    simp [Builtin.append_, h0, h2, run_underlying ht, run_underlying hd, sizeOf, typeInfo, hi, hlen, hg, hf, addr_add, hst]

theorem RowsOk.flat {M : Zone} {t : Ty} (hd : t.deep = false) {xs : List t.den} {row : Nat → List Value} (h : ∀ i (hi : i < xs.length), ∃ Z, Rep Z X.W t xs[i] (row i)) : RowsOk X M t xs true [] row :=
  ⟨MoveOk.nil, fun _ _ => ⟨fun _ _ _ => False, fun _ _ _ h => h.elim, fun _ _ _ _ h => h.elim, fun i hi => by obtain ⟨Z, h⟩ := h i hi; exact Own.flat hd h⟩,
    fun P _ _ i hi => by obtain ⟨Z, h⟩ := h i hi; exact (Own.flat (Z := fun b k => ownP X.own P none b k = none ∧ ¬ M b k) hd h).rep⟩

/-- The cells of a slice's rows, one behind the other. -/
theorem rows_cells {W : World} {b k n m : Nat} {cs : Nat → List Value} (hc : ∀ i, i < n → (cs i).length = m ∧ ∀ j v, (cs i)[j]? = some v → W.cell? ⟨b, k + i * m + j, none⟩ = some v) :
    ∃ L : List Value, L.length = n * m ∧ (∀ j v, L[j]? = some v → W.cell? ⟨b, k + j, none⟩ = some v) ∧ ∀ i, i < n → rowAt m L i = cs i := by
  induction n with
  | zero => exact ⟨[], by simp, by simp, fun i hi => absurd hi (Nat.not_lt_zero i)⟩
  | succ n ih =>
    obtain ⟨L, h1, h2, h3⟩ := ih fun i hi => hc i (by omega)
    obtain ⟨c1, c2⟩ := hc n (by omega)
    refine ⟨L ++ cs n, by rw [List.length_append, h1, c1, Nat.add_mul]; omega, fun j v hj => ?_, fun i hi => ?_⟩
    · rw [List.getElem?_append] at hj
      split at hj
      · exact h2 j v hj
      · rename_i hlt
        have := c2 _ v hj
        rwa [show k + n * m + (j - L.length) = k + j by omega] at this
    · have hL := mul_step (m := m) (show i < n + 1 by omega)
      by_cases hin : i < n
      · rw [← h3 i hin]
        have := mul_step (m := m) hin
        unfold rowAt
        apply List.ext_getElem?
        intro q
        rw [List.getElem?_take, List.getElem?_take]
        split
        · rw [List.getElem?_drop, List.getElem?_drop, List.getElem?_append_left (by omega)]
        · rfl
      · have : i = n := by omega
        subst this
        unfold rowAt
        rw [← h1, List.drop_left, List.take_of_length_le (by omega)]

theorem rowAt_app {m n i : Nat} {L L' : List Value} (hL : L.length = n * m) : rowAt m (L ++ L') i = if i < n then rowAt m L i else rowAt m L' (i - n) := by
  split
  · rename_i hin
    have := mul_step (m := m) hin
    unfold rowAt
    apply List.ext_getElem?
    intro q
    rw [List.getElem?_take, List.getElem?_take]
    split
    · rw [List.getElem?_drop, List.getElem?_drop, List.getElem?_append_left (by omega)]
    · rfl
  · rename_i hin
    have hle := Nat.mul_le_mul_right m (Nat.le_of_not_lt hin)
    unfold rowAt
    apply List.ext_getElem?
    intro q
    rw [List.getElem?_take, List.getElem?_take]
    split
    · rw [List.getElem?_drop, List.getElem?_drop, List.getElem?_append_right (by omega)]
      congr 1
      rw [Nat.sub_mul]; omega
    · rfl
end
end Go.Evr

namespace Go.Evr
section
variable {C : Ctx} {P : Program}
variable {X : Cx} {D : Nat → Nat → Prop} {E : Env} {S : St} {tm : List Value} {nx : Nat} {o : Oper} {l : List Nat} {e : Eff}

/-- A slice that is read: its cells. -/
theorem rep_src {Z : Zone} {W : World} {e : Ty} {ys : List e.den} {v : Value} (h : Rep Z W (.sl e) ys [v]) :
    ∃ news, SrcOk W e.cells v ys.length news ∧ news.length = ys.length * e.cells ∧ ∀ i (hi : i < ys.length), Rep Z W e ys[i] (rowAt e.cells news i) := by
  obtain ⟨a, cap, hv, hle, hr⟩ := h
  cases hv
  by_cases h0 : ys.length = 0
  · exact ⟨[], Or.inl ⟨a, cap, rfl, Or.inl h0⟩, by simp [h0], fun i hi => by omega⟩
  · obtain ⟨b, k, _, rfl, _⟩ := hr 0 (by omega)
    have hex : ∀ i, ∃ cs : List Value, ∀ hi : i < ys.length, Rep Z W e ys[i] cs ∧ ∀ j v, cs[j]? = some v → W.cell? ⟨b, k + i * e.cells + j, none⟩ = some v := by
      intro i
      by_cases hi : i < ys.length
      · obtain ⟨b', k', cs, hbk, h1, h2⟩ := hr i hi
        cases hbk
        exact ⟨cs, fun _ => ⟨h1, fun j v hj => (h2 j v hj).2⟩⟩
      · exact ⟨[], fun h => absurd h hi⟩
    obtain ⟨cs, hcs⟩ := Classical.axiomOfChoice hex
    obtain ⟨L, l1, l2, l3⟩ := rows_cells (W := W) (b := b) (k := k) (n := ys.length) (m := e.cells) (cs := cs) fun i hi => ⟨(hcs i hi).1.len, (hcs i hi).2⟩
    exact ⟨L, Or.inl ⟨_, cap, rfl, Or.inr ⟨b, k, rfl, l2⟩⟩, l1, fun i hi => by rw [l3 i hi]; exact (hcs i hi).1⟩

theorem SrcOk.mem {W : World} {size : Nat} {a : Option Addr} {n c : Nat} {news : List Value} (h : SrcOk W size (.slice a n c) n news) :
    n = 0 ∨ ∃ b k, a = some ⟨b, k, none⟩ ∧ ∀ j v, news[j]? = some v → W.cell? ⟨b, k + j, none⟩ = some v := by
  rcases h with ⟨a', c', he, h⟩ | ⟨s, he, _⟩
  · cases he; exact h
  · cases he

theorem news_one {Z : Zone} {W : World} {e : Ty} {ys : List e.den} {news : List Value} (h2 : news.length = ys.length * e.cells) (h3 : ∀ i (hi : i < ys.length), Rep Z W e ys[i] (rowAt e.cells news i)) : ∀ v ∈ news, v.oneCell' = true := by
  intro v hv
  obtain ⟨j, hj, rfl⟩ := List.getElem_of_mem hv
  have hc : 0 < e.cells := by
    rcases Nat.eq_zero_or_pos e.cells with h | h
    · rw [h] at h2; omega
    · exact h
  have hi : j / e.cells < ys.length := Nat.div_lt_of_lt_mul (by rw [Nat.mul_comm]; omega)
  refine (h3 _ hi).one _ ?_
  unfold rowAt
  rw [List.mem_iff_getElem?]
  refine ⟨j % e.cells, ?_⟩
  rw [List.getElem?_take, if_pos (Nat.mod_lt _ hc), List.getElem?_drop, Nat.mul_comm, Nat.div_add_mod, List.getElem?_eq_getElem hj]

/-- A row in memory is the row of the cells. -/
theorem row_eq {W : World} {m n i b k : Nat} {news cs : List Value} (hl : news.length = n * m) (hi : i < n) (hc : cs.length = m)
    (hm : ∀ j v, news[j]? = some v → W.cell? ⟨b, k + j, none⟩ = some v) (h : ∀ j v, cs[j]? = some v → W.cell? ⟨b, k + i * m + j, none⟩ = some v) : rowAt m news i = cs := by
  have hrl := rowAt_len hl hi
  apply List.ext_getElem?
  intro j
  by_cases hj : j < m
  · have e1 : cs[j]? = some cs[j] := List.getElem?_eq_getElem (by omega)
    have e2 : (rowAt m news i)[j]? = some (rowAt m news i)[j] := List.getElem?_eq_getElem (by omega)
    have w1 := h j _ e1
    have e3 := e2
    unfold rowAt at e3
    rw [List.getElem?_take, if_pos hj, List.getElem?_drop] at e3
    have w2 := hm _ _ e3
    rw [← Nat.add_assoc, w1] at w2
    rw [e1, e2]; exact w2.symm
  · rw [List.getElem?_eq_none (by omega), List.getElem?_eq_none (by omega)]

/-- The rows of a slice that is handed in as one datum. -/
theorem RowOk.rows {M : Zone} {e : Ty} {ys : List e.den} {dp : Bool} {p : Puts} {v : Value} (h : RowOk X M (.sl e) ys dp p [v]) {news : List Value} (h1 : SrcOk X.W e.cells v ys.length news) (h2 : news.length = ys.length * e.cells) :
    RowsOk X M e ys dp p (rowAt e.cells news) := by
  refine ⟨h.mv, fun hd _ => ?_, fun P hP hs i hi => ?_⟩
  · obtain ⟨a, cap, hv, hle, ho⟩ := h.own hd
    cases hv
    rcases ho with h0 | ⟨b, k, rfl, ZM, ZR, z1, z2, z3, z4, z5, z6⟩
    · exact ⟨fun _ _ _ => False, fun _ _ _ h => h.elim, fun _ _ _ _ h => h.elim, fun i hi => by omega⟩
    · refine ⟨ZR, fun i b k hz => (z4 i b k hz).1, z5, fun i hi => ?_⟩
      obtain ⟨cs, q1, q2⟩ := z6 i hi
      rcases h1.mem with h0 | ⟨b', k', hb, hm⟩
      · omega
      cases hb
      rw [row_eq h2 hi q1.len hm q2]; exact q1
  · obtain ⟨a, cap, hv, _, h4⟩ := h.rep P hP hs
    cases hv
    obtain ⟨b, k, cs, rfl, q1, q2⟩ := h4 i hi
    rcases h1.mem with h0 | ⟨b', k', hb, hm⟩
    · omega
    cases hb
    rw [row_eq h2 hi q1.len hm fun j v hj => (q2 j v hj).2]; exact q1

theorem rep_slice {f : FV} {v : Value} (hv : VRel X f v) (hf : ∀ cs, f ≠ .agg cs) {cs : List FV} (hc : f.cells? = some cs) : v.cells.toList = [v] := by
  cases f with
  | agg l => exact absurd rfl (hf l)
  | bad => cases hc
  | tup _ => cases hc
  | nilb _ => cases hc
  | int k n => cases hv; rfl
  | bool b => cases hv; rfl
  | str s => cases hv; rfl
  | nsl => obtain ⟨a, rfl⟩ := hv; rfl
  | nilp => rcases hv with rfl | rfl <;> rfl
  | clo g a b => obtain ⟨fs, cs, rfl, h⟩ := hv; rfl
  | vpt t l => obtain ⟨b, k, rfl, h⟩ := hv; rfl
  | isl t e xs => obtain ⟨⟨a, c, rfl⟩, h⟩ := hv; rfl
  | fsl o => obtain ⟨⟨a, n, c, rfl⟩, h⟩ := hv; rfl
  | osl o lo n => obtain ⟨⟨a, c, rfl⟩, h⟩ := hv; rfl
  | ptr o off => obtain ⟨⟨a, rfl⟩, h⟩ := hv; rfl
  | ept o i off => obtain ⟨⟨a, rfl⟩, h⟩ := hv; rfl

/-- What is appended. -/
def AppOk (X : Cx) (e : Ty) (v : Value) (ys : List e.den) (dp : Bool) (p : Puts) : Prop :=
  ∃ news, SrcOk X.W e.cells v ys.length news ∧ news.length = ys.length * e.cells ∧ (∀ v ∈ news, v.oneCell' = true) ∧ ∀ M, Off X M p → RowsOk X M e ys dp p (rowAt e.cells news)

theorem appended_ok (OB : ∀ o x, X.ob o = some x → ObRel X o x) (dom : ∀ b k o m, X.own b k = some (o, m) → b < X.W.heap.size) {e : Ty} {f : FV} {v : Value} {l : List Nat} {ys : List e.den} {dp : Bool} {p : Puts}
    (h : appended e f X.ob = some (l, (ys, dp, p))) (hv : VRel X f v) (hn : (p.map (·.1)).Nodup) : AppOk X e v ys dp p := by
  have gen : (∀ cs, f ≠ .agg cs) → br e.deep (rowIn (.sl e) f X.ob) (((readSl e f).bind fun ys => Rd.pure (ys, true, [])) X.ob) = some (l, (ys, dp, p)) → AppOk X e v ys dp p := by
    intro hf h
    cases hd : e.deep with
    | false =>
      rw [hd] at h
      have h : ((readSl e f).bind fun ys => Rd.pure (ys, true, [])) X.ob = some (l, (ys, dp, p)) := h
      obtain ⟨l1, z, l2, z', h1, h2, he⟩ := Rd.bind_some h
      cases h2
      cases he
      have hrep := readSl_rep OB h1 hv
      obtain ⟨news, q1, q2, q3⟩ := rep_src hrep
      exact ⟨news, q1, q2, news_one q2 q3, fun M _ => RowsOk.flat hd fun i hi => ⟨_, q3 i hi⟩⟩
    | true =>
      rw [hd] at h
      have h : rowIn (.sl e) f X.ob = some (l, (ys, dp, p)) := h
      have hone : v.cells.toList = [v] := by
        cases hc : f.cells? with
        | none => unfold rowIn at h; rw [hc] at h; cases h
        | some cs => exact rep_slice hv hf hc
      have h0 := fun M (hO : Off X M p) => rowIn_ok (M := M) OB h hv hO
      rw [hone] at h0
      have hrep := (h0 (fun _ _ => False) ⟨dom, fun _ _ h => h.elim⟩).rep p hn fun _ h => h
      obtain ⟨news, q1, q2, q3⟩ := rep_src hrep
      exact ⟨news, q1, q2, news_one q2 q3, fun M hO => (h0 M hO).rows q1 q2⟩
  cases f with
  | str s =>
    have h : ((Rd.of ((Ty.sl (.int .u8)).cast (.sl e) (strBytes s))).bind fun ys => Rd.pure (ys, true, [])) X.ob = some (l, (ys, dp, p)) := h
    obtain ⟨l1, z, l2, z', h1, h2, he⟩ := Rd.bind_some h
    cases h2
    cases he
    obtain ⟨w, hw, hh⟩ := Rd.of_some h1
    cases hh
    obtain ⟨rfl, hq⟩ := castSl hw
    cases hq
    cases hv
    have hl : (strBytes s).length = s.size := by simp [strBytes]
    refine ⟨s.data.toList.map fun b => .int .u8 b.toNat, Or.inr ⟨s, rfl, hl, rfl, rfl⟩, by simp [Ty.cells, strBytes], ?_, fun M _ => RowsOk.flat rfl fun i hi => ⟨fun _ _ => False, ?_⟩⟩
    · intro v hv
      obtain ⟨b, _, rfl⟩ := List.mem_map.1 hv
      rfl
    · show rowAt 1 _ i = [_]
      unfold rowAt
      have hi' : i < (s.data.toList.map fun b => Value.int .u8 b.toNat).length := by simpa [strBytes] using hi
      rw [Nat.mul_one, List.drop_eq_getElem_cons hi']
      simp [strBytes]
  | nsl =>
    cases h
    obtain ⟨a, rfl⟩ := hv
    exact ⟨[], Or.inl ⟨a, 0, rfl, Or.inl rfl⟩, by simp, by simp, fun M _ => RowsOk.nil⟩
  | agg _ => cases h
  | isl _ _ _ => exact gen (by simp) h
  | fsl _ => exact gen (by simp) h
  | osl _ _ _ => exact gen (by simp) h
  | bad => exact gen (by simp) h
  | int _ _ => exact gen (by simp) h
  | bool _ => exact gen (by simp) h
  | ptr _ _ => exact gen (by simp) h
  | ept _ _ _ => exact gen (by simp) h
  | vpt _ _ => exact gen (by simp) h
  | clo _ _ _ => exact gen (by simp) h
  | nilp => exact gen (by simp) h
  | tup _ => exact gen (by simp) h
  | nilb _ => exact gen (by simp) h
end
end Go.Evr

namespace Go.Evr
section
variable {C : Ctx} {P : Program}
variable {X : Cx} {D : Nat → Nat → Prop} {E : Env} {S : St} {tm : List Value} {nx : Nat} {o : Oper} {l : List Nat} {e : Eff}

theorem rowAt_mem {W : World} {b k m i : Nat} {L : List Value} (hm : ∀ j v, L[j]? = some v → W.cell? ⟨b, k + j, none⟩ = some v) : ∀ j v, (rowAt m L i)[j]? = some v → W.cell? ⟨b, k + i * m + j, none⟩ = some v := by
  intro j v hj
  unfold rowAt at hj
  rw [List.getElem?_take] at hj
  split at hj
  · rw [List.getElem?_drop] at hj
    rw [Nat.add_assoc]; exact hm _ _ hj
  · cases hj

theorem app_core (I : Inv X D E S tm) (hn : ¬ D nx 0) {ats : Array TypeId} {t te : TypeId} (ty : TypeId) {i : TypeInfo} {z : Value} (h0 : ats[0]? = some t) (h1 : NoInt P ats) (ht : P.underlying t = some (.slice te)) (hi : P.info? te = some i) (hz : i.zero = some z)
    (hby : i.bytes ≤ 16384) (hb0 : 0 < i.bytes) {et : Ty} (hsz : i.size = et.cells) (hzs : z.cells.size = et.cells)
    {p0 p : Puts} (hnd : ((p0 ++ p).map (·.1)).Nodup) {ys0 ys : List et.den} {d0 dp : Bool} {a : Option Addr} {cap : Nat} (hcap : ys0.length ≤ cap)
    (hown : cap = 0 ∨ ∃ b k o, a = some ⟨b, k, none⟩ ∧ (o, none) ∈ p0 ∧ (∀ j, j < cap * et.cells → X.own b (k + j) = some (o, true)) ∧ Mine X.W b k (cap * et.cells))
    {olds : List Value} (hol : olds.length = ys0.length * et.cells) (hom : ys0.length = 0 ∨ ∃ b k, a = some ⟨b, k, none⟩ ∧ ∀ j v, olds[j]? = some v → X.W.cell? ⟨b, k + j, none⟩ = some v)
    (hold : ∀ M : Zone, (∀ b k, M b k → X.W.heap.size ≤ b ∨ ∃ o, X.own b k = some (o, true)) → RowsOk X M et ys0 d0 p0 (rowAt et.cells olds))
    {x : Value} (hx : AppOk X et x ys dp p) (hf : ys0.length + ys.length ≤ 4294967296) (g : List Bool) :
    ∃ v W', (Builtin.append_ ats ty #[.slice a ys0.length cap, x]).run P X.W = .ok v W' ∧ Done X D E S tm nx ⟨.fsl nx, (nx, some (.arr et (lcat ys0 ys) true (d0 && dp) 0)) :: (p0 ++ p), nx + 1, g⟩ v W' := by
  obtain ⟨news, s1, s2, s3, s4⟩ := hx
  have hrows : ∀ M : Zone, (∀ b k, M b k → X.W.heap.size ≤ b ∨ ∃ o, X.own b k = some (o, true)) → Off X M p → RowsOk X M et (lcat ys0 ys) (d0 && dp) (p0 ++ p) (rowAt et.cells (olds ++ news)) := fun M hM hO =>
    ((hold M hM).append (s4 M hO)).congr fun j _ => rowAt_app hol
  have hlen : (lcat ys0 ys).length = ys0.length + ys.length := by simp [lcat]
  have dom : ∀ b k o m, X.own b k = some (o, m) → b < X.W.heap.size := fun b k o m h => (I.dom b k o m h).1
  rw [← hsz] at hol s2 s1
  have hol' := hol
  have s2' := s2
  rw [hsz] at hol' s2'
  by_cases hroom : ys0.length + ys.length ≤ cap
  · rcases hown with hc0 | ⟨b, k, o, rfl, ho, q1, q2⟩
    · subst hc0
      have e1 : ys0.length = 0 := by omega
      have e2 : ys.length = 0 := by omega
      rw [e1]
      rw [e2] at s1 s2
      have hrun := run_append_zero (P := P) X.W ty h0 h1 ht hi (a := a) s2 s1
      have hr := hrows (fun _ _ => False) (fun _ _ h => h.elim) ⟨dom, fun _ _ h => h.elim⟩
      have := Done.arr I hn hr.mv hnd (M := fun _ _ => False) (W1 := X.W) (a := a) (xs := lcat ys0 ys) (dp := d0 && dp) (cap := 0) (g := g) (Frm.refl _ _) (fun _ _ h => h.elim) (fun _ _ h => h.elim) (by omega) (Or.inl rfl)
      rw [hlen, e1, e2] at this
      exact ⟨_, _, hrun, this⟩
    · have hok : o ∉ p.map (·.1) := by
        rw [List.map_append] at hnd
        exact fun hi => (List.nodup_append.1 hnd).2.2 o (List.mem_map.2 ⟨_, ho, rfl⟩) o hi rfl
      let M : Zone := fun b' k' => b' = b ∧ k ≤ k' ∧ k' < k + cap * et.cells
      have hMo : ∀ b' k', M b' k' → X.own b' k' = some (o, true) := by
        rintro b' k' ⟨rfl, h1, h2⟩
        have := q1 (k' - k) (by omega)
        rwa [show k + (k' - k) = k' by omega] at this
      have hr := hrows M (fun b k h => Or.inr ⟨o, hMo b k h⟩) ⟨dom, fun b k h => Or.inr ⟨o, hok, hMo b k h⟩⟩
      have hrun := run_append_in (P := P) X.W ty h0 h1 ht hi (b := b) (k := k) (n := ys0.length) (cap := cap) s2 s1 s3 hroom (by rw [hsz]; exact q2)
      rw [hsz] at hrun
      have hfit : ys0.length * et.cells + news.length ≤ cap * et.cells := by
        have := Nat.mul_le_mul_right et.cells hroom
        rw [Nat.add_mul] at this; omega
      have F : Frm M X.W (X.W.setCells b (k + ys0.length * et.cells) news) := Frm.setCells news _ _ fun j hj => ⟨rfl, by omega, by omega⟩
      have hin := World.cell?_setCells_in b news (k + ys0.length * et.cells) X.W fun j hj => by
        obtain ⟨⟨v, hv⟩, _⟩ := q2 (ys0.length * et.cells + j) (by omega)
        rw [← Nat.add_assoc] at hv; rw [hv]; rfl
      have hmem : ∀ j v, (olds ++ news)[j]? = some v → (X.W.setCells b (k + ys0.length * et.cells) news).cell? ⟨b, k + j, none⟩ = some v := by
        intro j v hj
        rw [List.getElem?_append] at hj
        split at hj
        · rename_i hlt
          rcases hom with hz' | ⟨b2, k2, hb2, hm⟩
          · rw [hz'] at hol'; omega
          · cases hb2
            rw [World.cell?_setCells_out b news _ _ _ fun _ _ => Or.inl (by simp only []; omega)]
            exact hm j v hj
        · rename_i hlt
          have hjl := (List.getElem?_eq_some_iff.1 hj)
          obtain ⟨hj1, hj2⟩ := hjl
          have := hin _ hj1
          rw [show k + ys0.length * et.cells + (j - olds.length) = k + j by omega, hj2] at this
          exact this
      have hsome : ∀ j, (X.W.cell? ⟨b, k + j, none⟩).isSome = true → ∃ v, (X.W.setCells b (k + ys0.length * et.cells) news).cell? ⟨b, k + j, none⟩ = some v := by
        intro j hj
        by_cases hjr : ys0.length * et.cells ≤ j ∧ j < ys0.length * et.cells + news.length
        · have := hin (j - ys0.length * et.cells) (by omega)
          rw [show k + ys0.length * et.cells + (j - ys0.length * et.cells) = k + j by omega] at this
          exact ⟨_, this⟩
        · rw [World.cell?_setCells_out b news _ _ _ fun _ _ => by simp only []; omega]
          exact Option.isSome_iff_exists.1 hj
      have := Done.arr I hn hr.mv hnd (M := M) (W1 := X.W.setCells b (k + ys0.length * et.cells) news) (a := some ⟨b, k, none⟩) (xs := lcat ys0 ys) (dp := d0 && dp) (cap := cap) (g := g) F
        (fun b k h => Or.inr ⟨o, List.mem_append_left _ ho, hMo b k h⟩) (fun b' k' h => Nat.lt_of_lt_of_le (dom _ _ _ _ (hMo b' k' h)) F.size) (by omega)
        (Or.inr ⟨b, k, rowAt et.cells (olds ++ news), rfl, fun j hj => ⟨rfl, by omega, by omega⟩, fun j hj => ?_, fun i' hi' => rowAt_mem hmem, hr.new hnd⟩)
      · rw [hlen] at this
        exact ⟨_, _, hrun, this⟩
      · obtain ⟨⟨v, hv⟩, hfz⟩ := q2 j hj
        exact ⟨hsome j (by rw [hv]; rfl), by rw [World.frozen?_setCells]; exact hfz⟩
  · have hr := hrows (newM X) (fun b k h => Or.inl (by unfold newM at h; omega)) (off_new I p)
    have hrun := run_append_out (P := P) X.W ty h0 h1 ht hi hz (a := a) (cap := cap) hol hom s2 s1 (by omega) hf hby hb0
    have hge := grownCap_ge X.W (ys0.length + ys.length) cap te
    let cells : Array Value := olds.toArray ++ news.toArray ++ Builtin.zeroCells z.cells (grownCap X.W (ys0.length + ys.length) cap te - (ys0.length + ys.length))
    have hcl : cells.toList.length = grownCap X.W (ys0.length + ys.length) cap te * et.cells := by
      simp only [cells, Array.length_toList, Array.size_append, List.size_toArray, size_zeroCells, hzs, hol', s2', ← Nat.add_mul]
      congr 1; omega
    obtain ⟨m1, m2⟩ := made_new X.W.drew cells te
    have := Done.newArr I hn hnd (et := et) (xs := lcat ys0 ys) (dp := d0 && dp) (cap := grownCap X.W (ys0.length + ys.length) cap te) (g := g) (W1 := X.W.drew.alloc (.cells cells te)) (cells := cells.toList)
      (Frm.drew.trans (Frm.alloc _)) (by rw [size_alloc]; show _ < X.W.heap.size + 1; omega) m1 m2 (by omega) hcl (hr.congr fun j hj => by
        have : cells.toList = (olds ++ news) ++ (Builtin.zeroCells z.cells (grownCap X.W (ys0.length + ys.length) cap te - (ys0.length + ys.length))).toList := by simp [cells]
        rw [this, rowAt_app (n := ys0.length + ys.length) (by rw [List.length_append, hol', s2', Nat.add_mul])]
        rw [if_pos (by rw [hlen] at hj; exact hj)])
    rw [hlen] at this
    exact ⟨_, _, hrun, this⟩
end
end Go.Evr

namespace Go.Evr
section
variable {C : Ctx} {P : Program}
variable {X : Cx} {D : Nat → Nat → Prop} {E : Env} {S : St} {tm : List Value} {nx : Nat} {o : Oper} {l : List Nat} {e : Eff}

theorem noInt_of (hC : CtxOk C P) {ats : Array TypeId} {t2 : Nat} (h : ats[1]? = some t2) (hk : (isSl (C.ty t2) || (C.ty t2 == some .str)) = true) : NoInt P ats := by
  cases hq : C.ty t2 with
  | none => rw [hq] at hk; cases hk
  | some u =>
    rw [hq] at hk
    cases u with
    | sl u =>
      obtain ⟨te, hu, _⟩ := (hC t2 _ hq).desc
      exact ⟨t2, _, h, hu, Or.inl ⟨te, rfl⟩⟩
    | str => exact ⟨t2, _, h, (hC t2 _ hq).desc, Or.inr rfl⟩
    | _ => cases hk

/-- The rows of an array that is handed in. -/
theorem old_rows (I : Inv X D E S tm) {p lo n : Nat} {et : Ty} {xs : List et.den} {d : Bool} {ver : Nat} (hx : X.ob p = some (.arr et xs true d ver)) (hlo : lo + n = xs.length) :
    ∃ a cap, X.loc p = .arr a cap ∧ xs.length ≤ cap ∧ ∀ a' : Option Addr, (lo < cap → ∃ b k, a = some ⟨b, k, none⟩ ∧ a' = some ⟨b, k + lo * et.cells, none⟩) →
      (cap - lo = 0 ∨ ∃ b k o, a' = some ⟨b, k, none⟩ ∧ (o, none) ∈ [(p, (none : Option Ob))] ∧ (∀ j, j < (cap - lo) * et.cells → X.own b (k + j) = some (o, true)) ∧ Mine X.W b k ((cap - lo) * et.cells)) ∧
      ∃ olds : List Value, olds.length = n * et.cells ∧ (n = 0 ∨ ∃ b k, a' = some ⟨b, k, none⟩ ∧ ∀ j v, olds[j]? = some v → X.W.cell? ⟨b, k + j, none⟩ = some v) ∧
        ∀ M : Zone, (∀ b k, M b k → X.W.heap.size ≤ b ∨ ∃ o, X.own b k = some (o, true)) → RowsOk X M et (lsub xs lo n) d [(p, none)] (rowAt et.cells olds) := by
  obtain ⟨a, cap, h1, h2, h3⟩ := obs' I p _ hx
  refine ⟨a, cap, h1, h2, fun a' ha' => ⟨?_, ?_⟩⟩
  · by_cases hlt : lo < cap
    · obtain ⟨b, k, rfl, rfl⟩ := ha' hlt
      rcases h3 with h3 | ⟨b2, k2, hb2, hm, _⟩
      · omega
      cases hb2
      obtain ⟨hm1, hm2⟩ := hm rfl
      refine Or.inr ⟨b, k + lo * et.cells, p, rfl, List.mem_singleton.2 rfl, fun j hj => ?_, fun j hj => ?_⟩
      · rw [Nat.add_assoc]; exact hm1 _ (mul_lt_of hj (by omega))
      · rw [Nat.add_assoc]; exact hm2 _ (mul_lt_of hj (by omega))
    · exact Or.inl (by omega)
  · have hlen : (lsub xs lo n).length = n := by unfold lsub; simp; omega
    have hmv : MoveOk X [(p, none)] := fun q hq => by
      simp only [List.mem_singleton] at hq
      subst hq
      exact ⟨et, xs, true, d, ver, hx, Or.inl ⟨rfl, rfl⟩⟩
    rcases Nat.eq_zero_or_pos n with hn | hn
    · exact ⟨[], by simp [hn], Or.inl hn, fun M _ => ⟨hmv, fun _ _ => ⟨fun _ _ _ => False, fun _ _ _ h => h.elim, fun _ _ _ _ h => h.elim, fun i hi => by omega⟩, fun _ _ _ i hi => by omega⟩⟩
    · obtain ⟨b, k, rfl, rfl⟩ := ha' (by omega)
      rcases h3 with h3 | ⟨b2, k2, hb2, _, hr⟩
      · omega
      cases hb2
      have hget : ∀ i (hi : i < (lsub xs lo n).length), (lsub xs lo n)[i] = xs[lo + i]'(by omega) := fun i hi => by simp [lsub]
      have haddr : ∀ i j, k + lo * et.cells + i * et.cells + j = k + (lo + i) * et.cells + j := fun i j => by rw [Nat.add_mul]; omega
      have hMn : ∀ {M : Zone}, (∀ b k, M b k → X.W.heap.size ≤ b ∨ ∃ o, X.own b k = some (o, true)) → ∀ b' k', X.own b' k' = some (p, false) → ¬ M b' k' := by
        intro M hM b' k' ho hm
        rcases hM b' k' hm with h | ⟨o, h⟩
        · have := (I.dom _ _ _ _ ho).1; omega
        · rw [ho] at h; cases h
      cases d with
      | true =>
        obtain ⟨ZR, r1, r2, r3⟩ := hr
        have hex : ∀ i, ∃ cs : List Value, ∀ hi : i < n, Own (ZR (lo + i)) X.W et (xs[lo + i]'(by omega)) cs ∧ ∀ j v, cs[j]? = some v → X.W.cell? ⟨b, k + lo * et.cells + i * et.cells + j, none⟩ = some v := by
          intro i
          by_cases hi : i < n
          · obtain ⟨cs, q1, q2⟩ := r3 (lo + i) (by omega)
            exact ⟨cs, fun _ => ⟨q1, fun j v hj => by rw [haddr]; exact q2 j v hj⟩⟩
          · exact ⟨[], fun h => absurd h hi⟩
        obtain ⟨cs, hcs⟩ := Classical.axiomOfChoice hex
        obtain ⟨L, l1, l2, l3⟩ := rows_cells (W := X.W) (b := b) (k := k + lo * et.cells) (n := n) (m := et.cells) (cs := cs) fun i hi => ⟨(hcs i hi).1.len, (hcs i hi).2⟩
        refine ⟨L, l1, Or.inr ⟨b, _, rfl, l2⟩, fun M hM => ⟨hmv, fun _ _ => ⟨fun i => ZR (lo + i), fun i b' k' hz => ⟨⟨p, false, by simp [taken], r1 _ _ _ hz⟩, hMn hM _ _ (r1 _ _ _ hz)⟩, fun i j b' k' q1 q2 => by have := r2 _ _ _ _ q1 q2; omega, fun i hi => ?_⟩, fun P hP hs i hi => ?_⟩⟩
        · rw [l3 i (by omega), hget i hi]; exact (hcs i (by omega)).1
        · rw [l3 i (by omega), hget i hi]
          refine (hcs i (by omega)).1.rep.zone fun b' k' hz => ⟨?_, hMn hM _ _ (r1 _ _ _ hz)⟩
          unfold ownP gPut
          rw [r1 _ _ _ hz]
          simp only [look_taken hP (hs _ (List.mem_singleton.2 rfl))]
      | false =>
        have hr : ∀ i (h : i < xs.length), ∃ cs, Rep (zoneOf X.own none) X.W et xs[i] cs ∧ ∀ j v, cs[j]? = some v → X.W.cell? ⟨b, k + i * et.cells + j, none⟩ = some v := hr
        have hex : ∀ i, ∃ cs : List Value, ∀ hi : i < n, Rep (zoneOf X.own none) X.W et (xs[lo + i]'(by omega)) cs ∧ ∀ j v, cs[j]? = some v → X.W.cell? ⟨b, k + lo * et.cells + i * et.cells + j, none⟩ = some v := by
          intro i
          by_cases hi : i < n
          · obtain ⟨cs, q1, q2⟩ := hr (lo + i) (by omega)
            exact ⟨cs, fun _ => ⟨q1, fun j v hj => by rw [haddr]; exact q2 j v hj⟩⟩
          · exact ⟨[], fun h => absurd h hi⟩
        obtain ⟨cs, hcs⟩ := Classical.axiomOfChoice hex
        obtain ⟨L, l1, l2, l3⟩ := rows_cells (W := X.W) (b := b) (k := k + lo * et.cells) (n := n) (m := et.cells) (cs := cs) fun i hi => ⟨(hcs i hi).1.len, (hcs i hi).2⟩
        refine ⟨L, l1, Or.inr ⟨b, _, rfl, l2⟩, fun M hM => ⟨hmv, (fun h => by cases h), fun P hP hs i hi => ?_⟩⟩
        rw [l3 i (by omega), hget i hi]
        refine (hcs i (by omega)).1.mono fun b' k' v hz hv => ⟨?_, hv⟩
        rcases hz with hz | ⟨q, hq, _⟩
        · refine ⟨ownP_none hz, fun hm => ?_⟩
          rcases hM b' k' hm with h | ⟨o, h⟩
          · have := cell_lt hv; omega
          · rw [hz] at h; cases h
        · cases hq

theorem fits_le {n : Nat} {g : List Bool} (h : ∀ b ∈ g, b = true) (hm : fits n ∈ g) : n ≤ 4294967296 := of_decide_eq_true (h _ hm)

theorem op_append (hC : CtxOk C P) {x y : Operand} {ats : Array Nat} {t t2 : Nat} (h0 : ats[0]? = some t) (h2 : ats[1]? = some t2) (hk : (isSl (C.ty t2) || (C.ty t2 == some .str)) = true)
    (ho : o.op = .call { callee := .builtin .append, args := #[x, y], argTypes := ats }) (I : Inv X D E S tm) (hn : ¬ D nx 0) (h : evAppend C nx t (S.ev x) (S.ev y) S.ob = some (l, e)) (g : ∀ b ∈ e.guards, b = true) : OpOk P X D E S tm nx o e := by
  have hx := ev_rel I x
  have hy := ev_rel I y
  have hni := noInt_of (P := P) hC h2 hk
  have dom : ∀ b k o m, X.own b k = some (o, m) → b < X.W.heap.size := fun b k o m h => (I.dom b k o m h).1
  have run : ∀ s v W', (⟨tm.toArray, []⟩ : Act).eval x = s → (∀ ty, (Builtin.append_ ats ty #[s, (⟨tm.toArray, []⟩ : Act).eval y]).run P X.W = .ok v W') → Done X D E S tm nx e v W' → OpOk P X D E S tm nx o e := by
    intro s v W' hv hr hd
    refine ⟨.value v, v, W', ?_, Or.inl rfl, hd⟩
    simp [execOp, ho, resolve, invoke, builtin, hv, hr]
  rw [obF I] at h
  unfold evAppend at h
  cases ht : C.ty t with
  | none => rw [ht] at h; cases h
  | some u =>
    rw [ht] at h
    cases u with
    | sl et =>
      obtain ⟨te, hu, hte⟩ := (hC t _ ht).desc
      obtain ⟨i, z, hi, hsz, hz, hzo, hby, hb0⟩ := (hC te _ hte).info
      have hzs : z.cells.size = et.cells := by
        have := (zero_own (C := C) (P := P) (W := X.W) (Z := fun _ _ => False) hzo ⟨te, (hC te _ hte).desc⟩).len
        simpa using this
      simp only [] at h
      -- from an array that is there
      have old : ∀ (p lo n : Nat) (xs : List et.den) (d : Bool) (ver : Nat) (a' : Option Addr) (cap0 : Nat), X.ob p = some (.arr et xs true d ver) → lo + n = xs.length →
          (∀ a cap, X.loc p = .arr a cap → cap0 = cap - lo ∧ (lo < cap → ∃ b k, a = some ⟨b, k, none⟩ ∧ a' = some ⟨b, k + lo * et.cells, none⟩)) →
          (⟨tm.toArray, []⟩ : Act).eval x = .slice a' n cap0 → ∀ (l1 : List Nat) (r : List et.den × Bool × Puts), appended et (S.ev y) X.ob = some (l1, r) → putsOk ((p, none) :: r.2.2) = true → n + r.1.length ≤ 4294967296 →
          e = ⟨.fsl nx, (nx, some (.arr et (lcat (lsub xs lo n) r.1) true (d && r.2.1) 0)) :: (p, none) :: r.2.2, nx + 1, e.guards⟩ → OpOk P X D E S tm nx o e := by
        intro p lo n xs d ver a' cap0 hob hlo hloc hev l1 r hap hpo hfit he
        obtain ⟨ys, dp, q⟩ := r
        obtain ⟨a, cap, c1, c2, c3⟩ := old_rows I hob hlo
        obtain ⟨rfl, c4⟩ := hloc a cap c1
        obtain ⟨k1, olds, k2, k3, k4⟩ := c3 a' c4
        have hnd := putsOk_iff.1 hpo
        simp only [] at hnd hfit he
        have hnq : (q.map (·.1)).Nodup := by simp only [List.map_cons, List.nodup_cons] at hnd; exact hnd.2
        have hA := appended_ok (obs' I) dom hap hy hnq
        have hlen : (lsub xs lo n).length = n := by unfold lsub; simp; omega
        obtain ⟨v, W', r1, r2⟩ := app_core I hn 0 h0 hni hu hi hz hby hb0 hsz hzs (p0 := [(p, none)]) (p := q) hnd (ys0 := lsub xs lo n) (ys := ys) (a := a') (cap := cap - lo) (by omega) k1 (olds := olds) (by rw [hlen]; exact k2) (by rw [hlen]; exact k3) k4 hA (by rw [hlen]; exact hfit) e.guards
        rw [hlen] at r1
        refine run _ v W' hev (fun ty => ?_) (by rw [he]; exact r2)
        have : Builtin.append_ ats ty = Builtin.append_ ats 0 := rfl
        rw [this]; exact r1
      cases hfx : S.ev x with
      | nsl =>
        rw [hfx] at h hx
        obtain ⟨a, hev⟩ := hx
        have h : ((appended et (S.ev y)).bind fun r => if putsOk r.2.2 then Rd.pure ⟨.fsl nx, (nx, some (.arr et r.1 true r.2.1 0)) :: r.2.2, nx + 1, [fits (llen r.1)]⟩ else Rd.fail) X.ob = some (l, e) := h
        obtain ⟨l1, r, l2, z', h3, h4, he⟩ := Rd.bind_some h
        obtain ⟨ys, dp, q⟩ := r
        simp only [] at h4
        split at h4
        · rename_i hpo
          cases h4
          cases he
          have hnq := putsOk_iff.1 hpo
          have hA := appended_ok (obs' I) dom h3 hy hnq
          have hfit : ys.length ≤ 4294967296 := fits_le g (List.mem_singleton.2 rfl)
          obtain ⟨v, W', r1, r2⟩ := app_core I hn 0 h0 hni hu hi hz hby hb0 hsz hzs (p0 := []) (p := q) hnq (ys0 := []) (d0 := true) (ys := ys) (a := a) (cap := 0) (Nat.le_refl _) (Or.inl rfl) (olds := []) (by simp) (Or.inl rfl) (fun M _ => RowsOk.nil) hA (by simpa using hfit) [fits (llen ys)]
          exact run _ v W' hev (fun ty => r1) (by simpa [lcat] using r2)
        · cases h4
      | fsl p =>
        rw [hfx] at h hx
        obtain ⟨l1, w, l2, z1, h3, h4, he⟩ := Rd.bind_some h
        obtain ⟨w', hw, hh⟩ := Rd.look_some h3
        cases hh
        cases he
        cases w with
        | box _ => cases h4
        | arr e' xs lv d ver =>
          cases lv with
          | false => cases h4
          | true =>
            obtain ⟨l3, xs', l4, z2, h5, h6, he'⟩ := Rd.bind_some h4
            cases he'
            obtain ⟨w2, hw2, hh⟩ := Rd.of_some h5
            cases hh
            obtain ⟨rfl, hq⟩ := castSl hw2
            cases hq
            obtain ⟨l5, r, l6, z3, h7, h8, he''⟩ := Rd.bind_some h6
            cases he''
            split at h8
            · rename_i hpo
              cases h8
              obtain ⟨a, cap, c1, c2⟩ := hx.2 _ _ _ _ _ hw
              refine old p 0 xs.length xs d ver a cap hw (by omega) (fun a1 cap1 hl => ?_) c2 l5 r h7 hpo ?_ ?_
              · rw [c1] at hl
                cases hl
                refine ⟨rfl, fun hlt => ?_⟩
                obtain ⟨a2, cap2, hl2, _, h9⟩ := obs' I _ _ hw
                rw [c1] at hl2
                cases hl2
                rcases h9 with h9 | ⟨b, k, hb, _⟩
                · omega
                · exact ⟨b, k, hb, by simpa using hb⟩
              · exact fits_le g (List.mem_singleton.2 rfl)
              · simp [lsub, lcat]
            · cases h8
      | osl p lo n =>
        rw [hfx] at h hx
        obtain ⟨l1, w, l2, z1, h3, h4, he⟩ := Rd.bind_some h
        obtain ⟨w', hw, hh⟩ := Rd.look_some h3
        cases hh
        cases he
        cases w with
        | box _ => cases h4
        | arr e' xs lv d ver =>
          cases lv with
          | false => cases h4
          | true =>
            obtain ⟨l3, xs', l4, z2, h5, h6, he'⟩ := Rd.bind_some h4
            cases he'
            obtain ⟨w2, hw2, hh⟩ := Rd.of_some h5
            cases hh
            obtain ⟨rfl, hq⟩ := castSl hw2
            cases hq
            obtain ⟨l5, r, l6, z3, h7, h8, he''⟩ := Rd.bind_some h6
            cases he''
            split at h8
            · rename_i hpo
              cases h8
              obtain ⟨a, cap, c1, c2, a', c3, c4⟩ := hx.2 _ _ _ _ _ hw
              have hsame : lo + n = xs.length := by
                have := g (nsame (nadd lo n) (llen xs)) (List.mem_cons_self ..)
                exact eq_of_beq this
              refine old p lo n xs d ver a' (cap - lo) hw hsame (fun a1 cap1 hl => ?_) c3 l5 r h7 hpo ?_ rfl
              · rw [c1] at hl
                cases hl
                exact ⟨rfl, c4⟩
              · exact fits_le g (List.mem_cons_of_mem _ (List.mem_singleton.2 rfl))
            · cases h8
      | isl _ _ _ => rw [hfx] at h; cases h
      | str _ => rw [hfx] at h; cases h
      | bad => rw [hfx] at h; cases h
      | int _ _ => rw [hfx] at h; cases h
      | bool _ => rw [hfx] at h; cases h
      | ptr _ _ => rw [hfx] at h; cases h
      | ept _ _ _ => rw [hfx] at h; cases h
      | vpt _ _ => rw [hfx] at h; cases h
      | clo _ _ _ => rw [hfx] at h; cases h
      | nilp => rw [hfx] at h; cases h
      | agg _ => rw [hfx] at h; cases h
      | tup _ => rw [hfx] at h; cases h
      | nilb _ => rw [hfx] at h; cases h
    | _ => cases h
end
end Go.Evr

namespace Go.Evr
section
variable {C : Ctx} {P : Program}
variable {X : Cx} {D : Nat → Nat → Prop} {E : Env} {S : St} {tm : List Value} {nx : Nat} {o : Oper} {l : List Nat} {e : Eff}

/-- An array that is written where it lies. -/
theorem Done.upd (I : Inv X D E S tm) {q : Nat} {p' : Puts} (hp' : MoveOk X p') (hnd' : (((q, (none : Option Ob)) :: p').map (·.1)).Nodup) {et : Ty} {xs ys : List et.den} {d dp : Bool} {ver ver' : Nat} (hx : X.ob q = some (.arr et xs true d ver)) (hlen : ys.length = xs.length)
    {W1 : World} (F : Frm (fun b k => X.own b k = some (q, true)) X.W W1)
    (hver : ver' = ver + 1 ∨ (ver' = ver ∧ ∀ i (h : i < xs.length) c e' zs, cellSl et xs[i] c e' zs → (∃ h' : i < ys.length, cellSl et ys[i] c e' zs) ∧
      ∀ b k cap w, X.loc q = .arr (some ⟨b, k, none⟩) cap → X.W.cell? ⟨b, k + i * et.cells + c, none⟩ = some w → W1.cell? ⟨b, k + i * et.cells + c, none⟩ = some w))
    (hr : ∀ a cap, X.loc q = .arr a cap → cap = 0 ∨ ∃ b k row, a = some ⟨b, k, none⟩ ∧ Mine W1 b k (cap * et.cells) ∧
      (∀ i, i < ys.length → ∀ j v, (row i)[j]? = some v → W1.cell? ⟨b, k + i * et.cells + j, none⟩ = some v) ∧ NewRows X ((q, none) :: p') (fun b k => X.own b k = some (q, true)) et ys dp row)
    {f : FV} {v : Value} (hv : ∀ X', VRel X' f v) (hf : ∀ D', f.ok D') {g : List Bool} :
    Done X D E S tm nx ⟨f, (q, some (.arr et ys true dp ver')) :: p', nx, g⟩ v W1 := by
  classical
  have hqob := I.obs q _ ((I.ob q).symm.trans hx)
  have hDq : D q 0 := I.dob q _ ((I.ob q).symm.trans hx)
  have hp : MoveOk X ((q, none) :: p') := fun r hr => (List.mem_cons.1 hr).elim (fun h => h ▸ ⟨et, xs, true, d, ver, hx, Or.inl ⟨rfl, rfl⟩⟩) (hp' r)
  have hlq : ∀ o, o ≠ q → lookP ((q, none) :: p') o = lookP p' o := fun o ho => by simp only [lookP]; rw [if_neg (Ne.symm ho)]
  have hq' : q ∉ p'.map (·.1) := by simp only [List.map_cons, List.nodup_cons] at hnd'; exact hnd'.1
  have hnp' : (p'.map (·.1)).Nodup := by simp only [List.map_cons, List.nodup_cons] at hnd'; exact hnd'.2
  generalize hpe : ((q, (none : Option Ob)) :: p') = p at *
  have hnd := hnd'
  have hqp : (q, none) ∈ p := by rw [← hpe]; exact List.mem_cons_self ..
  have hlkq := look_taken hnd hqp
  let M : Zone := fun b k => X.own b k = some (q, true)
  let own' : Nat → Nat → Option (Nat × Bool) := fun b k => if M b k then some (q, true) else ownP X.own p (tkOf q dp) b k
  let X' : Cx := { own := own', loc := X.loc,
                   ob := fun o => if o = q then some (.arr et ys true dp ver') else match lookP p o with | some x => x | none => X.ob o, W := W1 }
  have hown : ∀ b k, ¬ M b k → X'.own b k = ownP X.own p (tkOf q dp) b k := fun b k hb => by show own' b k = _; simp only [own']; rw [if_neg hb]
  have hcell : ∀ b k v, ¬ M b k → X.W.cell? ⟨b, k, none⟩ = some v → X'.W.cell? ⟨b, k, none⟩ = some v := fun b k v hm hv => F.cell b k v hm hv
  have hM0 : ∀ b k v, X.own b k = none → X.W.cell? ⟨b, k, none⟩ = some v → ¬ M b k := fun b k v h0 hv hm => by
    have hm : X.own b k = some (q, true) := hm
    rw [h0] at hm; cases hm
  have hM1 : ∀ b k o m, X.own b k = some (o, m) → (m = false ∨ lookP p o ≠ some none) → ¬ M b k := fun b k o m h0 ho hm => by
    have hm : X.own b k = some (q, true) := hm
    rw [h0] at hm; cases hm
    rcases ho with ho | ho
    · cases ho
    · exact ho hlkq
  have hob : ∀ o, (S.puts ((q, some (.arr et ys true dp ver')) :: p')).ob o = X'.ob o := by
    intro o
    rw [ob_puts, obPuts_look (by simp only [List.map_cons, List.nodup_cons]; exact ⟨hq', hnp'⟩)]
    simp only [lookP, X']
    by_cases h : o = q
    · subst h; simp
    · rw [if_neg (Ne.symm h), if_neg h, hlq o h]
      cases lookP p' o with
      | none => exact (I.ob o).symm
      | some x => rfl
  -- an object that is still there has the kind, the length and the place that it had
  have hold : ∀ o x, o ≠ q → X'.ob o = some x → (lookP p o = none ∧ X.ob o = some x) ∨ ∃ e ys lv d v lv' d', X.ob o = some (.arr e ys lv d v) ∧ x = .arr e ys lv' d' v ∧ lookP p o = some (some x) ∧ ((lv' = false) ∨ (lv' = lv ∧ d' = !e.deep)) := by
    intro o x ho hx
    simp only [X'] at hx
    rw [if_neg ho] at hx
    cases hlk : lookP p o with
    | none => rw [hlk] at hx; exact Or.inl ⟨rfl, hx⟩
    | some y =>
      rw [hlk] at hx
      simp only [] at hx
      subst hx
      obtain ⟨e, ys, lv, d, v, h1, h2⟩ := hp _ (lookP_mem hlk)
      rcases h2 with ⟨h2, _⟩ | h2 | h2
      · cases h2
      · cases h2; exact Or.inr ⟨e, ys, lv, d, v, false, d, h1, rfl, rfl, Or.inl rfl⟩
      · cases h2; exact Or.inr ⟨e, ys, lv, d, v, lv, !e.deep, h1, rfl, rfl, Or.inr ⟨rfl, rfl⟩⟩
  have hrowc : ∀ o e (ys : List e.den) lv d v, X.ob o = some (.arr e ys lv d v) → lookP p o ≠ some none → ∀ i (hi : i < ys.length) c e' zs, cellSl e ys[i] c e' zs →
      ∀ b k cap w, X.loc o = .arr (some ⟨b, k, none⟩) cap → X.W.cell? ⟨b, k + i * e.cells + c, none⟩ = some w → X'.W.cell? ⟨b, k + i * e.cells + c, none⟩ = some w := by
    intro o e ys lv d v ho hlk i hi c e' zs hc b k cap w hloc hw
    refine hcell _ _ _ (fun hm => ?_) hw
    obtain ⟨a1, cap1, q1, q2, q3⟩ := (I.obs o _ ((I.ob o).symm.trans ho)).rows
    rw [hloc] at q1
    cases q1
    obtain ⟨b2, k2, cs, hbk, hrep, hat⟩ := q3 i hi
    cases hbk
    have hc' := cellSl_lt hc
    have hlen := hrep.len
    obtain ⟨hz, _⟩ := hat c _ (List.getElem?_eq_getElem (by omega))
    rcases hz with hz | ⟨o1, m1, ho1, hz⟩
    · exact hM0 _ _ _ hz hw hm
    · simp only [List.mem_singleton] at ho1; subst ho1
      exact hM1 _ _ _ _ hz (Or.inr hlk) hm
  have K : Keeps X X' D := by
    refine ⟨fun b k v hz hv => ⟨by rw [hown b k (hM0 b k v hz hv)]; exact ownP_none hz, hcell b k v (hM0 b k v hz hv) hv⟩, fun o e ys lv d ver ho hd => ?_, fun o cs ho hd => ?_, fun o e ys lv d ver1 ho hd => ?_⟩
    · by_cases hon : o = q
      · subst hon
        simp only [X', if_true] at ho
        cases ho
        exact ⟨xs, _, _, _, hx, rfl, hlen.symm⟩
      · refine (hold o _ hon ho).elim (fun h => ⟨ys, lv, d, ver, h.2, rfl, rfl⟩) ?_
        rintro ⟨e', ys', lv0, d0, v0, lv', d', h1, h2, _⟩
        cases h2
        exact ⟨ys, lv0, d0, ver, h1, rfl, rfl⟩
    · by_cases hon : o = q
      · subst hon; simp only [X', if_true] at ho; cases ho
      · refine (hold o _ hon ho).elim (fun h => ⟨cs, h.2, rfl⟩) ?_
        rintro ⟨e', ys', lv0, d0, v0, lv', d', h1, h2, _⟩
        cases h2
    · by_cases hon : o = q
      · subst hon
        simp only [X', if_true] at ho
        cases ho
        rcases hver with rfl | ⟨rfl, htag⟩
        · have := I.dver _ _ _ _ _ _ ((I.ob o).symm.trans hx) _ hd
          omega
        · refine ⟨xs, _, _, hx, rfl, fun b k v hz hv => ?_, htag⟩
          have hm := hM1 b k o false hz (Or.inl rfl)
          refine ⟨?_, hcell b k v hm hv⟩
          rw [hown b k hm]
          unfold ownP gPut tkOf
          rw [hz]
          simp only [hlkq]
          cases dp <;> simp
      · have hz : ∀ b k v, X.own b k = some (o, false) → X.W.cell? ⟨b, k, none⟩ = some v → (X'.own b k = none ∨ X'.own b k = some (o, false)) ∧ X'.W.cell? ⟨b, k, none⟩ = some v := by
          intro b k v hz hv
          have hm := hM1 b k o false hz (Or.inl rfl)
          refine ⟨?_, hcell b k v hm hv⟩
          rw [hown b k hm]
          unfold ownP gPut
          rw [hz]
          simp only []
          rcases hold o _ hon ho with h | ⟨e', ys', lv0, d0, v0, lv', d', h1, h2, h3, h4⟩
          · rw [h.1]; exact Or.inr rfl
          · rw [h3]
            cases h2
            cases lv <;> simp
        have hlk : lookP p o ≠ some none := by
          rcases hold o _ hon ho with h | ⟨e', ys', lv0, d0, v0, lv', d', h1, h2, h3, h4⟩
          · rw [h.1]; simp
          · rw [h3]; simp
        rcases hold o _ hon ho with h | ⟨e', ys', lv0, d0, v0, lv', d', h1, h2, h3, h4⟩
        · have := h.2
          exact ⟨ys, lv, d, h.2, rfl, hz, fun i hi c e' zs hc => ⟨⟨hi, hc⟩, hrowc o _ _ _ _ _ (by assumption) hlk i hi c e' zs hc⟩⟩
        · cases h2
          exact ⟨ys, lv0, d0, h1, rfl, hz, fun i hi c e' zs hc => ⟨⟨hi, hc⟩, hrowc o _ _ _ _ _ (by assumption) hlk i hi c e' zs hc⟩⟩
  have hR : ∀ b k, M b k → E.W0.heap.size ≤ b ∨ E.R0 b k := fun b k hm => (I.dom b k q true hm).2.1
  have hF : Frm E.R0 E.W0 W1 := by
    refine ⟨F.os.trans I.fr.os, F.tape.trans I.fr.tape, F.output.trans I.fr.output, Nat.le_trans I.fr.size F.size, fun b hb hk => ?_, fun b k v hk hv => ?_, fun b k hb hk => ?_⟩
    · exact (F.block b (Nat.lt_of_lt_of_le hb I.fr.size) fun k hm => (hR b k hm).elim (fun h => by omega) (hk k)).trans (I.fr.block b hb hk)
    · exact F.cell b k v (fun hm => (hR b k hm).elim (fun h => by have := cell_lt hv; omega) hk) (I.fr.cell b k v hk hv)
    · exact (F.frozen b k (Nat.lt_of_lt_of_le hb I.fr.size) fun hm => (hR b k hm).elim (fun h => by omega) hk).trans (I.fr.frozen b k hb hk)
  have hkeep : ∀ o, lookP p o = none → ∀ b k m, X.own b k = some (o, m) → X'.own b k = some (o, m) ∧ X'.W.frozen? ⟨b, k, none⟩ = X.W.frozen? ⟨b, k, none⟩ ∧ ∀ v, X.W.cell? ⟨b, k, none⟩ = some v → X'.W.cell? ⟨b, k, none⟩ = some v := by
    intro o ho b k m hw
    have hb := (I.dom b k o m hw).1
    have hm := hM1 b k o m hw (Or.inr (by rw [ho]; simp))
    refine ⟨?_, F.frozen b k hb hm, fun v => hcell b k v hm⟩
    rw [hown b k hm]; unfold ownP gPut; rw [hw]; simp only [ho]
  have hobq : X'.ob q = some (.arr et ys true dp ver') := if_pos rfl
  refine ⟨X', fun o n => D o n ∨ (o = q ∧ n = ver'), rfl, ⟨fun o => (hob o).symm, fun b k o m ho => ?_, hF, fun r hr => ⟨(I.pin r hr).1, Or.inl (I.pin r hr).2⟩,
    I.tmps.keeps K I.okt, fun o x hx => ?_, I.okt.mono (fun _ _ h => Or.inl h), fun o x hx => ?_, fun o x hx => ?_, fun o e ys lv d ver hx => ?_, fun o ho => ?_, fun o v hv => hv.elim (fun h => Or.inl (I.dknown o v h)) fun h => Or.inl (h.1 ▸ hDq), fun o e zs lv d ver1 hx v hv => ?_⟩, hv X', hf _, fun _ _ h => Or.inl h, Nat.le_refl _, fun o ho => ?_⟩
  · have ho' : own' b k = some (o, m) := ho
    have hsz := F.size
    show b < W1.heap.size ∧ _
    simp only [own'] at ho'
    split at ho'
    · rename_i hb
      cases ho'
      exact ⟨Nat.lt_of_lt_of_le (I.dom b k q true hb).1 hsz, hR b k hb, _, (hob _).trans hobq⟩
    · unfold ownP gPut at ho'
      cases hw : X.own b k with
      | none => rw [hw] at ho'; cases ho'
      | some r =>
        obtain ⟨o1, m1⟩ := r
        rw [hw] at ho'
        simp only [] at ho'
        obtain ⟨h1, h2, x, h3⟩ := I.dom b k o1 m1 hw
        refine ⟨by omega, h2, ?_⟩
        by_cases ho1 : o1 = q
        · subst ho1
          rw [hlkq] at ho'
          have ho' : tkOf o1 dp = some (o, m) := ho'
          unfold tkOf at ho'
          split at ho'
          · cases ho'; exact ⟨_, (hob _).trans hobq⟩
          · cases ho'
        · cases hlk : lookP p o1 with
          | none =>
            rw [hlk] at ho'
            cases ho'
            refine ⟨x, ?_⟩
            rw [hob]; simp only [X']; rw [if_neg ho1, hlk, I.ob]; exact h3
          | some y =>
            rw [hlk] at ho'
            obtain ⟨e, zs, lv, d, v, q1, q2⟩ := hp _ (lookP_mem hlk)
            cases y with
            | none =>
              have ho' : tkOf q dp = some (o, m) := ho'
              unfold tkOf at ho'
              split at ho'
              · cases ho'; exact ⟨_, (hob _).trans hobq⟩
              · cases ho'
            | some z =>
              cases z with
              | box _ => rcases q2 with ⟨q2, _⟩ | q2 | q2 <;> cases q2
              | arr e2 ys2 lv2 d2 v2 =>
                cases lv2 with
                | false => cases ho'
                | true =>
                  cases m1 with
                  | false => cases ho'
                  | true =>
                    cases ho'
                    refine ⟨.arr e2 ys2 true d2 v2, ?_⟩
                    rw [hob]; simp only [X']; rw [if_neg ho1, hlk]
  · rw [hob] at hx
    by_cases hon : o = q
    · subst hon
      rw [hobq] at hx
      cases hx
      obtain ⟨a, cap, c1, c2, c3⟩ := hqob
      refine ⟨a, cap, c1, by omega, (hr a cap c1).imp id ?_⟩
      rintro ⟨b, k, row, rfl, r2, r3, r4⟩
      by_cases hc0 : cap = 0
      · subst hc0
        refine ⟨b, k, rfl, fun _ => ⟨fun j hj => by omega, r2⟩, ?_⟩
        cases dp with
        | true => exact ⟨fun _ _ _ => False, fun _ _ _ h => h.elim, fun _ _ _ _ h => h.elim, fun i hi => by omega⟩
        | false => exact fun i hi => by omega
      · rcases c3 with c3 | ⟨b2, k2, hb2, hm, _⟩
        · exact absurd c3 hc0
        cases hb2
        refine ⟨b, k, rfl, fun _ => ⟨fun j hj => ?_, r2⟩, ?_⟩
        · show own' _ _ = _
          simp only [own']
          exact if_pos ((hm rfl).1 j hj)
        · unfold NewRows at r4
          cases dp with
          | true =>
            obtain ⟨ZR, q1, q2, q3⟩ := r4
            have hzr : ∀ i b k, ZR i b k → X'.own b k = some (o, false) := by
              intro i b k hz
              obtain ⟨⟨o1, m1, h1, h2⟩, hm⟩ := q1 i b k hz
              rw [hown b k hm]
              unfold ownP gPut
              rw [h2]
              simp only [look_taken hnd (mem_taken.1 h1), tkOf, if_true]
            refine ⟨ZR, hzr, q2, fun i hi => ⟨_, (q3 i hi).mono (fun _ _ h => h) (fun b k v hz hv => hcell b k v (q1 i b k hz).2 hv) (fun b k hz hf => ?_), r3 i hi⟩⟩
            obtain ⟨⟨o1, m1, h1, h2⟩, hm⟩ := q1 i b k hz
            exact (F.frozen b k (I.dom b k o1 m1 h2).1 hm).trans hf
          | false =>
            intro i hi
            refine ⟨_, (r4 i hi).mono fun b k v hz hv => ⟨Or.inl ?_, hcell b k v hz.2 hv⟩, r3 i hi⟩
            rw [hown b k hz.2]; exact hz.1
    · rcases hold o x hon hx with h | ⟨e, ys, lv, d, v, lv', d', h1, rfl, h3, h4⟩
      · exact (I.obs o x ((I.ob o).symm.trans h.2)).keeps K rfl (I.oko o x ((I.ob o).symm.trans h.2)) (hkeep o h.1)
      · have hob0 := I.obs o _ ((I.ob o).symm.trans h1)
        have hloc : X'.loc o = X.loc o := rfl
        cases lv' with
        | false =>
          -- published
          obtain ⟨a, cap0, q1, q2, q3⟩ := hob0.rows
          have hz : ∀ b k w, zoneIds X.own [o] b k → X.W.cell? ⟨b, k, none⟩ = some w → zoneOf X'.own none b k ∧ X'.W.cell? ⟨b, k, none⟩ = some w := by
            intro b k w hz hw
            have hm : ¬ M b k := by
              rcases hz with hz | ⟨o1, m1, ho1, hz⟩
              · exact hM0 b k w hz hw
              · simp only [List.mem_singleton] at ho1; subst ho1
                exact hM1 b k _ _ hz (Or.inr (by rw [h3]; simp))
            refine ⟨Or.inl ?_, hcell b k w hm hw⟩
            rw [hown b k hm]
            rcases hz with hz | ⟨o1, m1, ho1, hz⟩
            · exact ownP_none hz
            · simp at ho1; subst ho1
              unfold ownP gPut; rw [hz]; simp only [h3]
          obtain ⟨a', cap', p1, p2, p3⟩ := hob0
          rw [q1] at p1
          cases p1
          refine ⟨a, cap0, hloc.trans q1, q2, p3.imp id ?_⟩
          rintro ⟨b, k, rfl, _, _⟩
          refine ⟨b, k, rfl, fun h => (by cases h), fun i hi => ?_⟩
          obtain ⟨b2, k2, cs, hbk, hrep, hat⟩ := q3 i hi
          cases hbk
          exact ⟨cs, hrep.mono hz, hat.mono hz⟩
        | true =>
          rcases h4 with h4 | ⟨rfl, rfl⟩
          · cases h4
          -- its own arrays are published
          have hmain : ∀ b k, X.own b k = some (o, true) → X'.own b k = some (o, true) := by
            intro b k hw
            rw [hown b k (hM1 b k o true hw (Or.inr (by rw [h3]; simp)))]; unfold ownP gPut; rw [hw]; simp only [h3]; rfl
          have hnest : ∀ b k, X.own b k = some (o, false) → X'.own b k = none := by
            intro b k hw
            rw [hown b k (hM1 b k o false hw (Or.inr (by rw [h3]; simp)))]; unfold ownP gPut; rw [hw]; simp only [h3]; rfl
          obtain ⟨a, cap0, q1, q2, q3⟩ := hob0
          refine ⟨a, cap0, hloc.trans q1, q2, q3.imp id ?_⟩
          rintro ⟨b, k, rfl, hm, hrw⟩
          obtain ⟨hm1, hm2⟩ := hm rfl
          have hnm : ∀ b k m, X.own b k = some (o, m) → ¬ M b k := fun b k m hw => hM1 b k o m hw (Or.inr (by rw [h3]; simp))
          refine ⟨b, k, rfl, fun _ => ⟨fun j hj => hmain _ _ (hm1 j hj), fun j hj => ?_⟩, ?_⟩
          · obtain ⟨⟨w, hw⟩, hf⟩ := hm2 j hj
            exact ⟨⟨w, hcell _ _ _ (hnm _ _ _ (hm1 j hj)) hw⟩, (F.frozen _ _ (cell_lt hw) (hnm _ _ _ (hm1 j hj))).trans hf⟩
          · have hcl : ∀ i, i < ys.length → ∀ cs : List Value, cs.length = e.cells → ∀ (j : Nat) (v : Value), cs[j]? = some v → ¬ M b (k + i * e.cells + j) := by
              intro i hi cs hcs j v hj
              have hj' := (List.getElem?_eq_some_iff.1 hj).1
              have := hm1 _ (row_lt hi q2 (show j < e.cells by omega))
              rw [← Nat.add_assoc] at this
              exact hnm _ _ _ this
            have hrep : ∀ i (hi : i < ys.length), ∃ cs, Rep (zoneOf X'.own none) X'.W e ys[i] cs ∧ ∀ j v, cs[j]? = some v → X'.W.cell? ⟨b, k + i * e.cells + j, none⟩ = some v := by
              intro i hi
              cases d with
              | true =>
                obtain ⟨ZR, r1, _, r3⟩ := hrw
                obtain ⟨cs, w1, w2⟩ := r3 i hi
                exact ⟨cs, w1.rep.mono fun b' k' v hz hv => ⟨Or.inl (hnest _ _ (r1 i b' k' hz)), hcell _ _ _ (hnm _ _ _ (r1 i b' k' hz)) hv⟩, fun j v hj => hcell _ _ _ (hcl i hi cs w1.len j v hj) (w2 j v hj)⟩
              | false =>
                obtain ⟨cs, w1, w2⟩ := hrw i hi
                refine ⟨cs, w1.mono fun b' k' v hz hv => ?_, fun j v hj => hcell _ _ _ (hcl i hi cs w1.len j v hj) (w2 j v hj)⟩
                rcases hz with hz | ⟨q, hq, _⟩
                · exact ⟨Or.inl (by rw [hown _ _ (hM0 _ _ _ hz hv)]; exact ownP_none hz), hcell _ _ _ (hM0 _ _ _ hz hv) hv⟩
                · cases hq
            cases hed : e.deep with
            | true => exact hrep
            | false =>
              refine ⟨fun _ _ _ => False, fun _ _ _ h => h.elim, fun _ _ _ _ h => h.elim, fun i hi => ?_⟩
              obtain ⟨cs, w1, w2⟩ := hrep i hi
              exact ⟨cs, Own.flat hed w1, w2⟩
  · rw [hob] at hx
    by_cases hon : o = q
    · subst hon; rw [hobq] at hx; cases hx; trivial
    · rcases hold o x hon hx with h | ⟨e, ys, lv, d, v, lv', d', h1, rfl, _⟩
      · have := I.oko o x ((I.ob o).symm.trans h.2)
        cases x with
        | box cs => exact okL.mono (fun _ _ h => Or.inl h) (by exact this)
        | arr => trivial
      · trivial
  · rw [hob] at hx
    by_cases hon : o = q
    · exact Or.inl (hon ▸ hDq)
    · rcases hold o x hon hx with h | ⟨e, ys, lv, d, v, lv', d', h1, rfl, _⟩
      · exact Or.inl (I.dob o x ((I.ob o).symm.trans h.2))
      · exact Or.inl (I.dob o _ ((I.ob o).symm.trans h1))
  · rw [hob] at hx
    by_cases hon : o = q
    · subst hon; rw [hobq] at hx; cases hx; exact Or.inr ⟨rfl, rfl⟩
    · rcases hold o _ hon hx with h | ⟨e', ys', lv', d', v, lv2, d2, h1, h2, _⟩
      · exact Or.inl (I.dcur _ _ _ _ _ _ ((I.ob o).symm.trans h.2))
      · cases h2; exact Or.inl (I.dcur _ _ _ _ _ _ ((I.ob o).symm.trans h1))
  · have hl := puts_len ((q, some (.arr et ys true dp ver')) :: p') S
    rcases ho with ho | ⟨rfl, _⟩
    · exact Nat.lt_of_lt_of_le (I.dlen o ho) hl.1
    · exact hl.2 _ (List.mem_cons_self ..)
  · rw [hob] at hx
    by_cases hon : o = q
    · subst hon
      rw [hobq] at hx
      cases hx
      rcases hv with hv | ⟨_, rfl⟩
      · have := I.dver _ _ _ _ _ _ ((I.ob o).symm.trans ‹X.ob o = some (.arr et xs true d ver)›) _ hv
        rcases hver with rfl | ⟨rfl, _⟩ <;> omega
      · exact Nat.le_refl _
    · rcases hv with hv | ⟨hv, _⟩
      · rcases hold o _ hon hx with h | ⟨e', ys', lv', d', v, lv2, d2, h1, h2, _⟩
        · exact I.dver _ _ _ _ _ _ ((I.ob o).symm.trans h.2) _ hv
        · cases h2; exact I.dver _ _ _ _ _ _ ((I.ob o).symm.trans h1) _ hv
      · exact absurd hv hon
  · exact ho.elim Or.inl fun h => Or.inl (h.1 ▸ hDq)
end
end Go.Evr

namespace Go.Evr
section
variable {C : Ctx} {P : Program}
variable {X : Cx} {D : Nat → Nat → Prop} {E : Env} {S : St} {tm : List Value} {nx : Nat} {o : Oper} {l : List Nat} {e : Eff}

/-- A box that is written where it lies. -/
theorem Done.boxUpd (I : Inv X D E S tm) {q : Nat} {cs cs' : List FV} (hx : X.ob q = some (.box cs)) {W1 : World} (F : Frm (fun b k => X.own b k = some (q, true)) X.W W1) (hok : okL D cs')
    (hr : ∀ b k, X.loc q = .box b k → ∃ us, LRel X cs' us ∧ ∀ j v, us[j]? = some v → X.own b (k + j) = some (q, true) ∧ W1.cell? ⟨b, k + j, none⟩ = some v ∧ W1.frozen? ⟨b, k + j, none⟩ = false)
    {f : FV} {v : Value} (hv : ∀ X', VRel X' f v) (hf : ∀ D', f.ok D') {g : List Bool} :
    Done X D E S tm nx ⟨f, [(q, some (.box cs'))], nx, g⟩ v W1 := by
  have hqob := I.obs q _ ((I.ob q).symm.trans hx)
  have hDq : D q 0 := I.dob q _ ((I.ob q).symm.trans hx)
  let X' : Cx := { own := X.own, loc := X.loc, ob := fun o => if o = q then some (.box cs') else X.ob o, W := W1 }
  have hcell : ∀ b k v, X.own b k ≠ some (q, true) → X.W.cell? ⟨b, k, none⟩ = some v → X'.W.cell? ⟨b, k, none⟩ = some v := fun b k v hm hv => F.cell b k v hm hv
  have hob : ∀ o, (S.puts [(q, some (.box cs'))]).ob o = X'.ob o := fun o => by rw [ob_puts]; show (if o = q then _ else S.ob o) = _; simp only [X']; rw [I.ob]
  have hobq : X'.ob q = some (.box cs') := if_pos rfl
  have hobo : ∀ o, o ≠ q → X'.ob o = X.ob o := fun o ho => if_neg ho
  have K : Keeps X X' D := by
    refine ⟨fun b k v hz hv => ⟨hz, hcell b k v (by rw [hz]; simp) hv⟩, fun o e ys lv d ver ho hd => ?_, fun o cs ho hd => ?_, fun o e ys lv d ver ho hd => ?_⟩
    · by_cases hon : o = q
      · subst hon; rw [hobq] at ho; cases ho
      · rw [hobo o hon] at ho; exact ⟨ys, lv, d, ver, ho, rfl, rfl⟩
    · by_cases hon : o = q
      · subst hon; exact ⟨_, hx, rfl⟩
      · rw [hobo o hon] at ho; exact ⟨_, ho, rfl⟩
    · by_cases hon : o = q
      · subst hon; rw [hobq] at ho; cases ho
      · rw [hobo o hon] at ho
        refine ⟨ys, lv, d, ho, rfl, fun b k v hz hv => ⟨Or.inr hz, hcell b k v (by rw [hz]; simp) hv⟩, fun i hi c e' zs hc => ⟨⟨hi, hc⟩, fun b k cap w hloc hw => ?_⟩⟩
        refine hcell _ _ _ (fun hm => ?_) hw
        obtain ⟨a1, cap1, q1, q2, q3⟩ := (I.obs o _ ((I.ob o).symm.trans ho)).rows
        rw [hloc] at q1
        cases q1
        obtain ⟨b2, k2, ds, hbk, hrep, hat⟩ := q3 i hi
        cases hbk
        have hc' := cellSl_lt hc
        have hlen := hrep.len
        obtain ⟨hz, _⟩ := hat c _ (List.getElem?_eq_getElem (by omega))
        rcases hz with hz | ⟨o1, m1, ho1, hz⟩
        · rw [hm] at hz; cases hz
        · simp only [List.mem_singleton] at ho1; subst ho1
          rw [hm] at hz; cases hz; exact hon rfl
  have hF : Frm E.R0 E.W0 W1 := by
    have hR : ∀ b k, X.own b k = some (q, true) → E.W0.heap.size ≤ b ∨ E.R0 b k := fun b k hm => (I.dom b k q true hm).2.1
    refine ⟨F.os.trans I.fr.os, F.tape.trans I.fr.tape, F.output.trans I.fr.output, Nat.le_trans I.fr.size F.size, fun b hb hk => ?_, fun b k v hk hv => ?_, fun b k hb hk => ?_⟩
    · exact (F.block b (Nat.lt_of_lt_of_le hb I.fr.size) fun k hm => (hR b k hm).elim (fun h => by omega) (hk k)).trans (I.fr.block b hb hk)
    · exact F.cell b k v (fun hm => (hR b k hm).elim (fun h => by have := cell_lt hv; omega) hk) (I.fr.cell b k v hk hv)
    · exact (F.frozen b k (Nat.lt_of_lt_of_le hb I.fr.size) fun hm => (hR b k hm).elim (fun h => by omega) hk).trans (I.fr.frozen b k hb hk)
  refine ⟨X', D, rfl, ⟨fun o => (hob o).symm, fun b k o m ho => ?_, hF, I.pin, I.tmps.keeps K I.okt, fun o x hx => ?_, I.okt, fun o x hx => ?_, fun o x hx => ?_, fun o e ys lv d ver hx => ?_, fun o ho => ?_, I.dknown, fun o e zs lv d ver1 hx v hv => ?_⟩, hv X', hf _, fun _ _ h => h, Nat.le_refl _, fun o ho => Or.inl ho⟩
  · obtain ⟨h1, h2, x, h3⟩ := I.dom b k o m ho
    refine ⟨Nat.lt_of_lt_of_le h1 F.size, h2, ?_⟩
    by_cases hon : o = q
    · subst hon; exact ⟨_, (hob _).trans hobq⟩
    · exact ⟨x, (hob _).trans ((hobo o hon).trans ((I.ob o).trans h3))⟩
  · rw [hob] at hx
    by_cases hon : o = q
    · subst hon
      rw [hobq] at hx
      cases hx
      obtain ⟨b, k, us, h1, _, _⟩ := hqob
      obtain ⟨us', h2, h3⟩ := hr b k h1
      exact ⟨b, k, us', h1, h2.keeps K hok, h3⟩
    · rw [hobo o hon] at hx
      refine (I.obs o x ((I.ob o).symm.trans hx)).keeps K rfl (I.oko o x ((I.ob o).symm.trans hx)) fun b k m hw => ⟨hw, F.frozen b k (I.dom b k o m hw).1 (by rw [hw]; simp [hon]), fun v => hcell b k v (by rw [hw]; simp [hon])⟩
  · rw [hob] at hx
    by_cases hon : o = q
    · subst hon; rw [hobq] at hx; cases hx; exact hok
    · rw [hobo o hon] at hx; exact I.oko o x ((I.ob o).symm.trans hx)
  · rw [hob] at hx
    by_cases hon : o = q
    · exact hon ▸ hDq
    · rw [hobo o hon] at hx; exact I.dob o x ((I.ob o).symm.trans hx)
  · rw [hob] at hx
    by_cases hon : o = q
    · subst hon; rw [hobq] at hx; cases hx
    · rw [hobo o hon] at hx; exact I.dcur _ _ _ _ _ _ ((I.ob o).symm.trans hx)
  · exact Nat.lt_of_lt_of_le (I.dlen o ho) (puts_len _ S).1
  · rw [hob] at hx
    by_cases hon : o = q
    · subst hon; rw [hobq] at hx; cases hx
    · rw [hobo o hon] at hx; exact I.dver _ _ _ _ _ _ ((I.ob o).symm.trans hx) _ hv

/-- Values laid over cells that are there. -/
theorem setCells_over {W : World} {b k off : Nat} {us vs : List Value} (hc : ∀ j v, us[j]? = some v → W.cell? ⟨b, k + j, none⟩ = some v) (hl : off + vs.length ≤ us.length) :
    ∀ j v, (us.take off ++ vs ++ us.drop (off + vs.length))[j]? = some v → (W.setCells b (k + off) vs).cell? ⟨b, k + j, none⟩ = some v := by
  have hin := World.cell?_setCells_in b vs (k + off) W fun j hj => by
    have := hc (off + j) _ (List.getElem?_eq_getElem (by omega))
    rw [← Nat.add_assoc] at this; rw [this]; rfl
  intro j v hj
  by_cases h1 : j < off
  · rw [List.append_assoc, List.getElem?_append_left (by simp; omega), List.getElem?_take, if_pos h1] at hj
    rw [World.cell?_setCells_out b vs _ _ _ fun _ _ => Or.inl (by simp only []; omega)]
    exact hc j v hj
  · by_cases h2 : j < off + vs.length
    · rw [List.append_assoc, List.getElem?_append_right (by simp; omega), List.getElem?_append_left (by simp; omega)] at hj
      have hj' := List.getElem?_eq_some_iff.1 hj
      obtain ⟨q1, q2⟩ := hj'
      have := hin _ q1
      simp only [List.length_take] at this q2
      rw [q2] at this
      rwa [show k + off + (j - min off us.length) = k + j by omega] at this
    · rw [List.getElem?_append_right (by simp; omega), List.getElem?_drop] at hj
      rw [World.cell?_setCells_out b vs _ _ _ fun _ _ => Or.inr (by simp only []; omega)]
      have := hc _ v hj
      simp only [List.length_append, List.length_take] at this
      rwa [show k + (off + vs.length + (j - (min off us.length + vs.length))) = k + j by omega] at this
end
end Go.Evr

namespace Go.Evr
section
variable {C : Ctx} {P : Program}
variable {X : Cx} {D : Nat → Nat → Prop} {E : Env} {S : St} {tm : List Value} {nx : Nat} {o : Oper} {l : List Nat} {e : Eff}

/-- Values laid over a list's. -/
def splL (cs : List Value) (off : Nat) (vs : List Value) : List Value := cs.take off ++ vs ++ cs.drop (off + vs.length)
theorem splL_whole {cs vs : List Value} (h : vs.length = cs.length) : splL cs 0 vs = vs := by simp [splL, h]
theorem splL_left {v1 v2 vs : List Value} {off : Nat} (h : off + vs.length ≤ v1.length) : splL (v1 ++ v2) off vs = splL v1 off vs ++ v2 := by
  unfold splL
  rw [List.take_append_of_le_length (by omega), List.drop_append_of_le_length h]
  simp [List.append_assoc]
theorem splL_right {v1 v2 vs : List Value} {off : Nat} (h : v1.length ≤ off) : splL (v1 ++ v2) off vs = v1 ++ splL v2 (off - v1.length) vs := by
  unfold splL
  have e1 : (v1 ++ v2).take off = v1 ++ v2.take (off - v1.length) := by rw [List.take_append, List.take_of_length_le h]
  have e2 : (v1 ++ v2).drop (off + vs.length) = v2.drop (off - v1.length + vs.length) := by
    rw [List.drop_append, List.drop_of_length_le (by omega), List.nil_append]
    congr 1; omega
  rw [e1, e2]; simp [List.append_assoc]
theorem splL_len {cs vs : List Value} {off : Nat} (h : off + vs.length ≤ cs.length) : (splL cs off vs).length = cs.length := by
  unfold splL; simp; omega

theorem castOf {a b : Ty} {x : a.den} {y : b.den} (e : a.cast b x = some y) : ∃ h : a = b, h ▸ x = y := cast_some e

theorem putF_le : ∀ {t : Ty} {c : Nat} {u : Ty} {y : u.den} {f : t.den → t.den}, putF t c u y = some f → c + u.cells ≤ t.cells := by
  intro t
  induction t with
  | pair a b iha ihb =>
    intro c u y f h
    simp only [putF] at h
    simp only [Ty.cells]
    split at h
    · rename_i hc; rw [hc.1, hc.2]; omega
    · split at h
      · split at h
        · rename_i hf; have := iha hf; omega
        · cases h
      · split at h
        · rename_i hf; have := ihb hf; omega
        · cases h
  | st t ih =>
    intro c u y f h
    simp only [putF] at h
    split at h
    · rename_i hc; rw [← hc.1, hc.2]; simp
    · exact ih h
  | _ =>
    intro c u y f h
    simp only [putF] at h
    split at h
    · rename_i hc; rw [← hc.1, hc.2]; simp
    · cases h

theorem putF_rep {Z : Zone} {W : World} : ∀ {t : Ty} {c : Nat} {u : Ty} {y : u.den} {f : t.den → t.den} {x : t.den} {cs vs : List Value}, putF t c u y = some f →
    Rep Z W t x cs → Rep Z W u y vs → Rep Z W t (f x) (splL cs c vs) := by
  intro t
  have leaf : ∀ {t u : Ty} {y : u.den} {f : t.den → t.den} {x : t.den} {cs vs : List Value}, t = u → (match u.cast t y with | some y => some fun _ => y | none => none) = some f →
      Rep Z W t x cs → Rep Z W u y vs → Rep Z W t (f x) (splL cs 0 vs) := by
    rintro t u y f x cs vs rfl h hr hu
    split at h
    · rename_i y' hy
      cases h
      obtain ⟨_, rfl⟩ := cast_some hy
      rw [splL_whole (by rw [hu.len, hr.len])]
      exact hu
    · cases h
  induction t with
  | pair a b iha ihb =>
    intro c u y f x cs vs h hr hu
    obtain ⟨v1, v2, rfl, h1, h2⟩ := hr
    have hl1 := h1.len
    simp only [putF] at h
    split at h
    · rename_i hc
      obtain ⟨rfl, rfl⟩ := hc
      split at h
      · rename_i y' hy
        cases h
        obtain ⟨_, rfl⟩ := cast_some hy
        rw [splL_left (by rw [hu.len, hl1]; omega), splL_whole (by rw [hu.len, hl1])]
        exact ⟨vs, v2, rfl, hu, h2⟩
      · cases h
    · split at h
      · split at h
        · rename_i g hg
          cases h
          have := putF_le hg
          rw [splL_left (by rw [hu.len, hl1]; omega)]
          exact ⟨_, v2, rfl, iha hg h1 hu, h2⟩
        · cases h
      · split at h
        · rename_i g hg
          cases h
          rw [splL_right (by omega), hl1]
          exact ⟨v1, _, rfl, h1, ihb hg h2 hu⟩
        · cases h
  | st t ih =>
    intro c u y f x cs vs h hr hu
    simp only [putF] at h
    split at h
    · rename_i hc
      obtain ⟨rfl, rfl⟩ := hc
      split at h
      · rename_i y' hy
        cases h
        obtain ⟨_, rfl⟩ := cast_some hy
        rw [splL_whole (by rw [hu.len, hr.len])]
        exact hu
      · cases h
    · exact ih h hr hu
  | _ =>
    intro c u y f x cs vs h hr hu
    simp only [putF] at h
    split at h
    · rename_i hc
      obtain ⟨hc, rfl⟩ := hc
      exact leaf hc h hr hu
    · cases h

theorem putF_own {W : World} : ∀ {t : Ty} {Z Z2 : Zone} {c : Nat} {u : Ty} {y : u.den} {f : t.den → t.den} {x : t.den} {cs vs : List Value}, putF t c u y = some f →
    Own Z W t x cs → Own Z2 W u y vs → (∀ b k, Z b k → ¬ Z2 b k) → Own (fun b k => Z b k ∨ Z2 b k) W t (f x) (splL cs c vs) := by
  intro t
  have leaf : ∀ {t u : Ty} {Z Z2 : Zone} {y : u.den} {f : t.den → t.den} {x : t.den} {cs vs : List Value}, t = u → (match u.cast t y with | some y => some fun _ => y | none => none) = some f →
      Own Z W t x cs → Own Z2 W u y vs → Own (fun b k => Z b k ∨ Z2 b k) W t (f x) (splL cs 0 vs) := by
    rintro t u Z Z2 y f x cs vs rfl h hr hu
    split at h
    · rename_i y' hy
      cases h
      obtain ⟨_, rfl⟩ := cast_some hy
      rw [splL_whole (by rw [hu.len, hr.len])]
      exact hu.mono (fun _ _ h => Or.inr h) (fun _ _ _ _ h => h) (fun _ _ _ h => h)
    · cases h
  induction t with
  | pair a b iha ihb =>
    intro Z Z2 c u y f x cs vs h hr hu hd
    obtain ⟨v1, v2, rfl, Z1, Z3, s1, s2, s3, h1, h2⟩ := hr
    have hl1 := h1.len
    simp only [putF] at h
    split at h
    · rename_i hc
      obtain ⟨rfl, rfl⟩ := hc
      split at h
      · rename_i y' hy
        cases h
        obtain ⟨_, rfl⟩ := cast_some hy
        rw [splL_left (by rw [hu.len, hl1]; omega), splL_whole (by rw [hu.len, hl1])]
        exact ⟨vs, v2, rfl, Z2, Z3, fun _ _ h => Or.inr h, fun _ _ h => Or.inl (s2 _ _ h), fun _ _ h h' => hd _ _ (s2 _ _ h') h, hu, h2⟩
      · cases h
    · split at h
      · split at h
        · rename_i g hg
          cases h
          have := putF_le hg
          rw [splL_left (by rw [hu.len, hl1]; omega)]
          exact ⟨_, v2, rfl, fun b k => Z1 b k ∨ Z2 b k, Z3, fun _ _ h => h.imp (s1 _ _) id, fun _ _ h => Or.inl (s2 _ _ h), fun _ _ h h' => h.elim (fun h => s3 _ _ h h') fun h => hd _ _ (s2 _ _ h') h,
            iha hg h1 hu fun b k h => hd b k (s1 _ _ h), h2⟩
        · cases h
      · split at h
        · rename_i g hg
          cases h
          rw [splL_right (by omega), hl1]
          exact ⟨v1, _, rfl, Z1, fun b k => Z3 b k ∨ Z2 b k, fun _ _ h => Or.inl (s1 _ _ h), fun _ _ h => h.imp (s2 _ _) id, fun _ _ h h' => h'.elim (fun h' => s3 _ _ h h') fun h' => hd _ _ (s1 _ _ h) h', h1,
            ihb hg h2 hu fun b k h => hd b k (s2 _ _ h)⟩
        · cases h
  | st t ih =>
    intro Z Z2 c u y f x cs vs h hr hu hd
    simp only [putF] at h
    split at h
    · rename_i hc
      obtain ⟨rfl, rfl⟩ := hc
      split at h
      · rename_i y' hy
        cases h
        obtain ⟨_, rfl⟩ := cast_some hy
        rw [splL_whole (by rw [hu.len, hr.len])]
        exact hu.mono (fun _ _ h => Or.inr h) (fun _ _ _ _ h => h) (fun _ _ _ h => h)
      · cases h
    · exact ih h hr hu hd
  | _ =>
    intro Z Z2 c u y f x cs vs h hr hu hd
    simp only [putF] at h
    split at h
    · rename_i hc
      obtain ⟨hc, rfl⟩ := hc
      exact leaf hc h hr hu
    · cases h

theorem deep_no {t : Ty} : ∀ {x : t.den} {c : Nat} {e : Ty} {ys : List e.den}, t.deep = false → ¬ cellSl t x c e ys := by
  induction t with
  | pair a b iha ihb =>
    intro x c e ys hd h
    simp only [Ty.deep, Bool.or_eq_false_iff] at hd
    simp only [cellSl] at h
    split at h
    · exact iha hd.1 h
    · exact ihb hd.2 h
  | st t ih => intro x c e ys hd h; exact ih hd h
  | sl e => intro x c e ys hd h; cases hd
  | _ => intro x c e ys hd h; exact h

/-- A flat part leaves the slices as they are. -/
theorem putF_cellSl : ∀ {t : Ty} {c : Nat} {u : Ty} {y : u.den} {f : t.den → t.den} {x : t.den} {c' : Nat} {e' : Ty} {zs : List e'.den}, u.deep = false → putF t c u y = some f → cellSl t x c' e' zs → cellSl t (f x) c' e' zs ∧ (c' < c ∨ c + u.cells ≤ c') := by
  intro t
  induction t with
  | pair a b iha ihb =>
    intro c u y f x c' e' zs hu h hs
    simp only [putF] at h
    simp only [cellSl] at hs ⊢
    split at h
    · rename_i hc
      obtain ⟨rfl, rfl⟩ := hc
      split at h
      · cases h
        split at hs
        · exact absurd hs (deep_no hu)
        · rename_i hlt
          rw [if_neg hlt]
          exact ⟨hs, Or.inr (by omega)⟩
      · cases h
    · split at h
      · split at h
        · rename_i g hg
          cases h
          have := putF_le hg
          split at hs
          · rename_i hlt
            rw [if_pos hlt]
            exact iha hu hg hs
          · rename_i hlt
            rw [if_neg hlt]
            exact ⟨hs, Or.inr (by omega)⟩
        · cases h
      · split at h
        · rename_i hcl _ g hg
          cases h
          split at hs
          · rename_i hlt
            rw [if_pos hlt]
            exact ⟨hs, Or.inl (by omega)⟩
          · rename_i hlt
            rw [if_neg hlt]
            obtain ⟨q1, q2⟩ := ihb hu hg hs
            exact ⟨q1, by omega⟩
        · cases h
  | st t ih =>
    intro c u y f x c' e' zs hu h hs
    simp only [putF] at h
    split at h
    · rename_i hc
      obtain ⟨rfl, rfl⟩ := hc
      exact absurd hs (deep_no (t := .st t) hu)
    · exact ih hu h hs
  | sl e =>
    intro c u y f x c' e' zs hu h hs
    simp only [putF] at h
    split at h
    · rename_i hc
      obtain ⟨rfl, rfl⟩ := hc
      cases hu
    · cases h
  | _ => intro c u y f x c' e' zs hu h hs; exact hs.elim
end
end Go.Evr

namespace Go.Evr
section
variable {C : Ctx} {P : Program}
variable {X : Cx} {D : Nat → Nat → Prop} {E : Env} {S : St} {tm : List Value} {nx : Nat} {o : Oper} {l : List Nat} {e : Eff}

theorem cell_one {f : FV} {v : Value} (hf : f.isCell = true) (hv : VRel X f v) : v.oneCell' = true := by
  cases f with
  | agg l => cases hf
  | bad => cases hf
  | tup _ => cases hf
  | nilb _ => cases hf
  | int k n => cases hv; rfl
  | bool b => cases hv; rfl
  | str s => cases hv; rfl
  | nsl => obtain ⟨a, rfl⟩ := hv; rfl
  | nilp => rcases hv with rfl | rfl <;> rfl
  | clo g a b => obtain ⟨fs, cs, rfl, h⟩ := hv; rfl
  | vpt t l => obtain ⟨b, k, rfl, h⟩ := hv; rfl
  | isl t e xs => obtain ⟨⟨a, c, rfl⟩, h⟩ := hv; rfl
  | fsl o => obtain ⟨⟨a, n, c, rfl⟩, h⟩ := hv; rfl
  | osl o lo n => obtain ⟨⟨a, c, rfl⟩, h⟩ := hv; rfl
  | ptr o off => obtain ⟨⟨a, rfl⟩, h⟩ := hv; rfl
  | ept o i off => obtain ⟨⟨a, rfl⟩, h⟩ := hv; rfl

theorem cells_one : ∀ {cs : List FV} {us : List Value}, cs.all FV.isCell = true → LRel X cs us → ∀ v ∈ us, v.oneCell' = true
  | [], _, _, h => by cases h; simp
  | f :: cs, _, ha, h => by
    obtain ⟨v, us, rfl, hv, hr⟩ := h
    simp only [List.all_cons, Bool.and_eq_true] at ha
    intro w hw
    rcases List.mem_cons.1 hw with rfl | hw
    · exact cell_one ha.1 hv
    · exact cells_one ha.2 hr w hw

theorem run_storeAt' {t : Nat} {u : Ty} (h : TyS C P t u) {w : World} {b k : Nat} {v : Value} (hl : v.cells.size = u.cells)
    (hc : ∀ j, j < u.cells → (w.cell? ⟨b, k + j, none⟩).isSome = true ∧ w.frozen? ⟨b, k + j, none⟩ = false) (h1 : ∀ x ∈ v.cells.toList, x.oneCell' = true) :
    (Instr.storeAt t (.pointer (some ⟨b, k, none⟩)) v).run P w = .ok () (w.setCells b k v.cells.toList) := by
  have := run_storeCells_cells (P := P) b k v.cells.toList 0 w (fun j hj => by rw [Nat.add_zero]; exact (hc j (by simpa [hl] using hj)).1) (fun j hj => by rw [Nat.add_zero]; exact (hc j (by simpa [hl] using hj)).2) h1
  rw [Nat.add_zero] at this
  simp [Instr.storeAt, Instr.sureAddr, storeVar, run_sizeOf' h, hl, this]

theorem op_store_box (hC : CtxOk C P) {t : Nat} {a x : Operand} (ho : o.op = .store t a x) {p off : Nat} (ha : S.ev a = .ptr p off) (I : Inv X D E S tm) (h : evStore C nx t (S.ev a) (S.ev x) S.ob = some (l, e)) : OpOk P X D E S tm nx o e := by
  have hx := ev_rel I x
  have hk := ev_ok I x
  have hp := ev_rel I a
  rw [ha] at h hp
  rw [obF I] at h
  obtain ⟨l1, w, l2, z1, h3, h4, he⟩ := Rd.bind_some h
  obtain ⟨w', hw, hh⟩ := Rd.look_some h3
  cases hh
  cases he
  cases w with
  | arr _ _ _ _ _ => cases h4
  | box cs =>
    simp only [] at h4
    cases ht : C.ty t with
    | none => rw [ht] at h4; cases h4
    | some u =>
      cases hc : (S.ev x).cells? with
      | none => rw [ht, hc] at h4; cases h4
      | some ws =>
        rw [ht, hc] at h4
        simp only [] at h4
        split at h4
        · rename_i hcond
          obtain ⟨c1, c2, c3⟩ := hcond
          cases h4
          have hr := cells_rel hc hx
          have hlen : ((⟨tm.toArray, []⟩ : Act).eval x).cells.size = u.cells := by have := hr.len; simpa [c1] using this
          obtain ⟨b, k, hloc, hv⟩ := hp.2 _ hw
          obtain ⟨b2, k2, us, hloc2, hus, hus2⟩ := obs' I _ _ hw
          rw [hloc] at hloc2
          cases hloc2
          have hul := hus.len
          have hcell : ∀ j, j < u.cells → X.own b (k + off + j) = some (p, true) ∧ (X.W.cell? ⟨b, k + off + j, none⟩).isSome = true ∧ X.W.frozen? ⟨b, k + off + j, none⟩ = false := by
            intro j hj
            obtain ⟨q1, q2, q3⟩ := hus2 (off + j) _ (List.getElem?_eq_getElem (by omega))
            rw [← Nat.add_assoc] at q1 q2 q3
            exact ⟨q1, by rw [q2]; rfl, q3⟩
          have hrun := run_storeAt' (P := P) (hC t u ht) (w := X.W) (b := b) (k := k + off) hlen (fun j hj => (hcell j hj).2) (cells_one c3 hr)
          have hvl : ((⟨tm.toArray, []⟩ : Act).eval x).cells.toList.length = u.cells := by simpa using hlen
          have := Done.boxUpd (nx := nx) (g := []) I hw (cs' := splice cs off ws) (W1 := X.W.setCells b (k + off) ((⟨tm.toArray, []⟩ : Act).eval x).cells.toList)
            (Frm.setCells _ _ _ fun j hj => (hcell j (by omega)).1) ((I.oko _ _ ((I.ob p).symm.trans hw)).splice off (cells_ok hc hk)) (fun b' k' hl' => ?_) (f := .bad) (v := undef) (fun _ => trivial) (fun _ => trivial)
          · refine ⟨.skip, undef, _, ?_, Or.inr ⟨rfl, rfl⟩, this⟩
            simp [execOp, ho, hv, hrun]
          · rw [hloc] at hl'
            cases hl'
            refine ⟨_, hus.splice off hr, fun j v hj => ?_⟩
            have hlj := (List.getElem?_eq_some_iff.1 hj).1
            have hjl : j < us.length := by simp at hlj; omega
            obtain ⟨q1, q2, q3⟩ := hus2 j _ (List.getElem?_eq_getElem hjl)
            exact ⟨q1, setCells_over (fun j v hj => (hus2 j v hj).2.1) (by omega) j v hj, by rw [World.frozen?_setCells]; exact q3⟩
        · cases h4
end
end Go.Evr

namespace Go.Evr
section
variable {C : Ctx} {P : Program}
variable {X : Cx} {D : Nat → Nat → Prop} {E : Env} {S : St} {tm : List Value} {nx : Nat} {o : Oper} {l : List Nat} {e : Eff}

theorem modify_get {α : Type} {xs : List α} {i j : Nat} {f : α → α} (hj : j < (lmod xs i f).length) (hj' : j < xs.length) : (lmod xs i f)[j] = if i = j then f xs[j] else xs[j] := by
  exact List.getElem_modify f i xs j hj

theorem lmod_len {α : Type} {xs : List α} {i : Nat} {f : α → α} : (lmod xs i f).length = xs.length := by simp [lmod]

theorem cellsN_some {v : FV} {n : Nat} (h : cellsN v n = true) : ∃ ws, v.cells? = some ws ∧ ws.length = n := by
  unfold cellsN at h
  cases hc : v.cells? with
  | none => rw [hc] at h; cases h
  | some ws => rw [hc] at h; exact ⟨ws, rfl, Nat.eq_of_beq_eq_true h⟩

/-- The rows of an array that is written, as they are. -/
theorem live_rows (I : Inv X D E S tm) {q : Nat} {et : Ty} {xs : List et.den} {d : Bool} {ver : Nat} (hx : X.ob q = some (.arr et xs true d ver)) {b k cap : Nat} (hl : X.loc q = .arr (some ⟨b, k, none⟩) cap) (h0 : cap ≠ 0) :
    xs.length ≤ cap ∧ (∀ j, j < cap * et.cells → X.own b (k + j) = some (q, true)) ∧ Mine X.W b k (cap * et.cells) ∧ ∃ row : Nat → List Value,
      (∀ i, i < xs.length → (row i).length = et.cells ∧ ∀ j v, (row i)[j]? = some v → X.W.cell? ⟨b, k + i * et.cells + j, none⟩ = some v) ∧
      NewRows X [(q, none)] (fun b k => X.own b k = some (q, true)) et xs d row := by
  obtain ⟨a, cap', h1, h2, h3⟩ := obs' I q _ hx
  rw [hl] at h1
  cases h1
  rcases h3 with h3 | ⟨b2, k2, hb2, hm, hr⟩
  · exact absurd h3 h0
  cases hb2
  refine ⟨h2, (hm rfl).1, (hm rfl).2, ?_⟩
  cases d with
  | true =>
    obtain ⟨ZR, r1, r2, r3⟩ := hr
    have hex : ∀ i, ∃ cs : List Value, ∀ hi : i < xs.length, Own (ZR i) X.W et xs[i] cs ∧ ∀ j v, cs[j]? = some v → X.W.cell? ⟨b, k + i * et.cells + j, none⟩ = some v := by
      intro i
      by_cases hi : i < xs.length
      · obtain ⟨cs, q1, q2⟩ := r3 i hi; exact ⟨cs, fun _ => ⟨q1, q2⟩⟩
      · exact ⟨[], fun h => absurd h hi⟩
    obtain ⟨cs, hcs⟩ := Classical.axiomOfChoice hex
    refine ⟨cs, fun i hi => ⟨(hcs i hi).1.len, (hcs i hi).2⟩, ?_⟩
    exact ⟨ZR, fun i b k hz => ⟨⟨q, false, by simp [taken], r1 i b k hz⟩, fun hm => by have hm : X.own b k = some (q, true) := hm; rw [r1 i b k hz] at hm; cases hm⟩, r2, fun i hi => (hcs i hi).1⟩
  | false =>
    have hr : ∀ i (h : i < xs.length), ∃ cs, Rep (zoneOf X.own none) X.W et xs[i] cs ∧ ∀ j v, cs[j]? = some v → X.W.cell? ⟨b, k + i * et.cells + j, none⟩ = some v := hr
    have hex : ∀ i, ∃ cs : List Value, ∀ hi : i < xs.length, Rep (zoneOf X.own none) X.W et xs[i] cs ∧ ∀ j v, cs[j]? = some v → X.W.cell? ⟨b, k + i * et.cells + j, none⟩ = some v := by
      intro i
      by_cases hi : i < xs.length
      · obtain ⟨cs, q1, q2⟩ := hr i hi; exact ⟨cs, fun _ => ⟨q1, q2⟩⟩
      · exact ⟨[], fun h => absurd h hi⟩
    obtain ⟨cs, hcs⟩ := Classical.axiomOfChoice hex
    refine ⟨cs, fun i hi => ⟨(hcs i hi).1.len, (hcs i hi).2⟩, ?_⟩
    intro i hi
    refine (hcs i hi).1.zone fun b' k' hz => ?_
    rcases hz with hz | ⟨_, hq, _⟩
    · exact ⟨ownP_none hz, fun hm => by have hm : X.own b' k' = some (q, true) := hm; rw [hz] at hm; cases hm⟩
    · cases hq
end
end Go.Evr

namespace Go.Evr
section
variable {C : Ctx} {P : Program}
variable {X : Cx} {D : Nat → Nat → Prop} {E : Env} {S : St} {tm : List Value} {nx : Nat} {o : Oper} {l : List Nat} {e : Eff}

/-- Rows of which one is written. -/
theorem written_rows {W : World} {b k n m i off : Nat} {row : Nat → List Value} {vs : List Value} (hrow : ∀ i, i < n → (row i).length = m ∧ ∀ j v, (row i)[j]? = some v → W.cell? ⟨b, k + i * m + j, none⟩ = some v) (hi : i < n) (hoff : off + vs.length ≤ m) :
    ∀ j, j < n → ∀ q v, (if j = i then splL (row i) off vs else row j)[q]? = some v → (W.setCells b (k + i * m + off) vs).cell? ⟨b, k + j * m + q, none⟩ = some v := by
  intro j hj q v hq
  by_cases hij : j = i
  · subst hij
    rw [if_pos rfl] at hq
    exact setCells_over (hrow j hi).2 (by rw [(hrow j hi).1]; exact hoff) q v hq
  · rw [if_neg hij] at hq
    have hql := (List.getElem?_eq_some_iff.1 hq).1
    rw [(hrow j hj).1] at hql
    rw [World.cell?_setCells_out b vs _ _ _ fun _ _ => ?_]
    · exact (hrow j hj).2 q v hq
    · simp only []
      rcases Nat.lt_or_gt_of_ne hij with h | h
      · have := mul_step (m := m) h; exact Or.inl (by omega)
      · have := mul_step (m := m) h; exact Or.inr (by omega)
end
end Go.Evr

namespace Go.Evr
section
variable {C : Ctx} {P : Program}
variable {X : Cx} {D : Nat → Nat → Prop} {E : Env} {S : St} {tm : List Value} {nx : Nat} {o : Oper} {l : List Nat} {e : Eff}

theorem lmod_get {α : Type} {xs : List α} {i j : Nat} {f : α → α} (hj : j < (lmod xs i f).length) : (lmod xs i f)[j] = if i = j then f (xs[j]'(by rw [lmod_len] at hj; exact hj)) else xs[j]'(by rw [lmod_len] at hj; exact hj) :=
  modify_get hj _

theorem op_store_flat (hC : CtxOk C P) {t : Nat} {a x : Operand} (ho : o.op = .store t a x) {p i off : Nat} (ha : S.ev a = .ept p i off) {u : Ty} (ht : C.ty t = some u) (hud : u.deep = false) (I : Inv X D E S tm) (h : evStore C nx t (S.ev a) (S.ev x) S.ob = some (l, e)) : OpOk P X D E S tm nx o e := by
  have hx := ev_rel I x
  have hp := ev_rel I a
  rw [ha] at h hp
  rw [obF I] at h
  obtain ⟨l1, w, l2, z1, h3, h4, he⟩ := Rd.bind_some h
  obtain ⟨w', hw, hh⟩ := Rd.look_some h3
  cases hh
  cases he
  cases w with
  | box _ => cases h4
  | arr et xs lv d ver =>
    cases lv with
    | false => cases h4
    | true =>
      simp only [ht, hud] at h4
      cases hcn : cellsN (S.ev x) u.cells with
      | false => rw [hcn] at h4; cases h4
      | true =>
        rw [hcn] at h4
        obtain ⟨l3, y, l4, z2, h5, h6, he'⟩ := Rd.bind_some h4
        cases he'
        cases hf : putF et off u y with
        | none => rw [hf] at h6; cases h6
        | some f =>
          rw [hf] at h6
          cases h6
          obtain ⟨b, k, cap, hloc, hi, hv⟩ := hp.2 _ _ _ _ _ hw
          have h0 : cap ≠ 0 := by
            obtain ⟨a', cap', c1, c2, _⟩ := obs' I _ _ hw
            rw [hloc] at c1; cases c1; omega
          obtain ⟨r1, r2, r3, row, r4, r5⟩ := live_rows I hw hloc h0
          obtain ⟨ws, hws, hwl⟩ := cellsN_some hcn
          have hsz : ((⟨tm.toArray, []⟩ : Act).eval x).cells.size = u.cells := by have := (cells_rel hws hx).len; simpa [hwl] using this
          obtain ⟨u1, u2, hu, hrep⟩ := readVal_rep (obs' I) h5 hx
          have hu2 : u2 = [] := by
            have h1 : ((⟨tm.toArray, []⟩ : Act).eval x).cells.toList.length = u.cells := by simpa using hsz
            rw [hu, List.length_append, hrep.len] at h1
            exact List.length_eq_zero_iff.1 (by omega)
          subst hu2
          rw [List.append_nil] at hu
          rw [← hu] at hrep
          have hoff := putF_le hf
          have hvl : ((⟨tm.toArray, []⟩ : Act).eval x).cells.toList.length = u.cells := by simpa using hsz
          have hlt : ∀ j, j < u.cells → i * et.cells + off + j < cap * et.cells := fun j hj => by
            have := row_lt hi r1 (show off + j < et.cells by omega); omega
          have hown : ∀ j, j < u.cells → X.own b (k + i * et.cells + off + j) = some (p, true) := fun j hj => by
            have := r2 _ (hlt j hj); rwa [show k + (i * et.cells + off + j) = k + i * et.cells + off + j by omega] at this
          have hmine : ∀ j, j < u.cells → (X.W.cell? ⟨b, k + i * et.cells + off + j, none⟩).isSome = true ∧ X.W.frozen? ⟨b, k + i * et.cells + off + j, none⟩ = false := fun j hj => by
            obtain ⟨⟨v, q1⟩, q2⟩ := r3 _ (hlt j hj)
            rw [show k + (i * et.cells + off + j) = k + i * et.cells + off + j by omega] at q1 q2
            exact ⟨by rw [q1]; rfl, q2⟩
          have hrun := run_storeAt' (P := P) (hC t u ht) (w := X.W) (b := b) (k := k + i * et.cells + off) hsz hmine hrep.one
          have hwr := written_rows (W := X.W) (off := off) (vs := ((⟨tm.toArray, []⟩ : Act).eval x).cells.toList) r4 hi (by omega)
          have := Done.upd (nx := nx) (g := []) (p' := []) (ys := lmod xs i f) (dp := d) (ver' := ver) (W1 := X.W.setCells b (k + i * et.cells + off) ((⟨tm.toArray, []⟩ : Act).eval x).cells.toList) I MoveOk.nil (by simp) hw lmod_len
            (Frm.setCells _ _ _ fun j hj => hown j (by omega)) (Or.inr ⟨rfl, ?_⟩) (fun a' cap' hl' => ?_) (f := .bad) (v := undef) (fun _ => trivial) (fun _ => trivial)
          · refine ⟨.skip, undef, _, ?_, Or.inr ⟨rfl, rfl⟩, this⟩
            simp [execOp, ho, hv, hrun]
          · intro j hj c e' zs hc
            refine ⟨⟨by rw [lmod_len]; exact hj, ?_⟩, fun b' k' cap' w hl' hw' => ?_⟩
            · rw [lmod_get]
              split
              · exact (putF_cellSl hud hf hc).1
              · exact hc
            · rw [hloc] at hl'
              cases hl'
              rw [World.cell?_setCells_out b _ _ _ _ fun _ _ => ?_]
              · exact hw'
              · simp only []
                have hcl := cellSl_lt hc
                rcases Nat.lt_trichotomy j i with h | h | h
                · have := mul_step (m := et.cells) h; exact Or.inl (by omega)
                · subst h
                  rcases (putF_cellSl hud hf hc).2 with h | h
                  · exact Or.inl (by omega)
                  · exact Or.inr (by omega)
                · have := mul_step (m := et.cells) h; exact Or.inr (by omega)
          · rw [hloc] at hl'
            cases hl'
            refine Or.inr ⟨b, k, fun j => if j = i then splL (row i) off ((⟨tm.toArray, []⟩ : Act).eval x).cells.toList else row j, rfl, fun j hj => ?_, fun j hj => hwr j (by rw [lmod_len] at hj; exact hj), ?_⟩
            · obtain ⟨⟨v, q1⟩, q2⟩ := r3 j hj
              refine ⟨?_, by rw [World.frozen?_setCells]; exact q2⟩
              by_cases hin : i * et.cells + off ≤ j ∧ j < i * et.cells + off + u.cells
              · have := World.cell?_setCells_in b ((⟨tm.toArray, []⟩ : Act).eval x).cells.toList (k + i * et.cells + off) X.W (fun j hj => (hmine j (by omega)).1) (j - (i * et.cells + off)) (by omega)
                rw [show k + i * et.cells + off + (j - (i * et.cells + off)) = k + j by omega] at this
                exact ⟨_, this⟩
              · exact ⟨v, by rw [World.cell?_setCells_out b _ _ _ _ fun _ _ => by simp only []; omega]; exact q1⟩
            · unfold NewRows at r5 ⊢
              cases d with
              | true =>
                obtain ⟨ZR, z1, z2, z3⟩ := r5
                refine ⟨ZR, z1, z2, fun j hj => ?_⟩
                rw [lmod_get]
                have hj' : j < xs.length := by rw [lmod_len] at hj; exact hj
                by_cases hij : i = j
                · subst hij
                  simp only [if_true]
                  exact (putF_own hf (z3 i hj') (Own.flat (Z := fun _ _ => False) hud hrep) (fun _ _ _ h => h)).mono (fun _ _ h => h.elim id False.elim) (fun _ _ _ _ h => h) (fun _ _ _ h => h)
                · rw [if_neg hij]
                  simp only [if_neg (Ne.symm hij)]
                  exact z3 j hj'
              | false =>
                intro j hj
                rw [lmod_get]
                have hj' : j < xs.length := by rw [lmod_len] at hj; exact hj
                by_cases hij : i = j
                · subst hij
                  simp only [if_true]
                  exact putF_rep hf (r5 i hj') (Own.flat (Z := fun b k => ownP X.own [(p, none)] none b k = none ∧ ¬ X.own b k = some (p, true)) hud hrep).rep
                · rw [if_neg hij]
                  simp only [if_neg (Ne.symm hij)]
                  exact r5 j hj'
end
end Go.Evr

namespace Go.Evr
section
variable {C : Ctx} {P : Program}
variable {X : Cx} {D : Nat → Nat → Prop} {E : Env} {S : St} {tm : List Value} {nx : Nat} {o : Oper} {l : List Nat} {e : Eff}

theorem op_store_deep (hC : CtxOk C P) {t : Nat} {a x : Operand} (ho : o.op = .store t a x) {p i off : Nat} (ha : S.ev a = .ept p i off) {u : Ty} (ht : C.ty t = some u) (hud : u.deep = true) (I : Inv X D E S tm) (h : evStore C nx t (S.ev a) (S.ev x) S.ob = some (l, e)) : OpOk P X D E S tm nx o e := by
  have hx := ev_rel I x
  have hp := ev_rel I a
  have dom : ∀ b k o m, X.own b k = some (o, m) → b < X.W.heap.size := fun b k o m h => (I.dom b k o m h).1
  rw [ha] at h hp
  rw [obF I] at h
  obtain ⟨l1, w, l2, z1, h3, h4, he⟩ := Rd.bind_some h
  obtain ⟨w', hw, hh⟩ := Rd.look_some h3
  cases hh
  cases he
  cases w with
  | box _ => cases h4
  | arr et xs lv d ver =>
    cases lv with
    | false => cases h4
    | true =>
      simp only [ht, hud, if_true] at h4
      obtain ⟨l3, r, l4, z2, h5, h6, he'⟩ := Rd.bind_some h4
      obtain ⟨y, dp, q⟩ := r
      cases he'
      simp only [] at h6
      cases hf : putF et off u y with
      | none => rw [hf] at h6; cases h6
      | some f =>
        rw [hf] at h6
        simp only [] at h6
        split at h6
        · rename_i hpo
          cases h6
          have hnd := putsOk_iff.1 hpo
          have hnq : p ∉ q.map (·.1) := by simp only [List.map_cons, List.nodup_cons] at hnd; exact hnd.1
          obtain ⟨b, k, cap, hloc, hi, hv⟩ := hp.2 _ _ _ _ _ hw
          have h0 : cap ≠ 0 := by
            obtain ⟨a', cap', c1, c2, _⟩ := obs' I _ _ hw
            rw [hloc] at c1; cases c1; omega
          obtain ⟨r1, r2, r3, row, r4, r5⟩ := live_rows I hw hloc h0
          have hrow := rowIn_ok (M := fun b k => X.own b k = some (p, true)) (obs' I) h5 hx ⟨dom, fun b k hm => Or.inr ⟨p, hnq, hm⟩⟩
          have hsz := rowIn_cells h5 hx
          have hrep := hrow.rep _ hnd fun r hr => List.mem_cons_of_mem _ hr
          have hoff := putF_le hf
          have hvl : ((⟨tm.toArray, []⟩ : Act).eval x).cells.toList.length = u.cells := by simpa using hsz
          have hlt : ∀ j, j < u.cells → i * et.cells + off + j < cap * et.cells := fun j hj => by
            have := row_lt hi r1 (show off + j < et.cells by omega); omega
          have hown : ∀ j, j < u.cells → X.own b (k + i * et.cells + off + j) = some (p, true) := fun j hj => by
            have := r2 _ (hlt j hj); rwa [show k + (i * et.cells + off + j) = k + i * et.cells + off + j by omega] at this
          have hmine : ∀ j, j < u.cells → (X.W.cell? ⟨b, k + i * et.cells + off + j, none⟩).isSome = true ∧ X.W.frozen? ⟨b, k + i * et.cells + off + j, none⟩ = false := fun j hj => by
            obtain ⟨⟨v, q1⟩, q2⟩ := r3 _ (hlt j hj)
            rw [show k + (i * et.cells + off + j) = k + i * et.cells + off + j by omega] at q1 q2
            exact ⟨by rw [q1]; rfl, q2⟩
          have hrun := run_storeAt' (P := P) (hC t u ht) (w := X.W) (b := b) (k := k + i * et.cells + off) hsz hmine hrep.one
          have hwr := written_rows (W := X.W) (off := off) (vs := ((⟨tm.toArray, []⟩ : Act).eval x).cells.toList) r4 hi (by omega)
          have := Done.upd (nx := nx) (g := []) (p' := q) (ys := lmod xs i f) (dp := d && dp) (ver' := ver + 1) (W1 := X.W.setCells b (k + i * et.cells + off) ((⟨tm.toArray, []⟩ : Act).eval x).cells.toList) I hrow.mv hnd hw lmod_len
            (Frm.setCells _ _ _ fun j hj => hown j (by omega)) (Or.inl rfl) (fun a' cap' hl' => ?_) (f := .bad) (v := undef) (fun _ => trivial) (fun _ => trivial)
          · refine ⟨.skip, undef, _, ?_, Or.inr ⟨rfl, rfl⟩, this⟩
            simp [execOp, ho, hv, hrun]
          · rw [hloc] at hl'
            cases hl'
            refine Or.inr ⟨b, k, fun j => if j = i then splL (row i) off ((⟨tm.toArray, []⟩ : Act).eval x).cells.toList else row j, rfl, fun j hj => ?_, fun j hj => hwr j (by rw [lmod_len] at hj; exact hj), ?_⟩
            · obtain ⟨⟨v, q1⟩, q2⟩ := r3 j hj
              refine ⟨?_, by rw [World.frozen?_setCells]; exact q2⟩
              by_cases hin : i * et.cells + off ≤ j ∧ j < i * et.cells + off + u.cells
              · have := World.cell?_setCells_in b ((⟨tm.toArray, []⟩ : Act).eval x).cells.toList (k + i * et.cells + off) X.W (fun j hj => (hmine j (by omega)).1) (j - (i * et.cells + off)) (by omega)
                rw [show k + i * et.cells + off + (j - (i * et.cells + off)) = k + j by omega] at this
                exact ⟨_, this⟩
              · exact ⟨v, by rw [World.cell?_setCells_out b _ _ _ _ fun _ _ => by simp only []; omega]; exact q1⟩
            · -- the rows that were there, in any case
              have hold : ∀ j (hj : j < xs.length), Rep (fun b k => ownP X.own ((p, none) :: q) none b k = none ∧ ¬ X.own b k = some (p, true)) X.W et xs[j] (row j) := by
                intro j hj
                unfold NewRows at r5
                have key : ∀ b k m, X.own b k = some (p, m) → ownP X.own ((p, none) :: q) none b k = none := by
                  intro b k m hw; unfold ownP gPut; rw [hw]; simp only [lookP, if_true]
                cases d with
                | true =>
                  obtain ⟨ZR, z1, z2, z3⟩ := r5
                  refine (z3 j hj).rep.zone fun b' k' hz => ⟨?_, (z1 _ _ _ hz).2⟩
                  obtain ⟨o1, m1, w1, w2⟩ := (z1 _ _ _ hz).1
                  simp only [taken, List.filter, Option.isNone, List.map, List.mem_singleton] at w1
                  subst w1
                  exact key _ _ _ w2
                | false =>
                  refine (r5 j hj).zone fun b' k' hz => ⟨?_, hz.2⟩
                  have h1 := hz.1
                  unfold ownP gPut at h1
                  cases hw' : X.own b' k' with
                  | none => exact ownP_none hw'
                  | some r =>
                    obtain ⟨o1, m1⟩ := r
                    by_cases hop : o1 = p
                    · subst hop; exact key _ _ _ hw'
                    · rw [hw'] at h1
                      simp only [lookP] at h1
                      rw [if_neg (Ne.symm hop)] at h1
                      cases h1
              unfold NewRows at r5 ⊢
              cases hdd : (d && dp) with
              | true =>
                simp only [Bool.and_eq_true] at hdd
                obtain ⟨hd1, hd2⟩ := hdd
                subst hd1
                obtain ⟨ZR, z1, z2, z3⟩ := r5
                have hnew := hrow.own hd2
                have hz1 : ∀ j b' k', ZR j b' k' → ∃ m, X.own b' k' = some (p, m) := by
                  intro j b' k' hz
                  obtain ⟨o1, m1, w1, w2⟩ := (z1 _ _ _ hz).1
                  simp only [taken, List.filter, Option.isNone, List.map, List.mem_singleton] at w1
                  subst w1
                  exact ⟨m1, w2⟩
                have hz2 : ∀ b' k', ownZ X.own (taken q) b' k' → ∀ m, X.own b' k' ≠ some (p, m) := by
                  rintro b' k' ⟨o1, m1, w1, w2⟩ m hw'
                  rw [w2] at hw'
                  cases hw'
                  exact hnq (List.mem_map.2 ⟨_, mem_taken.1 w1, rfl⟩)
                refine ⟨fun j b' k' => ZR j b' k' ∨ (j = i ∧ ownZ X.own (taken q) b' k' ∧ ¬ X.own b' k' = some (p, true)), fun j b' k' hz => ?_, fun j1 j2 b' k' q1 q2 => ?_, fun j hj => ?_⟩
                · rcases hz with hz | ⟨_, hz, hm⟩
                  · obtain ⟨m, hm'⟩ := hz1 _ _ _ hz
                    exact ⟨⟨p, m, by simp [taken], hm'⟩, (z1 _ _ _ hz).2⟩
                  · exact ⟨ownZ.mono (fun o ho => mem_taken.2 (List.mem_cons_of_mem _ (mem_taken.1 ho))) _ _ hz, hm⟩
                · rcases q1 with q1 | ⟨rfl, q1, _⟩ <;> rcases q2 with q2 | ⟨rfl, q2, _⟩
                  · exact z2 _ _ _ _ q1 q2
                  · obtain ⟨m, hm⟩ := hz1 _ _ _ q1; exact absurd hm (hz2 _ _ q2 m)
                  · obtain ⟨m, hm⟩ := hz1 _ _ _ q2; exact absurd hm (hz2 _ _ q1 m)
                  · rfl
                · rw [lmod_get]
                  have hj' : j < xs.length := by rw [lmod_len] at hj; exact hj
                  by_cases hij : i = j
                  · subst hij
                    simp only [if_true]
                    exact (putF_own hf (z3 i hj') hnew fun b' k' h1 h2 => by obtain ⟨m, hm⟩ := hz1 _ _ _ h1; exact hz2 _ _ h2.1 m hm).mono (fun _ _ h => h.imp id fun h => ⟨trivial, h⟩) (fun _ _ _ _ h => h) (fun _ _ _ h => h)
                  · rw [if_neg hij]
                    simp only [if_neg (Ne.symm hij)]
                    exact (z3 j hj').mono (fun _ _ h => Or.inl h) (fun _ _ _ _ h => h) (fun _ _ _ h => h)
              | false =>
                intro j hj
                rw [lmod_get]
                have hj' : j < xs.length := by rw [lmod_len] at hj; exact hj
                by_cases hij : i = j
                · subst hij
                  simp only [if_true]
                  exact putF_rep hf (hold i hj') hrep
                · rw [if_neg hij]
                  simp only [if_neg (Ne.symm hij)]
                  exact hold j hj'
        · cases h6
end
end Go.Evr

namespace Go.Evr
section
variable {C : Ctx} {P : Program}
variable {X : Cx} {D : Nat → Nat → Prop} {E : Env} {S : St} {tm : List Value} {nx : Nat} {o : Oper} {l : List Nat} {e : Eff}

theorem op_store (hC : CtxOk C P) {t : Nat} {a x : Operand} (ho : o.op = .store t a x) (I : Inv X D E S tm) (h : evOp C nx S.ev o.op S.ob = some (l, e)) : OpOk P X D E S tm nx o e := by
  rw [ho] at h
  simp only [evOp] at h
  cases ha : S.ev a with
  | ptr p off => exact op_store_box hC ho ha I h
  | ept p i off =>
    cases ht : C.ty t with
    | none =>
      rw [ha] at h
      obtain ⟨l1, w, l2, z, h1, h2, he⟩ := Rd.bind_some h
      cases w with
      | box _ => cases h2
      | arr e' xs lv d ver =>
        cases lv with
        | false => cases h2
        | true => simp only [ht] at h2; cases h2
    | some u =>
      cases hd : u.deep with
      | true => exact op_store_deep hC ho ha ht hd I h
      | false => exact op_store_flat hC ho ha ht hd I h
  | _ => rw [ha] at h; cases h

theorem append_nx {nx t : Nat} {s x : FV} {W : Nat → Option Ob} (h : evAppend C nx t s x W = some (l, e)) : e.nx = nx + 1 := by
  unfold evAppend at h
  cases ht : C.ty t with
  | none => rw [ht] at h; cases h
  | some u =>
    rw [ht] at h
    cases u with
    | sl et =>
      cases s with
      | nsl =>
        obtain ⟨_, _, _, _, _, h2, he⟩ := Rd.bind_some h
        split at h2
        · cases h2; cases he; rfl
        · cases h2
      | fsl o =>
        obtain ⟨_, w, _, _, _, h2, he⟩ := Rd.bind_some h
        cases w with
        | box _ => cases h2
        | arr e' xs lv d v =>
          cases lv with
          | false => cases h2
          | true =>
            obtain ⟨_, _, _, _, _, h3, he3⟩ := Rd.bind_some h2
            obtain ⟨_, _, _, _, _, h4, he4⟩ := Rd.bind_some h3
            split at h4
            · cases h4; cases he4; cases he3; cases he; rfl
            · cases h4
      | osl o lo n =>
        obtain ⟨_, w, _, _, _, h2, he⟩ := Rd.bind_some h
        cases w with
        | box _ => cases h2
        | arr e' xs lv d v =>
          cases lv with
          | false => cases h2
          | true =>
            obtain ⟨_, _, _, _, _, h3, he3⟩ := Rd.bind_some h2
            obtain ⟨_, _, _, _, _, h4, he4⟩ := Rd.bind_some h3
            split at h4
            · cases h4; cases he4; cases he3; cases he; rfl
            · cases h4
      | _ => cases h
    | _ => cases h
theorem alloc_nx {t : Nat} {ev : Operand → FV} {W : Nat → Option Ob} (h : evOp C nx ev (.alloc t) W = some (l, e)) : e.nx = nx + 1 := by
  simp only [evOp] at h
  cases ht : C.ty t with
  | none => rw [ht] at h; cases h
  | some u => rw [ht] at h; cases h; rfl
theorem box_nx {t : Nat} {x : Operand} {ev : Operand → FV} {W : Nat → Option Ob} (h : evOp C nx ev (.box t x) W = some (l, e)) : e.nx = nx + 1 := by
  simp only [evOp] at h
  cases ht : C.ty t with
  | none => rw [ht] at h; cases h
  | some u =>
    cases hx : (ev x).cells? with
    | none => rw [ht, hx] at h; cases h
    | some cs =>
      rw [ht, hx] at h
      simp only [] at h
      split at h
      · cases h; rfl
      · cases h
theorem buildSlice_nx {t n : Nat} {ps : Array (Nat × Operand)} {ev : Operand → FV} {W : Nat → Option Ob} (h : evOp C nx ev (.buildSlice t n ps) W = some (l, e)) : e.nx = nx + 1 := by
  simp only [evOp] at h
  cases ht : C.ty t with
  | none => rw [ht] at h; cases h
  | some u =>
    rw [ht] at h
    cases u with
    | sl et =>
      simp only [] at h
      split at h
      · obtain ⟨_, _, _, _, _, h2, he⟩ := Rd.bind_some h
        split at h2
        · cases h2; cases he; rfl
        · cases h2
      · cases h
    | _ => cases h
theorem makeSlice_nx {t : Nat} {x y : Operand} {ev : Operand → FV} {W : Nat → Option Ob} (h : evOp C nx ev (.makeSlice t x y) W = some (l, e)) : e.nx = nx + 1 := by
  simp only [evOp] at h
  cases ht : C.ty t with
  | none => rw [ht] at h; cases h
  | some u =>
    rw [ht] at h
    cases u with
    | sl et =>
      cases hx : ev x <;> rw [hx] at h <;> first | (cases h; done) | skip
      cases hy : ev y <;> rw [hy] at h <;> first | (cases h; done) | skip
      cases h; rfl
    | _ => cases h

theorem two_args {args : Array Operand} {f : Operand → FV} {a b : FV} (h : args.toList.map f = [a, b]) : ∃ x y, args = #[x, y] ∧ f x = a ∧ f y = b := by
  obtain ⟨l⟩ := args
  match l, h with
  | [x, y], h => simp only [List.map_cons, List.map_nil, List.cons.injEq, and_true] at h; exact ⟨x, y, rfl, h.1, h.2⟩
theorem one_arg {args : Array Operand} {f : Operand → FV} {a : FV} (h : args.toList.map f = [a]) : ∃ x, args = #[x] ∧ f x = a := by
  obtain ⟨l⟩ := args
  match l, h with
  | [x], h => simp only [List.map_cons, List.map_nil, List.cons.injEq, and_true] at h; exact ⟨x, rfl, h⟩

theorem op_builtin (hC : CtxOk C P) {b : Builtin} {args : Array Operand} {ats : Array Nat} (ho : o.op = .call { callee := .builtin b, args := args, argTypes := ats }) (I : Inv X D E S tm) (hn : nx < e.nx → ¬ D nx 0)
    (h : evBuiltin C nx b ats.toList (args.toList.map S.ev) S.ob = some (l, e)) (g : ∀ b ∈ e.guards, b = true) : OpOk P X D E S tm nx o e := by
  generalize hv : args.toList.map S.ev = vs at h
  generalize hts : ats.toList = ts at h
  cases b <;> try (simp only [evBuiltin] at h; cases h; done)
  case len =>
    match vs, ts, hv, hts, h with
    | [x'], t :: ts, hv, hts, h =>
      obtain ⟨x, rfl, rfl⟩ := one_arg hv
      exact op_len hC (by rw [← Array.getElem?_toList, hts]; rfl) ho I h
    | [], _, _, _, h => cases h
    | [_], [], _, _, h => cases h
    | _ :: _ :: _, _, _, _, h => cases h
  case append =>
    match vs, ts, hv, hts, h with
    | [s', x'], t :: t2 :: ts, hv, hts, h =>
      obtain ⟨s, x, rfl, rfl, rfl⟩ := two_args hv
      simp only [evBuiltin] at h
      split at h
      · rename_i hk
        exact op_append hC (by rw [← Array.getElem?_toList, hts]; rfl) (by rw [← Array.getElem?_toList, hts]; rfl) hk ho I (hn (by rw [append_nx h]; omega)) h g
      · cases h
    | [], _, _, _, h => cases h
    | [_], _, _, _, h => cases h
    | [_, _], [], _, _, h => cases h
    | [_, _], [_], _, _, h => cases h
    | _ :: _ :: _ :: _, _, _, _, h => cases h
  case copy =>
    match vs, hv, h with
    | [_, _], _, h => cases h
    | [], _, h => cases h
    | [_], _, h => cases h
    | _ :: _ :: _ :: _, _, h => cases h
  case max =>
    match vs, hv, h with
    | .int k a :: vs, hv, h =>
      simp only [evBuiltin] at h
      cases hf : foldInt imax k a vs with
      | none => rw [hf] at h; cases h
      | some n =>
        rw [hf] at h
        cases val_some h
        exact op_max hv hf ho I
    | [], _, h => cases h
  case min =>
    match vs, hv, h with
    | .int k a :: vs, hv, h =>
      simp only [evBuiltin] at h
      cases hf : foldInt imin k a vs with
      | none => rw [hf] at h; cases h
      | some n =>
        rw [hf] at h
        cases val_some h
        exact op_min hv hf ho I
    | [], _, h => cases h

theorem conv_gap {s d : Nat} {x : FV} {W : Nat → Option Ob} (h : evConv C nx s d x W = some (l, e)) : ¬ (C.ty s = some .str ∧ C.ty d = some (.sl (.int .u8))) := by
  rintro ⟨h1, h2⟩
  cases x <;> simp [evConv, h1, h2, tyInt, newBytes, Rd.fail] at h

theorem evOp_sound (hC : CtxOk C P) (I : Inv X D E S tm) (hn : nx < e.nx → ¬ D nx 0) (h : evOp C nx S.ev o.op S.ob = some (l, e)) (g : ∀ b ∈ e.guards, b = true) : OpOk P X D E S tm nx o e := by
  cases ho : o.op with
  | move x => rw [ho] at h; cases val_some h; exact op_move (Or.inl ho) I
  | assign x => rw [ho] at h; cases val_some h; exact op_move (Or.inr ho) I
  | alloc t => exact op_alloc hC ho I (hn (by rw [ho] at h; rw [alloc_nx h]; omega)) h
  | box t x => exact op_box hC ho I (hn (by rw [ho] at h; rw [box_nx h]; omega)) h
  | build t ps => exact op_build hC ho I h
  | buildSlice t n ps => exact op_buildSlice hC ho I (hn (by rw [ho] at h; rw [buildSlice_nx h]; omega)) h
  | load t a => exact op_load hC ho I h
  | store t a x => exact op_store hC ho I h
  | nilCheck x => exact op_nilCheck ho I h
  | binOp op t x y yt => exact op_bin hC ho I h g
  | unOp op t x => exact op_un ho I h
  | convert s d x =>
    have h' := h
    rw [ho] at h'
    exact op_convert hC ho I h (conv_gap h')
  | makeFunc f a b =>
    cases f with
    | func f => exact op_makeFunc ho I h
    | _ => rw [ho] at h; cases h
  | makeSlice t a b => exact op_makeSlice hC ho I (hn (by rw [ho] at h; rw [makeSlice_nx h]; omega)) h g
  | slice t x lo hi mx => exact op_slice hC ho I h g
  | fieldAddr s x f => exact op_fieldAddr hC ho I h
  | field s x f => exact op_field hC ho I h
  | indexAddr t x i => exact op_indexAddr hC ho I h g
  | index t x i => exact op_index hC ho I h g
  | extract x i => exact op_extract ho I h
  | call c =>
    obtain ⟨cal, args, ats⟩ := c
    cases cal with
    | builtin b =>
      have h' := h
      rw [ho] at h'
      exact op_builtin hC ho I hn h' g
    | _ => rw [ho] at h; cases h
  | _ => rw [ho] at h; cases h
end
end Go.Evr

namespace Go.Evr

theorem Own.live {W : World} : ∀ {t : Ty} {Z : Zone} {x : t.den} {vs : List Value}, Own Z W t x vs → Own (fun b k => Z b k ∧ b < W.heap.size) W t x vs
  | .int _, _, _, _, h => h
  | .bool, _, _, _, h => h
  | .str, _, _, _, h => h
  | .sl e, Z, xs, _, h => by
    obtain ⟨a, cap, h1, h2, h3⟩ := h
    refine ⟨a, cap, h1, h2, h3.imp id ?_⟩
    rintro ⟨b, k, ha, ZM, ZR, m1, m2, m3, r1, r2, r3⟩
    refine ⟨b, k, ha, fun b k => ZM b k ∧ b < W.heap.size, fun i b k => ZR i b k ∧ b < W.heap.size, fun b' k' h => ⟨m1 _ _ h.1, h.2⟩, fun j hj => ⟨m2 j hj, ?_⟩, m3,
      fun i b' k' h => ⟨⟨(r1 i _ _ h.1).1, h.2⟩, fun hm => (r1 i _ _ h.1).2 hm.1⟩, fun i j b' k' h h' => r2 i j b' k' h.1 h'.1, fun i hi => ?_⟩
    · obtain ⟨v, hv⟩ := (m3 j hj).1
      exact cell_lt hv
    · obtain ⟨cs, q1, q2⟩ := r3 i hi
      exact ⟨cs, q1.live, q2⟩
  | .unit, _, _, _, h => h
  | .pair a b, Z, x, _, h => by
    obtain ⟨v1, v2, he, Z1, Z2, z1, z2, hd, h1, h2⟩ := h
    exact ⟨v1, v2, he, _, _, fun b' k' h => ⟨z1 _ _ h.1, h.2⟩, fun b' k' h => ⟨z2 _ _ h.1, h.2⟩, fun b' k' h h' => hd _ _ h.1 h'.1, h1.live, h2.live⟩
  | .st t, _, x, _, h => Own.live (t := t) h
  | .ref, _, _, _, h => h

theorem ownObs_len : ∀ (t : Ty) (x : t.den), (ownObs t x).length = ownN t
  | .int _, _ => rfl
  | .bool, _ => rfl
  | .str, _ => rfl
  | .sl _, _ => rfl
  | .unit, _ => rfl
  | .pair a b, x => by simp only [ownObs, List.length_append, ownN]; rw [ownObs_len a, ownObs_len b]
  | .st t, x => ownObs_len t x
  | .ref, _ => rfl

theorem ownOut_len (t : Ty) : ∀ (nx : Nat) (x : t.den), (ownOut nx t x).length = t.cells := by
  induction t with
  | pair a b iha ihb => intro nx x; simp only [ownOut, List.length_append, Ty.cells]; rw [iha, ihb]
  | st t ih => intro nx x; exact ih nx x
  | _ => intros; rfl

/-- Objects stand in a state from a number on. -/
def ObsAt (X : Cx) (nx : Nat) (obs : List Ob) : Prop := ∀ i ob, obs[i]? = some ob → X.ob (nx + i) = some ob
theorem ObsAt.left {X : Cx} {nx : Nat} {a b : List Ob} (h : ObsAt X nx (a ++ b)) : ObsAt X nx a := fun i ob hi => h i ob (by rw [List.getElem?_append_left (List.getElem?_eq_some_iff.1 hi).1]; exact hi)
theorem ObsAt.right {X : Cx} {nx : Nat} {a b : List Ob} (h : ObsAt X nx (a ++ b)) : ObsAt X (nx + a.length) b := fun i ob hi => by
  rw [Nat.add_assoc]
  exact h _ ob (by rw [List.getElem?_append_right (by omega), Nat.add_sub_cancel_left]; exact hi)
def RelsAt (X : Cx) (nx : Nat) (obs : List Ob) : Prop := ∀ i ob, obs[i]? = some ob → ObRel X (nx + i) ob
theorem RelsAt.append {X : Cx} {nx : Nat} {a b : List Ob} (h : RelsAt X nx a) (k : RelsAt X (nx + a.length) b) : RelsAt X nx (a ++ b) := fun i ob hi => by
  by_cases hl : i < a.length
  · rw [List.getElem?_append_left hl] at hi; exact h i ob hi
  · rw [List.getElem?_append_right (by omega)] at hi
    have := k _ _ hi
    rw [Nat.add_assoc, Nat.add_sub_cancel' (by omega)] at this
    exact this
theorem RelsAt.nil {X : Cx} {nx : Nat} : RelsAt X nx [] := fun i ob hi => by simp at hi

/-- Owned cells and places, from which objects can be read off. -/
structure Laid (W : World) (Z : Zone) (g : Nat → Nat → Option (Nat × Bool)) (r : Nat → Prop) : Prop where
  sub : ∀ b k o m, g b k = some (o, m) → Z b k ∧ b < W.heap.size ∧ r o

/-- A state of things that has these. -/
structure Has (X : Cx) (W : World) (g : Nat → Nat → Option (Nat × Bool)) (L : Nat → Loc) (r : Nat → Prop) : Prop where
  w : X.W = W
  own : ∀ b k q, g b k = some q → X.own b k = some q
  loc : ∀ o, r o → X.loc o = L o

def inR (nx n o : Nat) : Prop := nx ≤ o ∧ o < nx + n

theorem own_objs {W : World} : ∀ (t : Ty) {Z : Zone} {x : t.den} {vs : List Value} (nx : Nat), Own Z W t x vs →
    ∃ g L, Laid W Z g (inR nx (ownN t)) ∧ ∀ X, Has X W g L (inR nx (ownN t)) → ObsAt X nx (ownObs t x) → LRel X (ownOut nx t x) vs ∧ RelsAt X nx (ownObs t x)
  | .int _, _, _, _, _, h => ⟨fun _ _ => none, fun _ => .arr none 0, ⟨fun _ _ _ _ h => by cases h⟩, fun X _ _ => ⟨by cases h; exact ⟨_, _, rfl, rfl, rfl⟩, RelsAt.nil⟩⟩
  | .bool, _, _, _, _, h => ⟨fun _ _ => none, fun _ => .arr none 0, ⟨fun _ _ _ _ h => by cases h⟩, fun X _ _ => ⟨by cases h; exact ⟨_, _, rfl, rfl, rfl⟩, RelsAt.nil⟩⟩
  | .str, _, _, _, _, h => ⟨fun _ _ => none, fun _ => .arr none 0, ⟨fun _ _ _ _ h => by cases h⟩, fun X _ _ => ⟨by cases h; exact ⟨_, _, rfl, rfl, rfl⟩, RelsAt.nil⟩⟩
  | .unit, _, _, _, _, h => ⟨fun _ _ => none, fun _ => .arr none 0, ⟨fun _ _ _ _ h => by cases h⟩, fun X _ _ => ⟨by cases h; exact rfl, RelsAt.nil⟩⟩
  | .ref, _, _, vs, _, h => ⟨fun _ _ => none, fun _ => .arr none 0, ⟨fun _ _ _ _ h => by cases h⟩, fun X _ _ => ⟨by
      match vs, h with
      | [v], _ => exact ⟨v, [], rfl, trivial, rfl⟩, RelsAt.nil⟩⟩
  | .st t, _, x, _, nx, h => own_objs t (x := x) nx h
  | .sl e, Z, xs, _, nx, h => by
    classical
    obtain ⟨a, cap, rfl, h2, h3⟩ := h.live
    have fin : ∀ X : Cx, X.ob nx = some (.arr e xs true true 0) → X.loc nx = .arr a cap → LRel X [.fsl nx] [.slice a xs.length cap] := by
      intro X ho hl
      refine ⟨_, _, rfl, ⟨⟨_, _, _, rfl⟩, fun e' ys l d ver h => ?_⟩, rfl⟩
      rw [ho] at h; cases h
      exact ⟨a, cap, hl, rfl⟩
    have one : ∀ X : Cx, ObRel X nx (.arr e xs true true 0) → RelsAt X nx (ownObs (.sl e) xs) := by
      intro X h i ob hi
      match i, hi with
      | 0, hi => cases hi; exact h
      | i + 1, hi => simp [ownObs] at hi
    rcases h3 with rfl | ⟨b, k, rfl, ZM, ZR, m1, m2, m3, r1, r2, r3⟩
    · refine ⟨fun _ _ => none, fun _ => .arr a 0, ⟨fun _ _ _ _ h => by cases h⟩, fun X hX hO => ?_⟩
      have ho := hO 0 _ rfl
      have hl := hX.loc nx ⟨Nat.le_refl _, by simp [ownN]⟩
      exact ⟨fin X ho hl, one X ⟨a, 0, hl, h2, Or.inl rfl⟩⟩
    · refine ⟨fun b' k' => if ZM b' k' then some (nx, true) else if ∃ i, ZR i b' k' then some (nx, false) else none, fun _ => .arr (some ⟨b, k, none⟩) cap, ⟨fun b' k' o m h => ?_⟩, fun X hX hO => ?_⟩
      · split at h
        · rename_i hz; cases h; exact ⟨(m1 _ _ hz).1, (m1 _ _ hz).2, Nat.le_refl _, by simp [ownN]⟩
        · split at h
          · rename_i hz; cases h
            obtain ⟨i, hz⟩ := hz
            have := (r1 i _ _ hz).1
            exact ⟨this.1, this.2, Nat.le_refl _, by simp [ownN]⟩
          · cases h
      · have ho := hO 0 _ rfl
        have hl := hX.loc nx ⟨Nat.le_refl _, by simp [ownN]⟩
        have hw := hX.w
        subst hw
        refine ⟨fin X ho hl, one X ⟨_, cap, hl, h2, Or.inr ⟨b, k, rfl, fun _ => ⟨fun j hj => hX.own _ _ _ ?_, m3⟩, ZR, fun i b' k' hz => hX.own _ _ _ ?_, r2, r3⟩⟩⟩
        · exact if_pos (m2 j hj)
        · rw [if_neg (r1 i _ _ hz).2, if_pos ⟨i, hz⟩]
  | .pair a b, Z, x, _, nx, h => by
    classical
    obtain ⟨v1, v2, rfl, Z1, Z2, z1, z2, hd, h1, h2⟩ := h
    obtain ⟨g1, L1, l1, k1⟩ := own_objs a nx h1
    obtain ⟨g2, L2, l2, k2⟩ := own_objs b (nx + ownN a) h2
    refine ⟨fun b' k' => match g1 b' k' with | some q => some q | none => g2 b' k', fun o => if inR nx (ownN a) o then L1 o else L2 o, ⟨fun b' k' o m h => ?_⟩, fun X hX hO => ?_⟩
    · cases hg : g1 b' k' with
      | some q =>
        rw [hg] at h; cases h
        obtain ⟨p1, p2, p3, p4⟩ := l1.sub _ _ _ _ hg
        exact ⟨z1 _ _ p1, p2, p3, by simp only [ownN]; omega⟩
      | none =>
        rw [hg] at h
        obtain ⟨p1, p2, p3, p4⟩ := l2.sub _ _ _ _ h
        exact ⟨z2 _ _ p1, p2, by omega, by simp only [ownN]; omega⟩
    · have ha : Has X W g1 L1 (inR nx (ownN a)) := ⟨hX.w, fun b' k' q hq => hX.own _ _ _ (by rw [hq]), fun o ho => by rw [hX.loc o ⟨ho.1, by have := ho.2; simp only [ownN]; omega⟩]; exact if_pos ho⟩
      have hb : Has X W g2 L2 (inR (nx + ownN a) (ownN b)) := ⟨hX.w, fun b' k' q hq => hX.own _ _ _ (by
        cases hg : g1 b' k' with
        | none => exact hq
        | some q' => exact absurd (l2.sub _ _ q.1 q.2 hq).1 (hd _ _ (l1.sub _ _ q'.1 q'.2 hg).1)), fun o ho => by
          have h1 := ho.1
          have h2 := ho.2
          rw [hX.loc o ⟨by omega, by simp only [ownN]; omega⟩]
          exact if_neg fun h => by have := h.2; omega⟩
      obtain ⟨p1, p2⟩ := k1 X ha hO.left
      have hR := hO.right
      rw [ownObs_len] at hR
      obtain ⟨p3, p4⟩ := k2 X hb hR
      exact ⟨p1.append p3, p2.append (by rw [ownObs_len]; exact p4)⟩
end Go.Evr

namespace Go.Evr

def glue (g1 g2 : Nat → Nat → Option (Nat × Bool)) : Nat → Nat → Option (Nat × Bool) := fun b k => match g1 b k with
  | some q => some q
  | none => g2 b k
open Classical in
noncomputable def glueL (r : Nat → Prop) (L1 L2 : Nat → Loc) : Nat → Loc := fun o => if r o then L1 o else L2 o

section
variable {W : World} {X : Cx} {Z Z1 Z2 : Zone} {g1 g2 g : Nat → Nat → Option (Nat × Bool)} {L1 L2 : Nat → Loc} {r r1 r2 : Nat → Prop}
theorem Laid.glue (l1 : Laid W Z1 g1 r1) (l2 : Laid W Z2 g2 r2) (z1 : ∀ b k, Z1 b k → Z b k) (z2 : ∀ b k, Z2 b k → Z b k) (h1 : ∀ o, r1 o → r o) (h2 : ∀ o, r2 o → r o) : Laid W Z (glue g1 g2) r := by
  refine ⟨fun b k o m h => ?_⟩
  unfold Evr.glue at h
  cases hg : g1 b k with
  | some q =>
    rw [hg] at h; cases h
    obtain ⟨p1, p2, p3⟩ := l1.sub _ _ _ _ hg
    exact ⟨z1 _ _ p1, p2, h1 _ p3⟩
  | none =>
    rw [hg] at h
    obtain ⟨p1, p2, p3⟩ := l2.sub _ _ _ _ h
    exact ⟨z2 _ _ p1, p2, h2 _ p3⟩
theorem Has.left (h : Has X W (Evr.glue g1 g2) (glueL r1 L1 L2) r) (h1 : ∀ o, r1 o → r o) : Has X W g1 L1 r1 :=
  ⟨h.w, fun b k q hq => h.own b k q (by unfold Evr.glue; rw [hq]), fun o ho => by rw [h.loc o (h1 o ho)]; exact if_pos ho⟩
theorem Has.right (h : Has X W (Evr.glue g1 g2) (glueL r1 L1 L2) r) (l1 : Laid W Z1 g1 r1) (l2 : Laid W Z2 g2 r2) (hd : ∀ b k, Z1 b k → ¬ Z2 b k) (h2 : ∀ o, r2 o → r o ∧ ¬ r1 o) : Has X W g2 L2 r2 :=
  ⟨h.w, fun b k q hq => h.own b k q (by
    unfold Evr.glue
    cases hg : g1 b k with
    | none => exact hq
    | some q' => exact absurd (l2.sub _ _ q.1 q.2 hq).1 (hd _ _ (l1.sub _ _ q'.1 q'.2 hg).1)), fun o ho => by rw [h.loc o (h2 o ho).1]; exact if_neg (h2 o ho).2⟩
end

/-- The cells from a place on. -/
def cellsZ (b k n : Nat) : Zone := fun b' k' => b' = b ∧ ∃ j, j < n ∧ k' = k + j
open Classical in
noncomputable def gBox (b k n p : Nat) : Nat → Nat → Option (Nat × Bool) := fun b' k' => if cellsZ b k n b' k' then some (p, true) else none
theorem gBox_laid {W : World} {b k n p : Nat} (hm : Mine W b k n) : Laid W (cellsZ b k n) (gBox b k n p) (· = p) := by
  refine ⟨fun b' k' o m h => ?_⟩
  unfold gBox at h
  split at h
  · rename_i hz
    cases h
    refine ⟨hz, ?_, rfl⟩
    obtain ⟨rfl, j, hj, rfl⟩ := hz
    obtain ⟨v, hv⟩ := (hm j hj).1
    exact cell_lt hv
  · cases h
theorem gBox_at {b k n p j : Nat} (hj : j < n) : gBox b k n p b (k + j) = some (p, true) := if_pos ⟨rfl, j, hj, rfl⟩

theorem box_rel {X : Cx} {W : World} {b k n p : Nat} {cs : List FV} {vs : List Value} {L : Nat → Loc} {r : Nat → Prop} (hX : Has X W (gBox b k n p) (fun _ => .box b k) (· = p)) (hm : Mine W b k n) (hl : LRel X cs vs) (hn : vs.length = n)
    (hc : ∀ j v, vs[j]? = some v → W.cell? ⟨b, k + j, none⟩ = some v) : ObRel X p (.box cs) := by
  refine ⟨b, k, vs, hX.loc p rfl, hl, fun j v hj => ?_⟩
  have hjl := (List.getElem?_eq_some_iff.1 hj).1
  refine ⟨hX.own _ _ _ (gBox_at (by omega)), ?_, ?_⟩
  · rw [hX.w]; exact hc j v hj
  · rw [hX.w]; exact (hm j (by omega)).2

theorem own_objs_sl {W : World} {e : Ty} {Z : Zone} {xs : List e.den} {u : Value} (nx : Nat) (h : Own Z W (.sl e) xs [u]) :
    ∃ g L a cap, Laid W Z g (· = nx) ∧ u = .slice a (llen xs) cap ∧ L nx = .arr a cap ∧ ∀ X, Has X W g L (· = nx) → X.ob nx = some (.arr e xs true true 0) → VRel X (.fsl nx) u ∧ ObRel X nx (.arr e xs true true 0) := by
  obtain ⟨g, L, h1, h2⟩ := own_objs (.sl e) nx h
  have hr : ∀ o, inR nx (ownN (.sl e)) o ↔ o = nx := fun o => by simp only [inR, ownN]; omega
  have hob : ∀ X : Cx, X.ob nx = some (.arr e xs true true 0) → ObsAt X nx (ownObs (.sl e) xs) := by
    intro X ho i ob hi
    match i, hi with
    | 0, hi => cases hi; exact ho
    | i + 1, hi => simp [ownObs] at hi
  obtain ⟨h3, _⟩ := h2 ⟨g, L, fun o => if o = nx then some (.arr e xs true true 0) else none, W⟩ ⟨rfl, fun _ _ _ h => h, fun _ _ => rfl⟩ (hob _ (if_pos rfl))
  obtain ⟨v, us, hv, h3, _⟩ := h3
  cases hv
  obtain ⟨a, cap, h4, h5⟩ := h3.2 e xs true true 0 (if_pos rfl)
  refine ⟨g, L, a, cap, ⟨fun b k o m h => ?_⟩, h5, h4, fun X hX ho => ?_⟩
  · obtain ⟨p1, p2, p3⟩ := h1.sub _ _ _ _ h
    exact ⟨p1, p2, (hr o).1 p3⟩
  · obtain ⟨h6, h7⟩ := h2 X ⟨hX.w, hX.own, fun o ho => hX.loc o ((hr o).1 ho)⟩ (hob X ho)
    obtain ⟨v, us, hv, h6, _⟩ := h6
    cases hv
    exact ⟨h6, h7 0 _ rfl⟩

/-! ### Entering -/
def othN : List Md → Nat
  | [] => 0
  | .io t :: ms => ownN t + othN ms
  | .take _ :: ms => othN ms + 1
  | .view _ :: ms => othN ms
  | .ro _ :: ms => othN ms
  | .mut _ :: ms => othN ms
  | .clo _ _ _ :: ms => othN ms
  | .agg _ :: ms => othN ms

theorem PinsOk.congr {L L' : Nat → Loc} : ∀ {ms : List Md} {us : List Value} {p : Nat}, PinsOk L ms us p → (∀ o, p ≤ o → o < p + pins ms → L' o = L o) → PinsOk L' ms us p
  | [], _, _, _, _ => trivial
  | .io _ :: ms, _, p, h, hL => by
    obtain ⟨b, k, us', h1, h2, h3⟩ := h
    exact ⟨b, k, us', h1, (hL p (Nat.le_refl _) (by simp only [pins]; omega)).trans h2, h3.congr fun o h4 h5 => hL o (by omega) (by simp only [pins]; omega)⟩
  | .mut _ :: ms, _, p, h, hL => by
    obtain ⟨a, n, cap, us', h1, h2, h3⟩ := h
    exact ⟨a, n, cap, us', h1, (hL p (Nat.le_refl _) (by simp only [pins]; omega)).trans h2, h3.congr fun o h4 h5 => hL o (by omega) (by simp only [pins]; omega)⟩
  | .clo _ _ _ :: ms, _, p, h, hL => by obtain ⟨fs, cs, us', h1, h3⟩ := h; exact ⟨fs, cs, us', h1, h3.congr fun o h4 h5 => hL o h4 h5⟩
  | .agg _ :: ms, _, p, h, hL => by obtain ⟨cs, us', h1, h3⟩ := h; exact ⟨cs, us', h1, h3.congr fun o h4 h5 => hL o h4 h5⟩
  | .view _ :: ms, _, p, h, hL => by obtain ⟨u, us', h1, h3⟩ := h; exact ⟨u, us', h1, h3.congr fun o h4 h5 => hL o h4 h5⟩
  | .ro _ :: ms, _, p, h, hL => by obtain ⟨u, us', h1, h3⟩ := h; exact ⟨u, us', h1, h3.congr fun o h4 h5 => hL o h4 h5⟩
  | .take _ :: ms, _, p, h, hL => by obtain ⟨u, us', h1, h3⟩ := h; exact ⟨u, us', h1, h3.congr fun o h4 h5 => hL o h4 h5⟩

theorem cellSl_path {X : Cx} {e : Ty} {ys : List e.den} {v : Value} : PathOk X none e ys v := trivial

theorem wrap_rel {X : Cx} {t : Ty} {cs : List FV} {vs : List Value} {u : Value} (h : LRel X cs vs) (hs : Shape t u vs) : VRel X (wrapSt t cs) u := by
  unfold Shape at hs
  cases ht : t.isSt with
  | true =>
    cases t <;> first | (cases ht; done) | skip
    rw [ht] at hs
    simp only [if_true] at hs
    subst hs
    exact ⟨vs, rfl, h⟩
  | false =>
    rw [ht] at hs
    simp only [Bool.false_eq_true, if_false] at hs
    subst hs
    match cs, h with
    | [c], h =>
      obtain ⟨v, us', hv, h1, h2⟩ := h
      cases hv
      cases t <;> first | (cases ht; done) | exact h1
    | c :: c' :: cs, h =>
      obtain ⟨v, us', hv, h1, h2⟩ := h
      cases hv
      obtain ⟨_, _, hv, _⟩ := h2
      cases hv
    | [], h => cases h

theorem view_rel {X : Cx} {V : Zone} {W : World} {t : Ty} {x : t.den} {vs : List Value} (hw : X.W = W) (hV : ∀ b k, V b k → X.own b k = none) (h : Rep V W t x vs) : LRel X (explode untagged t x 0) vs := by
  subst hw
  exact explode_rel (Z := V) (fun c b k hz => Or.inl (hV b k hz)) 0 h fun _ _ _ _ _ _ => trivial

theorem enter_ok {W : World} {V : Zone} : ∀ (ms : List Md) {Z : Zone} {x : (argT ms).den} {us : List Value} (p nx : Nat), ArgsOk V W ms x us Z → p + pins ms ≤ nx →
    ∃ g L, Laid W Z g (fun o => inR p (pins ms) o ∨ inR nx (othN ms) o) ∧ PinsOk L ms us p ∧ ∀ X, Has X W g L (fun o => inR p (pins ms) o ∨ inR nx (othN ms) o) → (∀ b k, V b k → X.own b k = none) →
      ObsAt X p (enterP ms x nx) → ObsAt X nx (enterO ms x) → LRel X (enterV ms x p nx) us ∧ RelsAt X p (enterP ms x nx) ∧ RelsAt X nx (enterO ms x)
  | [], _, _, _, _, _, h, _ => ⟨fun _ _ => none, fun _ => .arr none 0, ⟨fun _ _ _ _ h => by cases h⟩, trivial, fun X _ _ _ _ => ⟨h, RelsAt.nil, RelsAt.nil⟩⟩
  | .view t :: ms, _, x, _, p, nx, h, hp => by
    obtain ⟨u, us', vs, rfl, h1, h2, h3⟩ := h
    obtain ⟨g, L, l1, l2, l3⟩ := enter_ok ms p nx h3 hp
    refine ⟨g, L, l1, ⟨u, us', rfl, l2⟩, fun X hX hV hP hO => ?_⟩
    obtain ⟨q1, q2, q3⟩ := l3 X hX hV hP hO
    exact ⟨⟨u, us', rfl, wrap_rel (view_rel hX.w hV h1) h2, q1⟩, q2, q3⟩
  | .ro t :: ms, _, x, _, p, nx, h, hp => by
    obtain ⟨b, k, vs, us', rfl, h1, h2, h3⟩ := h
    obtain ⟨g, L, l1, l2, l3⟩ := enter_ok ms p nx h3 hp
    refine ⟨g, L, l1, ⟨_, us', rfl, l2⟩, fun X hX hV hP hO => ?_⟩
    obtain ⟨q1, q2, q3⟩ := l3 X hX hV hP hO
    refine ⟨⟨_, us', rfl, ⟨b, k, rfl, fun _ => ⟨vs, ?_, view_rel hX.w hV h1⟩⟩, q1⟩, q2, q3⟩
    rw [hX.w]
    exact h2.mono fun b k v hz hv => ⟨Or.inl (hV b k hz), hv⟩
  | .io t :: ms, Z, x, _, p, nx, h, hp => by
    obtain ⟨b, k, vs, us', Z2, Z3, rfl, z1, z2, z3, d1, d2, hm, hc, ho, h3⟩ := h
    simp only [pins] at hp
    obtain ⟨g1, L1, m1, m2⟩ := own_objs t nx ho
    obtain ⟨g, L, l1, l2, l3⟩ := enter_ok ms (p + 1) (nx + ownN t) h3 (by omega)
    have b1 := gBox_laid (p := p) hm
    have j1 : Laid W Z (glue g1 g) (fun o => inR nx (ownN t) o ∨ (inR (p + 1) (pins ms) o ∨ inR (nx + ownN t) (othN ms) o)) := m1.glue l1 z2 z3 (fun _ => Or.inl) fun _ => Or.inr
    have hbz : ∀ b' k', cellsZ b k t.cells b' k' → ¬ Z2 b' k' ∧ ¬ Z3 b' k' := by rintro b' k' ⟨rfl, j, hj, rfl⟩; exact d2 j hj
    have j1' : Laid W (fun b' k' => Z2 b' k' ∨ Z3 b' k') (glue g1 g) (fun o => inR nx (ownN t) o ∨ (inR (p + 1) (pins ms) o ∨ inR (nx + ownN t) (othN ms) o)) :=
      m1.glue l1 (fun _ _ => Or.inl) (fun _ _ => Or.inr) (fun _ => Or.inl) fun _ => Or.inr
    have j2 : Laid W Z (glue (gBox b k t.cells p) (glue g1 g)) (fun o => inR p (pins (.io t :: ms)) o ∨ inR nx (othN (.io t :: ms)) o) :=
      b1.glue j1 (by rintro b' k' ⟨rfl, j, hj, rfl⟩; exact z1 j hj) (fun _ _ h => h) (fun o ho => by simp only [inR, pins]; omega) fun o ho => by simp only [inR, pins, othN] at ho ⊢; omega
    refine ⟨_, glueL (· = p) (fun _ => .box b k) (glueL (inR nx (ownN t)) L1 L), j2, ⟨b, k, us', rfl, if_pos rfl, l2.congr fun o q1 q2 => ?_⟩, fun X hX hV hP hO => ?_⟩
    · unfold glueL; rw [if_neg (by omega), if_neg (by simp only [inR]; omega)]
    · have hB := hX.left fun o ho => by simp only [inR, pins]; omega
      have hR := hX.right b1 j1' (fun b' k' hz h => h.elim (hbz _ _ hz).1 (hbz _ _ hz).2) fun o ho => by simp only [inR, pins, othN] at ho ⊢; omega
      have h1 := hR.left fun o ho => Or.inl ho
      have h2 := hR.right m1 l1 d1 fun o ho => ⟨Or.inr ho, by simp only [inR] at ho ⊢; omega⟩
      have hP' : ObsAt X (p + 1) (enterP ms x.2 (nx + ownN t)) := fun i ob hi => by
        have := hP (i + 1) ob (by simpa [enterP] using hi)
        rw [← Nat.add_assoc, Nat.add_right_comm] at this; exact this
      have hO' : ObsAt X (nx + ownN t) (enterO ms x.2) := by
        have := ObsAt.right (a := ownObs t x.1) (b := enterO ms x.2) hO
        rw [ownObs_len] at this; exact this
      obtain ⟨q1, q2, q3⟩ := l3 X h2 hV hP' hO'
      obtain ⟨w1, w2⟩ := m2 X h1 (ObsAt.left (a := ownObs t x.1) (b := enterO ms x.2) hO)
      have hbox : ObRel X p (.box (ownOut nx t x.1)) := box_rel (L := L) (r := fun _ => True) hB hm w1 ho.len hc
      refine ⟨⟨_, us', rfl, ⟨⟨_, rfl⟩, fun cs hcs => ⟨b, k, hB.loc p rfl, rfl⟩⟩, q1⟩, fun i ob hi => ?_, w2.append (by rw [ownObs_len]; exact q3)⟩
      match i, hi with
      | 0, hi => cases hi; exact hbox
      | i + 1, hi =>
        have := q2 i ob (by simpa [enterP] using hi)
        rw [Nat.add_assoc, Nat.add_comm 1 i] at this; exact this
  | .mut e :: ms, Z, x, _, p, nx, h, hp => by
    obtain ⟨u, us', Z2, Z3, rfl, z2, z3, d1, ho, h3⟩ := h
    simp only [pins] at hp
    obtain ⟨g1, L1, a, cap, m1, rfl, m3, m2⟩ := own_objs_sl p ho
    obtain ⟨g, L, l1, l2, l3⟩ := enter_ok ms (p + 1) nx h3 (by omega)
    refine ⟨_, glueL (· = p) L1 L, m1.glue l1 z2 z3 (fun o ho => by simp only [inR, pins]; omega) (fun o ho => by simp only [inR, pins, othN] at ho ⊢; omega), ⟨a, _, cap, us', rfl, (if_pos rfl).trans m3, l2.congr fun o q1 q2 => ?_⟩, fun X hX hV hP hO => ?_⟩
    · unfold glueL; rw [if_neg (by omega)]
    · have h1 := hX.left fun o ho => by simp only [inR, pins]; omega
      have h2 := hX.right m1 l1 d1 fun o ho => by simp only [inR, pins, othN] at ho ⊢; omega
      have hP' : ObsAt X (p + 1) (enterP ms x.2 nx) := fun i ob hi => by
        have := hP (i + 1) ob (by simpa [enterP] using hi)
        rw [← Nat.add_assoc, Nat.add_right_comm] at this; exact this
      obtain ⟨q1, q2, q3⟩ := l3 X h2 hV hP' hO
      obtain ⟨w1, w2⟩ := m2 X h1 (hP 0 _ rfl)
      refine ⟨⟨_, us', rfl, w1, q1⟩, fun i ob hi => ?_, q3⟩
      match i, hi with
      | 0, hi => cases hi; exact w2
      | i + 1, hi =>
        have := q2 i ob (by simpa [enterP] using hi)
        rw [Nat.add_assoc, Nat.add_comm 1 i] at this; exact this
  | .take e :: ms, Z, x, _, p, nx, h, hp => by
    obtain ⟨u, us', Z2, Z3, rfl, z2, z3, d1, ho, h3⟩ := h
    simp only [pins] at hp
    obtain ⟨g1, L1, a, cap, m1, rfl, m3, m2⟩ := own_objs_sl nx ho
    obtain ⟨g, L, l1, l2, l3⟩ := enter_ok ms p (nx + 1) h3 (by omega)
    refine ⟨_, glueL (· = nx) L1 L, m1.glue l1 z2 z3 (fun o ho => by simp only [inR, othN]; omega) (fun o ho => by simp only [inR, pins, othN] at ho ⊢; omega), ⟨_, us', rfl, l2.congr fun o q1 q2 => ?_⟩, fun X hX hV hP hO => ?_⟩
    · unfold glueL; rw [if_neg (by omega)]
    · have h1 := hX.left fun o ho => by simp only [inR, othN]; omega
      have h2 := hX.right m1 l1 d1 fun o ho => by simp only [inR, pins, othN] at ho ⊢; omega
      have hO' : ObsAt X (nx + 1) (enterO ms x.2) := fun i ob hi => by
        have := hO (i + 1) ob (by simpa [enterO] using hi)
        rw [← Nat.add_assoc, Nat.add_right_comm] at this; exact this
      obtain ⟨q1, q2, q3⟩ := l3 X h2 hV hP hO'
      obtain ⟨w1, w2⟩ := m2 X h1 (hO 0 _ rfl)
      refine ⟨⟨_, us', rfl, w1, q1⟩, q2, fun i ob hi => ?_⟩
      match i, hi with
      | 0, hi => cases hi; exact w2
      | i + 1, hi =>
        have := q3 i ob (by simpa [enterO] using hi)
        rw [Nat.add_assoc, Nat.add_comm 1 i] at this; exact this
  | .clo f a b :: ms, Z, x, _, p, nx, h, hp => by
    obtain ⟨fs, cs, us', rfl, ha, hb, h3⟩ := h
    obtain ⟨g, L, l1, l2, l3⟩ := enter_ok ms p nx h3 hp
    refine ⟨g, L, l1, ⟨fs, cs, us', rfl, l2⟩, fun X hX hV hP hO => ?_⟩
    obtain ⟨q1, q2, q3⟩ := l3 X hX hV hP hO
    refine ⟨⟨_, us', rfl, ⟨fs, cs, rfl, ?_, ?_⟩, ?_⟩, q2, q3⟩
    · have := LRel.take a q1
      rw [List.append_assoc, List.take_left' ha] at this; exact this
    · have := LRel.take b (LRel.drop a q1)
      rw [List.append_assoc, List.drop_left' ha, List.take_left' hb] at this; exact this
    · have := LRel.drop (a + b) q1
      rw [List.drop_left' (by simp [ha, hb])] at this; exact this
  | .agg n :: ms, Z, x, _, p, nx, h, hp => by
    obtain ⟨cs, us', rfl, ha, h3⟩ := h
    obtain ⟨g, L, l1, l2, l3⟩ := enter_ok ms p nx h3 hp
    refine ⟨g, L, l1, ⟨cs, us', rfl, l2⟩, fun X hX hV hP hO => ?_⟩
    obtain ⟨q1, q2, q3⟩ := l3 X hX hV hP hO
    refine ⟨⟨_, us', rfl, ⟨cs, rfl, ?_⟩, ?_⟩, q2, q3⟩
    · have := LRel.take n q1
      rw [List.take_left' ha] at this; exact this
    · have := LRel.drop n q1
      rw [List.drop_left' ha] at this; exact this
end Go.Evr

namespace Go.Evr

theorem ob_map (ts : List FV) (l : List Ob) (o : Nat) : ({ tmps := ts, objs := l.map some } : St).ob o = l[o]? := by
  unfold St.ob
  simp only [List.getElem?_map]
  cases l[o]? <;> rfl

def Ob.ver0 : Ob → Prop
  | .box _ => True
  | .arr _ _ _ _ v => v = 0

theorem ownOut_ok {D : Nat → Nat → Prop} : ∀ (t : Ty) (x : t.den) (nx : Nat), (∀ o, inR nx (ownN t) o → D o 0) → okL D (ownOut nx t x)
  | .int _, _, _, _ => ⟨trivial, trivial⟩
  | .bool, _, _, _ => ⟨trivial, trivial⟩
  | .str, _, _, _ => ⟨trivial, trivial⟩
  | .sl _, _, nx, h => ⟨h nx ⟨Nat.le_refl _, by simp [ownN]⟩, trivial⟩
  | .unit, _, _, _ => trivial
  | .pair a b, x, nx, h => okL.append (ownOut_ok a x.1 nx fun o ho => h o ⟨ho.1, by have := ho.2; simp only [ownN]; omega⟩) (ownOut_ok b x.2 (nx + ownN a) fun o ho => h o ⟨by have := ho.1; omega, by have := ho.2; simp only [ownN]; omega⟩)
  | .st t, x, nx, h => ownOut_ok t x nx h
  | .ref, _, _, _ => ⟨trivial, trivial⟩
theorem ownObs_ok {D : Nat → Nat → Prop} : ∀ (t : Ty) (x : t.den), ∀ ob ∈ ownObs t x, ob.ok D ∧ ob.ver0
  | .int _, _, _, h => by simp [ownObs] at h
  | .bool, _, _, h => by simp [ownObs] at h
  | .str, _, _, h => by simp [ownObs] at h
  | .sl _, _, _, h => by simp [ownObs] at h; subst h; exact ⟨trivial, rfl⟩
  | .unit, _, _, h => by simp [ownObs] at h
  | .pair a b, x, ob, h => (List.mem_append.1 h).elim (ownObs_ok a x.1 ob) (ownObs_ok b x.2 ob)
  | .st t, x, ob, h => ownObs_ok t x ob h
  | .ref, _, _, h => by simp [ownObs] at h
theorem wrap_ok {D : Nat → Nat → Prop} {t : Ty} {cs : List FV} (h : okL D cs) : (wrapSt t cs).ok D := by
  match t, cs, h with
  | .st _, cs, h => exact h
  | .int _, [c], h => exact h.1
  | .bool, [c], h => exact h.1
  | .str, [c], h => exact h.1
  | .sl _, [c], h => exact h.1
  | .unit, [c], h => exact h.1
  | .pair _ _, [c], h => exact h.1
  | .ref, [c], h => exact h.1
  | .int _, [], _ => trivial
  | .bool, [], _ => trivial
  | .str, [], _ => trivial
  | .sl _, [], _ => trivial
  | .unit, [], _ => trivial
  | .pair _ _, [], _ => trivial
  | .ref, [], _ => trivial
  | .int _, _ :: _ :: _, _ => trivial
  | .bool, _ :: _ :: _, _ => trivial
  | .str, _ :: _ :: _, _ => trivial
  | .sl _, _ :: _ :: _, _ => trivial
  | .unit, _ :: _ :: _, _ => trivial
  | .pair _ _, _ :: _ :: _, _ => trivial
  | .ref, _ :: _ :: _, _ => trivial

theorem explode0_ok {D : Nat → Nat → Prop} {t : Ty} {x : t.den} : okL D (explode untagged t x 0) := explode_ok fun c q hq => by cases (show (none : Tag) = some q from hq)

theorem enterP_len : ∀ (ms : List Md) (x : (argT ms).den) (nx : Nat), (enterP ms x nx).length = pins ms
  | [], _, _ => rfl
  | .view _ :: ms, x, nx => enterP_len ms x.2 nx
  | .ro _ :: ms, x, nx => enterP_len ms x.2 nx
  | .io _ :: ms, x, nx => by simp only [enterP, List.length_cons, pins]; rw [enterP_len ms]
  | .mut _ :: ms, x, nx => by simp only [enterP, List.length_cons, pins]; rw [enterP_len ms]
  | .take _ :: ms, x, nx => enterP_len ms x.2 (nx + 1)
  | .clo _ _ _ :: ms, x, nx => enterP_len ms x nx
  | .agg _ :: ms, x, nx => enterP_len ms x nx
theorem enterO_len : ∀ (ms : List Md) (x : (argT ms).den), (enterO ms x).length = othN ms
  | [], _ => rfl
  | .view _ :: ms, x => enterO_len ms x.2
  | .ro _ :: ms, x => enterO_len ms x.2
  | .io t :: ms, x => by simp only [enterO, List.length_append, othN]; rw [enterO_len ms, ownObs_len]
  | .mut _ :: ms, x => enterO_len ms x.2
  | .take _ :: ms, x => by simp only [enterO, List.length_cons, othN]; rw [enterO_len ms]
  | .clo _ _ _ :: ms, x => enterO_len ms x
  | .agg _ :: ms, x => enterO_len ms x

theorem enter_oks {D : Nat → Nat → Prop} : ∀ (ms : List Md) (x : (argT ms).den) (p nx : Nat), (∀ o, inR p (pins ms) o ∨ inR nx (othN ms) o → D o 0) →
    okL D (enterV ms x p nx) ∧ (∀ ob ∈ enterP ms x nx, ob.ok D ∧ ob.ver0) ∧ ∀ ob ∈ enterO ms x, ob.ok D ∧ ob.ver0
  | [], _, _, _, _ => ⟨trivial, by simp [enterP], by simp [enterO]⟩
  | .view t :: ms, x, p, nx, h => by
    obtain ⟨q1, q2⟩ := enter_oks ms x.2 p nx h
    exact ⟨⟨wrap_ok explode0_ok, q1⟩, q2⟩
  | .ro t :: ms, x, p, nx, h => by
    obtain ⟨q1, q2⟩ := enter_oks ms x.2 p nx h
    refine ⟨⟨?_, q1⟩, q2⟩
    show (∀ q, (none : Tag) = some q → D q.1.1 q.1.2) ∧ okL D (explode untagged t x.1 0)
    exact ⟨fun q hq => (by cases hq), explode0_ok⟩
  | .io t :: ms, x, p, nx, h => by
    have hh : ∀ o, inR (p + 1) (pins ms) o ∨ inR (nx + ownN t) (othN ms) o → D o 0 := fun o ho => h o (by simp only [inR, pins, othN] at ho ⊢; omega)
    obtain ⟨q1, q2, q3⟩ := enter_oks ms x.2 (p + 1) (nx + ownN t) hh
    refine ⟨⟨h p (Or.inl (by simp only [inR, pins]; omega)), q1⟩, fun ob hob => ?_, fun ob hob => (List.mem_append.1 hob).elim (ownObs_ok t x.1 ob) (q3 ob)⟩
    rcases List.mem_cons.1 hob with rfl | hob
    · exact ⟨ownOut_ok t x.1 nx fun o ho => h o (Or.inr (by simp only [inR, othN] at ho ⊢; omega)), trivial⟩
    · exact q2 ob hob
  | .mut e :: ms, x, p, nx, h => by
    have hh : ∀ o, inR (p + 1) (pins ms) o ∨ inR nx (othN ms) o → D o 0 := fun o ho => h o (by simp only [inR, pins, othN] at ho ⊢; omega)
    obtain ⟨q1, q2, q3⟩ := enter_oks ms x.2 (p + 1) nx hh
    refine ⟨⟨h p (Or.inl (by simp only [inR, pins]; omega)), q1⟩, fun ob hob => ?_, q3⟩
    rcases List.mem_cons.1 hob with rfl | hob
    · exact ⟨trivial, rfl⟩
    · exact q2 ob hob
  | .take e :: ms, x, p, nx, h => by
    have hh : ∀ o, inR p (pins ms) o ∨ inR (nx + 1) (othN ms) o → D o 0 := fun o ho => h o (by simp only [inR, pins, othN] at ho ⊢; omega)
    obtain ⟨q1, q2, q3⟩ := enter_oks ms x.2 p (nx + 1) hh
    refine ⟨⟨h nx (Or.inr (by simp only [inR, othN]; omega)), q1⟩, q2, fun ob hob => ?_⟩
    rcases List.mem_cons.1 hob with rfl | hob
    · exact ⟨trivial, rfl⟩
    · exact q3 ob hob
  | .clo f a b :: ms, x, p, nx, h => by
    obtain ⟨q1, q2⟩ := enter_oks ms x p nx h
    exact ⟨⟨⟨okL.take a q1, okL.take b (okL.drop a q1)⟩, okL.drop (a + b) q1⟩, q2⟩
  | .agg n :: ms, x, p, nx, h => by
    obtain ⟨q1, q2⟩ := enter_oks ms x p nx h
    exact ⟨⟨okL.take n q1, okL.drop n q1⟩, q2⟩

theorem bads_rel {X : Cx} : ∀ n : Nat, LRel X (List.replicate n .bad) (List.replicate n undef)
  | 0 => rfl
  | n + 1 => ⟨undef, List.replicate n undef, rfl, trivial, bads_rel n⟩
theorem bads_ok {D : Nat → Nat → Prop} : ∀ n : Nat, okL D (List.replicate n .bad)
  | 0 => trivial
  | n + 1 => ⟨trivial, bads_ok n⟩

theorem entered_inv {W : World} {V Z : Zone} {en : Entry} {x : (argT en.ps).den} {us : List Value} (h : ArgsOk V W en.ps x us Z) (hV : ∀ b k, V b k → ¬ Z b k) (n : Nat) :
    ∃ X D E, X.W = W ∧ E.W0 = W ∧ E.R0 = Z ∧ E.us = us ∧ E.np = pins en.ps ∧ PinsOk E.L0 en.ps E.us 0 ∧ Inv X D E (entered en x n) (us ++ List.replicate (n - us.length) undef) := by
  obtain ⟨g, L, l1, l2, l3⟩ := enter_ok en.ps 0 (pins en.ps) h (by omega)
  let objs := enterP en.ps x (pins en.ps) ++ enterO en.ps x
  have hob : ∀ o, (entered en x n).ob o = objs[o]? := fun o => ob_map _ _ o
  have hlen : objs.length = pins en.ps + othN en.ps := by simp only [objs, List.length_append]; rw [enterP_len, enterO_len]
  let X : Cx := ⟨g, L, (entered en x n).ob, W⟩
  let D : Nat → Nat → Prop := fun o v => o < objs.length ∧ v = 0
  have hHas : Has X W g L (fun o => inR 0 (pins en.ps) o ∨ inR (pins en.ps) (othN en.ps) o) := ⟨rfl, fun _ _ _ h => h, fun _ _ => rfl⟩
  have hP : ObsAt X 0 (enterP en.ps x (pins en.ps)) := fun i ob hi => by
    rw [Nat.zero_add]
    exact (hob i).trans (by simp only [objs]; rw [List.getElem?_append_left (List.getElem?_eq_some_iff.1 hi).1]; exact hi)
  have hO : ObsAt X (pins en.ps) (enterO en.ps x) := fun i ob hi => by
    refine (hob _).trans ?_
    simp only [objs]
    rw [List.getElem?_append_right (by rw [enterP_len]; omega), enterP_len, Nat.add_sub_cancel_left]; exact hi
  have hVn : ∀ b k, V b k → X.own b k = none := fun b k hv => by
    show g b k = none
    cases hg : g b k with
    | none => rfl
    | some q => exact absurd (l1.sub b k q.1 q.2 hg).1 (hV b k hv)
  obtain ⟨q1, q2, q3⟩ := l3 X hHas hVn hP hO
  obtain ⟨o1, o2, o3⟩ := enter_oks (D := D) en.ps x 0 (pins en.ps) fun o ho => ⟨by simp only [inR] at ho; omega, rfl⟩
  have hmem : ∀ o y, (entered en x n).ob o = some y → y.ok D ∧ y.ver0 := fun o y hy => by
    rw [hob] at hy
    have := List.mem_of_getElem? hy
    exact (List.mem_append.1 this).elim (o2 y) (o3 y)
  have hlt : ∀ o y, (entered en x n).ob o = some y → o < objs.length := fun o y hy => by rw [hob] at hy; exact (List.getElem?_eq_some_iff.1 hy).1
  have htl : (enterV en.ps x 0 (pins en.ps)).length = us.length := q1.len.symm
  refine ⟨X, D, ⟨W, Z, pins en.ps, L, us⟩, rfl, rfl, rfl, rfl, rfl, l2, ⟨fun _ => rfl, fun b k o m ho => ?_, Frm.refl _ _, fun p hp => ⟨rfl, by show p < objs.length; have : p < pins en.ps := hp; omega, rfl⟩, ?_, fun o y hy => ?_, ?_, fun o y hy => (hmem o y hy).1,
    fun o y hy => ⟨hlt o y hy, rfl⟩, fun o e xs l d ver hy => ⟨hlt o _ hy, (hmem o _ hy).2⟩, fun o ho => ?_, fun o v hv => ⟨hv.1, rfl⟩, fun o e xs l d ver hy v hv => by have := hv.2; omega⟩⟩
  · obtain ⟨h1, h2, h3⟩ := l1.sub b k o m ho
    refine ⟨h2, Or.inr h1, ?_⟩
    have : o < objs.length := by simp only [inR] at h3; omega
    exact ⟨objs[o], (hob o).trans (List.getElem?_eq_getElem this)⟩
  · show LRel X (enterV en.ps x 0 (pins en.ps) ++ List.replicate (n - _) .bad) _
    rw [htl]
    exact q1.append (bads_rel _)
  · rw [hob] at hy
    by_cases hl : o < pins en.ps
    · have := q2 o y (by rw [List.getElem?_append_left (by rw [enterP_len]; exact hl)] at hy; exact hy)
      rw [Nat.zero_add] at this; exact this
    · have := q3 (o - pins en.ps) y (by rw [List.getElem?_append_right (by rw [enterP_len]; omega), enterP_len] at hy; exact hy)
      rw [Nat.add_sub_cancel' (by omega)] at this; exact this
  · show okL D (enterV en.ps x 0 (pins en.ps) ++ List.replicate _ .bad)
    exact okL.append o1 (bads_ok _)
  · have h1 := ho.1
    show o < (objs.map some).length
    rw [List.length_map]; exact h1
end Go.Evr

