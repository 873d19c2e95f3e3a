/- An evaluator for the code of the program, and the proof that what it answers is true (part 3). -/
import Derived.Test.YtblomclgbnacnaaEv2
import Derived.Orders
import Derived.ChangeArms
import Derived.DataReads
import Derived.RowKit
import Derived.WideShapes
import Derived.ChangeSlices
import Derived.ChangeMaps5
import Derived.Below
set_option linter.unusedVariables false
set_option linter.unusedSimpArgs false
namespace Go.Evr

theorem OutsOk.zone {W : World} : ∀ {ms : List Md} {y : (outT ms).den} {us : List Value} {Z Z' : Zone}, OutsOk W ms y us Z → (∀ b k, Z b k → Z' b k) → OutsOk W ms y us Z'
  | [], _, _, _, _, _, _ => trivial
  | .view _ :: ms, _, _, _, _, h, hz => by obtain ⟨u, us', h1, h2⟩ := h; exact ⟨u, us', h1, h2.zone hz⟩
  | .ro _ :: ms, _, _, _, _, h, hz => by obtain ⟨u, us', h1, h2⟩ := h; exact ⟨u, us', h1, h2.zone hz⟩
  | .take _ :: ms, _, _, _, _, h, hz => by obtain ⟨u, us', h1, h2⟩ := h; exact ⟨u, us', h1, h2.zone hz⟩
  | .io t :: ms, _, _, _, _, h, hz => by
    obtain ⟨b, k, vs, us', Z2, Z3, h1, z1, z2, z3, h2⟩ := h
    exact ⟨b, k, vs, us', Z2, Z3, h1, fun j hj => hz _ _ (z1 j hj), fun _ _ h => hz _ _ (z2 _ _ h), fun _ _ h => hz _ _ (z3 _ _ h), h2⟩
  | .mut e :: ms, _, _, _, _, h, hz => by
    obtain ⟨a, n, cap, us', Z2, Z3, h1, z2, z3, h2⟩ := h
    exact ⟨a, n, cap, us', Z2, Z3, h1, fun _ _ h => hz _ _ (z2 _ _ h), fun _ _ h => hz _ _ (z3 _ _ h), h2⟩
  | .clo _ _ _ :: ms, _, _, _, _, h, hz => by obtain ⟨fs, cs, us', h1, h2⟩ := h; exact ⟨fs, cs, us', h1, h2.zone hz⟩
  | .agg _ :: ms, _, _, _, _, h, hz => by obtain ⟨cs, us', h1, h2⟩ := h; exact ⟨cs, us', h1, h2.zone hz⟩
theorem RetsOk.zone {W : World} {us : List Value} {ts : List Ty} {ms : List Md} {y : (resT ts ms).den} {vs : List Value} {Z Z' : Zone} (h : RetsOk W us ts ms y vs Z) (hz : ∀ b k, Z b k → Z' b k) : RetsOk W us ts ms y vs Z' := by
  cases ts with
  | nil => exact ⟨h.1, h.2.zone hz⟩
  | cons t ts =>
    obtain ⟨v, vs', cs, Z2, Z3, h1, z2, z3, h2⟩ := h
    exact ⟨v, vs', cs, Z2, Z3, h1, fun _ _ h => hz _ _ (z2 _ _ h), fun _ _ h => hz _ _ (z3 _ _ h), h2⟩

theorem ownZ_disj {own : Nat → Nat → Option (Nat × Bool)} {l l' : List Nat} (h : ∀ a ∈ l, ∀ b ∈ l', a ≠ b) (b k : Nat) : ownZ own l b k → ¬ ownZ own l' b k := by
  rintro ⟨o, m, ho, hw⟩ ⟨o', m', ho', hw'⟩
  rw [hw] at hw'
  cases hw'
  exact h o ho o ho' rfl

theorem outs_ok {X : Cx} (OB : ∀ o x, X.ob o = some x → ObRel X o x) {L0 : Nat → Loc} : ∀ {ms : List Md} {us : List Value} {p : Nat} {l : List Nat} {y : (outT ms).den} {ids : List Nat},
    outs ms p X.ob = some (l, (y, ids)) → ids.Nodup → PinsOk L0 ms us p → (∀ q, p ≤ q → q < p + pins ms → X.loc q = L0 q) → OutsOk X.W ms y us (ownZ X.own ids)
  | [], _, _, _, _, _, _, _, _, _ => trivial
  | .view _ :: ms, _, _, _, _, _, h, hn, hp, hl => by obtain ⟨u, us', h1, h2⟩ := hp; exact ⟨u, us', h1, outs_ok OB (ms := ms) h hn h2 hl⟩
  | .ro _ :: ms, _, _, _, _, _, h, hn, hp, hl => by obtain ⟨u, us', h1, h2⟩ := hp; exact ⟨u, us', h1, outs_ok OB (ms := ms) h hn h2 hl⟩
  | .take _ :: ms, _, _, _, _, _, h, hn, hp, hl => by obtain ⟨u, us', h1, h2⟩ := hp; exact ⟨u, us', h1, outs_ok OB (ms := ms) h hn h2 hl⟩
  | .clo _ _ _ :: ms, _, _, _, _, _, h, hn, hp, hl => by obtain ⟨fs, cs, us', h1, h2⟩ := hp; exact ⟨fs, cs, us', h1, outs_ok OB (ms := ms) h hn h2 hl⟩
  | .agg _ :: ms, _, _, _, _, _, h, hn, hp, hl => by obtain ⟨cs, us', h1, h2⟩ := hp; exact ⟨cs, us', h1, outs_ok OB (ms := ms) h hn h2 hl⟩
  | .io t :: ms, _, p, l, y, ids, h, hn, hp, hl => by
    obtain ⟨b, k, us', rfl, hp1, hp2⟩ := hp
    simp only [outs] at h
    obtain ⟨l1, w, l2, z, h1, h2, he⟩ := Rd.bind_some h
    obtain ⟨w', hw, hh⟩ := Rd.look_some h1
    cases hh
    cases w with
    | arr _ _ _ _ _ => cases h2
    | box cs =>
      obtain ⟨l3, xa, l4, z', h3, h4, he'⟩ := Rd.bind_some h2
      obtain ⟨l5, ya, l6, z'', h5, h6, he''⟩ := Rd.bind_some h4
      cases h6
      cases he''
      cases he'
      simp only [Prod.mk.injEq] at he
      obtain ⟨_, rfl, rfl⟩ := he
      simp only [List.nodup_cons, List.mem_append, not_or] at hn
      obtain ⟨⟨n1, n2⟩, n3⟩ := hn
      obtain ⟨n4, n5, n6⟩ := List.nodup_append.1 n3
      obtain ⟨b', k', us1, hloc, hrel, hcell⟩ := OB p _ hw
      rw [hl p (Nat.le_refl _) (by simp only [pins]; omega), hp1] at hloc
      cases hloc
      obtain ⟨u1, u2, rfl, hown, _, _⟩ := ownCells_own OB (x := xa.1.1) (ids := xa.1.2) (rest := xa.2) h3 hrel n4
      have hrec := outs_ok OB (ms := ms) (y := ya.1) (ids := ya.2) h5 n5 hp2 fun q h1 h2 => hl q (by omega) (by simp only [pins]; omega)
      have hu1 := hown.len
      have hc : ∀ j, j < t.cells → ∃ v, u1[j]? = some v ∧ X.own b (k + j) = some (p, true) ∧ X.W.cell? ⟨b, k + j, none⟩ = some v ∧ X.W.frozen? ⟨b, k + j, none⟩ = false := fun j hj => by
        have hj' : u1[j]? = some u1[j] := List.getElem?_eq_getElem (by omega)
        exact ⟨_, hj', hcell j _ (by rw [List.getElem?_append_left (by omega)]; exact hj')⟩
      refine ⟨b, k, u1, us', ownZ X.own xa.1.2, ownZ X.own ya.2, rfl, fun j hj => ?_, ownZ.mono (by simp +contextual), ownZ.mono (by simp +contextual), ownZ_disj n6, fun j hj => ?_, fun j hj => ?_, fun j v hj => ?_, hown, hrec⟩
      · obtain ⟨v, _, h1, _⟩ := hc j hj
        exact ⟨p, true, by simp, h1⟩
      · obtain ⟨v, _, h1, _⟩ := hc j hj
        constructor <;> (rintro ⟨o, m, ho, hw⟩; rw [h1] at hw; cases hw; first | exact n1 ho | exact n2 ho)
      · obtain ⟨v, _, h1, h2, h3⟩ := hc j hj
        exact ⟨⟨v, h2⟩, h3⟩
      · have hjl := (List.getElem?_eq_some_iff.1 hj).1
        obtain ⟨v', h0, h1, h2, h3⟩ := hc j (by omega)
        rw [hj] at h0; cases h0; exact h2
  | .mut e :: ms, _, p, l, y, ids, h, hn, hp, hl => by
    obtain ⟨a, n, cap, us', rfl, hp1, hp2⟩ := hp
    simp only [outs] at h
    obtain ⟨l1, w, l2, z, h1, h2, he⟩ := Rd.bind_some h
    obtain ⟨w', hw, hh⟩ := Rd.look_some h1
    cases hh
    cases w with
    | box _ => cases h2
    | arr e' xs lv d ver =>
      cases lv <;> cases d <;> first | (cases h2; done) | skip
      obtain ⟨l3, xa, l4, z', h3, h4, he'⟩ := Rd.bind_some h2
      obtain ⟨l5, ya, l6, z'', h5, h6, he''⟩ := Rd.bind_some h4
      cases h6
      cases he''
      cases he'
      simp only [Prod.mk.injEq] at he
      obtain ⟨_, rfl, rfl⟩ := he
      obtain ⟨zz, hz, hh⟩ := Rd.of_some h3
      cases hh
      simp only [List.nodup_cons] at hn
      have hloc : X.loc p = .arr a cap := (hl p (Nat.le_refl _) (by simp only [pins]; omega)).trans hp1
      have hlen : llen xa = xs.length := by
        obtain ⟨rfl, hq⟩ := castSl hz
        cases hq; rfl
      have hv : VRel X (.fsl p) (.slice a (llen xa) cap) := by
        refine ⟨⟨_, _, _, rfl⟩, fun e2 ys l d v ho => ?_⟩
        rw [hw] at ho; cases ho
        exact ⟨a, cap, hloc, by rw [hlen]⟩
      obtain ⟨q1, _⟩ := ownSl_own OB (e := e) (f := .fsl p) (xs := xa) (ids := [p]) (l := [p]) (by
        simp only [ownSl, Rd.bind, Rd.look, hw, Rd.of, hz, Rd.pure, List.append_nil]) hv
      have hrec := outs_ok OB (ms := ms) (y := ya.1) (ids := ya.2) h5 hn.2 hp2 fun q h1 h2 => hl q (by omega) (by simp only [pins]; omega)
      exact ⟨a, n, cap, us', ownZ X.own [p], ownZ X.own ya.2, rfl, ownZ.mono (by simp +contextual), ownZ.mono (by simp +contextual), ownZ_disj (fun x hx y hy => by simp at hx; subst hx; rintro rfl; exact hn.1 hy), q1, hrec⟩

theorem shape_rel {X : Cx} {t : Ty} {f : FV} {v : Value} (hb : shapeB t f = true) (hv : VRel X f v) : Shape t v v.cells.toList := by
  unfold Shape
  cases f with
  | agg cs =>
    obtain ⟨us, rfl, _⟩ := hv
    simp only [shapeB, Bool.and_eq_true] at hb
    rw [if_pos hb.1]; simp [Value.cells]
  | bad => cases hb
  | tup _ => cases hb
  | nilb _ => cases hb
  | _ =>
    simp only [shapeB, Bool.and_eq_true, Bool.not_eq_true'] at hb
    rw [if_neg (by rw [hb.1]; simp)]
    have := (cells_rel (X := X) (cs := [_]) rfl hv)
    obtain ⟨w, us, h1, h2, h3⟩ := this
    cases h3
    first
      | (cases hv; rfl)
      | (cases v <;> first | rfl | (simp [Value.cells] at h1; done) | skip)
    all_goals first | (obtain ⟨x, hx⟩ := hv; cases hx; done) | (obtain ⟨⟨x, y, hx⟩, _⟩ := hv; cases hx; done) | (obtain ⟨⟨x, y, z, hx⟩, _⟩ := hv; cases hx; done) | (obtain ⟨⟨x, hx⟩, _⟩ := hv; cases hx; done) | (obtain ⟨x, y, hx, _⟩ := hv; cases hx; done) | (rcases hv with hv | hv <;> cases hv; done)

def asA (v : Value) : Addr := match v with
  | .pointer (some x) => x
  | _ => default
/-- A result that a function's end reads. -/
def ResRun1 (P : Program) (tm : Array Value) (W : World) (v : Value) : ResultVar → Prop
  | .tmp t => tm.getD t undef = v
  | .cell a t => (asAddr (tm.getD a undef)).run P W = .ok (asA (tm.getD a undef)) W ∧ (loadVar t (asA (tm.getD a undef))).run P W = .ok v W
def ResRun (P : Program) (tm : Array Value) (W : World) : List ResultVar → List Value → Prop
  | [], vs => vs = []
  | r :: rs, vs => ∃ v us, vs = v :: us ∧ ResRun1 P tm W v r ∧ ResRun P tm W rs us

theorem valOf_shape {t : Ty} {us : List Value} (hl : us.length = t.cells) (hs : (t.isSt || Nat.beq t.cells 1) = true) (hi : t.isAgg = t.isSt) : Shape t (valOf t us) us := by
  unfold Shape valOf
  cases ht : t.isSt with
  | true => rw [hi, ht]; simp
  | false =>
    rw [ht, Bool.false_or] at hs
    have h1 := Nat.eq_of_beq_eq_true hs
    rw [hi, ht]
    match us, hl with
    | [v], _ => simp
    | [], hl => simp at hl; omega
    | _ :: _ :: _, hl => simp at hl; omega

theorem results_ok {C : Ctx} {P : Program} (hC : CtxOk C P) {X : Cx} {D : Nat → Nat → Prop} {E : Env} {S : St} {tm : List Value} (I : Inv X D E S tm) : ∀ {ts : List Ty} {ms : List Md} {rv : List ResultVar} {l : List Nat} {y : (resT ts ms).den} {ids : List Nat},
    results C ts ms S rv X.ob = some (l, (y, ids)) → ids.Nodup → PinsOk E.L0 ms E.us 0 → E.np = pins ms → ∃ vs, RetsOk X.W E.us ts ms y vs (ownZ X.own ids) ∧ ResRun P tm.toArray X.W rv vs
  | [], ms, rv, l, y, ids, h, hn, hp, hnp => by
    cases rv with
    | cons _ _ => cases h
    | nil => exact ⟨[], ⟨rfl, outs_ok (obs' I) h hn hp fun q _ h2 => (I.pin q (by omega)).1⟩, rfl⟩
  | t :: ts, ms, rv, l, y, ids, h, hn, hp, hnp => by
    cases rv with
    | nil => cases h
    | cons r rv =>
      simp only [results] at h
      obtain ⟨l1, cs, l2, z, h1, h2, he⟩ := Rd.bind_some h
      obtain ⟨l3, xa, l4, z', h3, h4, he'⟩ := Rd.bind_some h2
      obtain ⟨l5, ya, l6, z'', h5, h6, he''⟩ := Rd.bind_some h4
      cases h6
      cases he''
      cases he'
      simp only [Prod.mk.injEq] at he
      obtain ⟨_, rfl, rfl⟩ := he
      obtain ⟨n4, n5, n6⟩ := List.nodup_append.1 hn
      obtain ⟨vs, hr, hrun⟩ := results_ok hC I (y := ya.1) (ids := ya.2) h5 n5 hp hnp
      have key : ∃ v us1, LRel X cs us1 ∧ Shape t v us1 ∧ cs.length = t.cells ∧ ResRun1 P tm.toArray X.W v r := by
        cases r with
        | cell a ty =>
          simp only [resOne] at h1
          split at h1
          · rename_i hty
            obtain ⟨l7, cs', l8, w, h7, h8, he8⟩ := Rd.bind_some h1
            split at h8
            · rename_i hcs
              simp only [Bool.and_eq_true] at hcs
              have hlen := Nat.eq_of_beq_eq_true hcs.1
              have hw := (Prod.mk.inj he8).2
              have hw2 := (Prod.mk.inj (Rd.pure_some h8)).2
              have : cs = cs' := hw.trans hw2
              subst this
              obtain ⟨b, k, us, hv, hl, hat⟩ := cellsAt_rel (obs' I) h7 hlen (tmp_rel I a)
              have hv' : tm.toArray.getD a undef = .pointer (some ⟨b, k, none⟩) := hv
              have hus : us.length = t.cells := by rw [hl.len, hlen]
              have hT := hC ty t hty
              refine ⟨valOf t us, us, hl, valOf_shape hus hcs.2 ?_, hlen, ?_⟩
              · cases t <;> rfl
              · show (asAddr (tm.toArray.getD a undef)).run P X.W = .ok (asA (tm.toArray.getD a undef)) X.W ∧ (loadVar ty (asA (tm.toArray.getD a undef))).run P X.W = .ok (valOf t us) X.W
                rw [hv']
                exact ⟨by simp [asAddr, asA], run_loadVar' (P := P) hT (w := X.W) (b := b) (k := k) hus (fun j v hj => (hat j v hj).2)⟩
            · cases h8
          · cases h1
        | tmp s =>
          simp only [resOne] at h1
          split at h1
          · rename_i hsh
            obtain ⟨cs', hcs, hh⟩ := Rd.of_some h1
            cases hh
            have hrel := tmp_rel I s
            refine ⟨_, _, cells_rel hcs hrel, shape_rel hsh hrel, ?_, rfl⟩
            cases hf : S.tmp s <;> rw [hf] at hsh hcs <;> simp only [shapeB, Bool.and_eq_true] at hsh <;> first | (cases hsh; done) | (cases hcs; first | exact (Nat.eq_of_beq_eq_true hsh.2).symm | exact Nat.eq_of_beq_eq_true hsh.2)
          · cases h1
      obtain ⟨v, us1, k1, k2, k3, k4⟩ := key
      obtain ⟨u1, u2, hu, hown, hrest, _⟩ := ownCells_own (obs' I) (x := xa.1.1) (ids := xa.1.2) (rest := xa.2) h3 k1 n4
      have hlen : u2 = [] := by
        have hl1 := hown.len
        have hl2 := k1.len
        rw [hu, List.length_append] at hl2
        exact List.eq_nil_of_length_eq_zero (by omega)
      subst hlen
      rw [List.append_nil] at hu
      subst hu
      exact ⟨_, ⟨v, vs, us1, ownZ X.own xa.1.2, ownZ X.own ya.2, rfl, ownZ.mono (by simp +contextual), ownZ.mono (by simp +contextual), ownZ_disj n6, hown, k2, hr⟩, v, vs, rfl, k4, hrun⟩

theorem run_mapM {P : Program} (f : ResultVar → Sem Value) (tm : Array Value) (h1 : ∀ t, f (.tmp t) = pure (tm.getD t undef)) (h2 : ∀ a t, f (.cell a t) = (do loadVar t (← asAddr (tm.getD a undef)))) (w : World) :
    ∀ (l : List ResultVar) (vs : List Value), ResRun P tm w l vs → (l.mapM f).run P w = .ok vs w
  | [], vs, h => by cases h; simp
  | r :: l, vs, h => by
    obtain ⟨v, us, rfl, h3, h4⟩ := h
    have ih := run_mapM f tm h1 h2 w l us h4
    have hr : (f r).run P w = .ok v w := by
      cases r with
      | tmp t => rw [h1, ← h3]; rfl
      | cell a t => rw [h2, Sem.run_bind, h3.1]; exact h3.2
    simp only [List.mapM_cons, Sem.run_bind, Sem.run_pure, Result.andThen_ok, hr, ih]

theorem run_results {P : Program} {fn : Func} {vs : List Value} {tm : Array Value} {w : World} (h : ResRun P tm w fn.results.toList vs) : (Go.results fn tm).run P w = .ok (tupled vs) w := by
  have hr : fn.results = fn.results.toList.toArray := by simp
  unfold Go.results
  rw [Sem.run_bind, Array.mapM_eq_mapM_toList, map_eq_pure_bind, Sem.run_bind, run_mapM _ tm (fun _ => rfl) (fun _ _ => rfl) w _ vs h]
  simp only [Result.andThen_ok, Sem.run_pure]
  unfold tupled
  match vs with
  | [] => rfl
  | [v] => rfl
  | _ :: _ :: _ => simp

theorem finish_run {C : Ctx} {P : Program} (hC : CtxOk C P) {en : Entry} {fn : Func} {S : St} {r : en.R} (h : finish C en fn.results S = some r) {X : Cx} {D : Nat → Nat → Prop} {E : Env} {tm : List Value} (I : Inv X D E S tm) (hn : E.np = pins en.ps) (hp : PinsOk E.L0 en.ps E.us 0) :
    ∃ v, (Go.results fn tm.toArray).run P X.W = .ok v X.W ∧ Post en r E.W0 E.R0 E.us v X.W := by
  unfold finish at h
  cases hr : results C en.rs en.ps S fn.results.toList S.ob with
  | none => rw [hr] at h; cases h
  | some q =>
    obtain ⟨l, y, ids⟩ := q
    rw [hr] at h
    simp only [] at h
    split at h
    · rename_i hnd
      cases h
      rw [obF I] at hr
      obtain ⟨vs, h1, h2⟩ := results_ok (P := P) hC I hr (nodupB_iff.1 hnd) hp hn
      refine ⟨_, run_results h2, _, rfl, I.fr, h1.zone ?_⟩
      rintro b k ⟨o, m, _, hw⟩
      exact (I.dom b k o m hw).2.1.elim Or.inr Or.inl
    · cases h
end Go.Evr

namespace Go.Evr

/-- A slice within a datum, apart from the rest of it. -/
theorem own_split {W : World} : ∀ {u : Ty} {Z : Zone} {x : u.den} {cs : List Value} {c : Nat} {e : Ty} {ys : List e.den}, Own Z W u x cs → cellSl u x c e ys →
    ∃ Zs Zr : Zone, (∀ b k, Zs b k → Z b k) ∧ (∀ b k, Zr b k → Z b k) ∧ (∀ b k, Zs b k → ¬ Zr b k) ∧ ∃ v, cs[c]? = some v ∧ Own Zs W (.sl e) ys [v] ∧
      ∀ (W' : World) (y' : List e.den) (Zn : Zone) (f : u.den → u.den), (∀ b k w, Zr b k → W.cell? ⟨b, k, none⟩ = some w → W'.cell? ⟨b, k, none⟩ = some w) → (∀ b k, Zr b k → W.frozen? ⟨b, k, none⟩ = false → W'.frozen? ⟨b, k, none⟩ = false) →
        Own Zn W' (.sl e) y' [v] → (∀ b k, Zn b k → ¬ Zr b k) → putF u c (.sl e) y' = some f → Own (fun b k => Zn b k ∨ Zr b k) W' u (f x) cs
  | .sl e', Z, xs, cs, c, e, ys, h, hc => by
    obtain ⟨rfl, rfl, hq⟩ := hc
    cases hq
    have hcs : ∃ v, cs = [v] := by obtain ⟨a, cap, h, _⟩ := h; exact ⟨_, h⟩
    obtain ⟨v, rfl⟩ := hcs
    refine ⟨Z, fun _ _ => False, fun _ _ h => h, fun _ _ h => h.elim, fun _ _ _ h => h, v, rfl, h, fun W' y' Zn f _ _ hn _ hf => ?_⟩
    simp only [putF] at hf
    rw [if_pos (by simp)] at hf
    have hcast : (Ty.sl e').cast (.sl e') y' = some y' := by unfold Ty.cast; rw [dif_pos rfl]
    rw [hcast] at hf
    cases hf
    exact hn.mono (fun _ _ h => Or.inl h) (fun _ _ _ _ h => h) fun _ _ _ h => h
  | .pair a b, Z, x, cs, c, e, ys, h, hc => by
    obtain ⟨v1, v2, rfl, Z1, Z2, z1, z2, hd, h1, h2⟩ := h
    have hl := h1.len
    simp only [cellSl] at hc
    by_cases hlt : c < a.cells
    · rw [if_pos hlt] at hc
      obtain ⟨Zs, Zr, s1, s2, s3, v, s4, s5, s6⟩ := own_split h1 hc
      refine ⟨Zs, fun b k => Zr b k ∨ Z2 b k, fun _ _ h => z1 _ _ (s1 _ _ h), fun _ _ h => h.elim (fun h => z1 _ _ (s2 _ _ h)) (z2 _ _), fun _ _ h h' => h'.elim (s3 _ _ h) (hd _ _ (s1 _ _ h)), v,
        by rw [List.getElem?_append_left (by omega)]; exact s4, s5, fun W' y' Zn f k1 k2 hn hnd hf => ?_⟩
      simp only [putF] at hf
      by_cases hac : a = .sl e ∧ c = 0
      · rw [if_pos hac] at hf
        obtain ⟨rfl, rfl⟩ := hac
        have hcast : (Ty.sl e).cast (.sl e) y' = some y' := by unfold Ty.cast; rw [dif_pos rfl]
        rw [hcast] at hf
        cases hf
        have hsub := s6 W' y' Zn (fun _ => y') (fun b k w h => k1 b k w (Or.inl h)) (fun b k h => k2 b k (Or.inl h)) hn (fun b k h h' => hnd b k h (Or.inl h')) (by simp only [putF]; rw [if_pos ⟨trivial, trivial⟩, hcast])
        exact ⟨v1, v2, rfl, _, Z2, fun _ _ h => h.elim Or.inl fun h => Or.inr (Or.inl h), fun _ _ h => Or.inr (Or.inr h), fun b k h h' => h.elim (fun h => hnd b k h (Or.inr h')) fun h => hd _ _ (s2 _ _ h) h', hsub,
          h2.mono (fun _ _ h => h) (fun b k w h => k1 b k w (Or.inr h)) fun b k h => k2 b k (Or.inr h)⟩
      · rw [if_neg hac, if_pos hlt] at hf
        cases hp : putF a c (.sl e) y' with
        | none => rw [hp] at hf; cases hf
        | some f1 =>
          rw [hp] at hf
          cases hf
          have hsub := s6 W' y' Zn f1 (fun b k w h => k1 b k w (Or.inl h)) (fun b k h => k2 b k (Or.inl h)) hn (fun b k h h' => hnd b k h (Or.inl h')) hp
          exact ⟨v1, v2, rfl, _, Z2, fun _ _ h => h.elim Or.inl fun h => Or.inr (Or.inl h), fun _ _ h => Or.inr (Or.inr h), fun b k h h' => h.elim (fun h => hnd b k h (Or.inr h')) fun h => hd _ _ (s2 _ _ h) h', hsub,
            h2.mono (fun _ _ h => h) (fun b k w h => k1 b k w (Or.inr h)) fun b k h => k2 b k (Or.inr h)⟩
    · rw [if_neg hlt] at hc
      obtain ⟨Zs, Zr, s1, s2, s3, v, s4, s5, s6⟩ := own_split h2 hc
      refine ⟨Zs, fun b k => Z1 b k ∨ Zr b k, fun _ _ h => z2 _ _ (s1 _ _ h), fun _ _ h => h.elim (z1 _ _) (fun h => z2 _ _ (s2 _ _ h)), fun b k h h' => h'.elim (fun h' => hd b k h' (s1 _ _ h)) (s3 _ _ h), v,
        by rw [List.getElem?_append_right (by omega), hl]; exact s4, s5, fun W' y' Zn f k1 k2 hn hnd hf => ?_⟩
      simp only [putF] at hf
      have hac : ¬ (a = .sl e ∧ c = 0) := by rintro ⟨rfl, rfl⟩; simp [Ty.cells] at hlt
      rw [if_neg hac, if_neg hlt] at hf
      cases hp : putF b (c - a.cells) (.sl e) y' with
      | none => rw [hp] at hf; cases hf
      | some f1 =>
        rw [hp] at hf
        cases hf
        have hsub := s6 W' y' Zn f1 (fun b k w h => k1 b k w (Or.inr h)) (fun b k h => k2 b k (Or.inr h)) hn (fun b k h h' => hnd b k h (Or.inr h')) hp
        exact ⟨v1, v2, rfl, Z1, _, fun _ _ h => Or.inr (Or.inl h), fun _ _ h => h.elim Or.inl fun h => Or.inr (Or.inr h), fun b k h h' => h'.elim (fun h' => hnd b k h' (Or.inl h)) fun h' => hd _ _ h (s2 _ _ h'),
          h1.mono (fun _ _ h => h) (fun b k w h => k1 b k w (Or.inl h)) (fun b k h => k2 b k (Or.inl h)), hsub⟩
  | .st t, Z, x, cs, c, e, ys, h, hc => by
    obtain ⟨Zs, Zr, s1, s2, s3, v, s4, s5, s6⟩ := own_split (u := t) h hc
    refine ⟨Zs, Zr, s1, s2, s3, v, s4, s5, fun W' y' Zn f k1 k2 hn hnd hf => ?_⟩
    simp only [putF] at hf
    rw [if_neg (by rintro ⟨h, _⟩; cases h)] at hf
    exact s6 W' y' Zn f k1 k2 hn hnd hf
  | .int _, _, _, _, _, _, _, _, hc => hc.elim
  | .bool, _, _, _, _, _, _, _, hc => hc.elim
  | .str, _, _, _, _, _, _, _, hc => hc.elim
  | .unit, _, _, _, _, _, _, _, hc => hc.elim
  | .ref, _, _, _, _, _, _, _, hc => hc.elim
end Go.Evr

namespace Go.Evr

def backIds : List Back → List Nat
  | [] => []
  | .io o _ :: bs => o :: backIds bs
  | .all o _ _ _ :: bs => o :: backIds bs
  | .inn o _ _ _ _ _ _ _ :: bs => o :: backIds bs

/-- A slice within an element of an array, handed over apart from the rest. -/
def InnOk (X : Cx) (Zc : Zone) (o i c : Nat) (e u : Ty) (old : List u.den) (v : Nat) (uval : Value) : Prop :=
  X.ob o = some (.arr u old true true v) ∧ ∃ (b k cap : Nat) (ZR : Nat → Zone), X.loc o = .arr (some ⟨b, k, none⟩) cap ∧ old.length ≤ cap ∧ (∀ j, j < cap * u.cells → X.own b (k + j) = some (o, true)) ∧ Mine X.W b k (cap * u.cells) ∧
    (∀ j b' k', ZR j b' k' → X.own b' k' = some (o, false)) ∧ (∀ i j b' k', ZR i b' k' → ZR j b' k' → i = j) ∧ (∀ j (h : j < old.length), ∃ cs, Own (ZR j) X.W u old[j] cs ∧ ∀ j' w, cs[j']? = some w → X.W.cell? ⟨b, k + j * u.cells + j', none⟩ = some w) ∧
    ∃ (hi : i < old.length) (cs : List Value) (Zs Zr : Zone), (∀ b k, Zs b k → ZR i b k) ∧ (∀ b k, Zr b k → ZR i b k) ∧ (∀ b k, Zs b k → ¬ Zr b k) ∧ cs.length = u.cells ∧ (∀ j' w, cs[j']? = some w → X.W.cell? ⟨b, k + i * u.cells + j', none⟩ = some w) ∧
      (∀ (W' : World) (y' : List e.den) (Zn : Zone) (f : u.den → u.den), (∀ b k w, Zr b k → X.W.cell? ⟨b, k, none⟩ = some w → W'.cell? ⟨b, k, none⟩ = some w) → (∀ b k, Zr b k → X.W.frozen? ⟨b, k, none⟩ = false → W'.frozen? ⟨b, k, none⟩ = false) →
        Own Zn W' (.sl e) y' [uval] → (∀ b k, Zn b k → ¬ Zr b k) → putF u c (.sl e) y' = some f → Own (fun b k => Zn b k ∨ Zr b k) W' u (f old[i]) cs) ∧
      ∀ b' k' m, X.own b' k' = some (o, m) → Zc b' k' → Zs b' k'
theorem InnOk.mono {X : Cx} {Zc Zc' : Zone} {o i c : Nat} {e u : Ty} {old : List u.den} {v : Nat} {uval : Value} (h : InnOk X Zc o i c e u old v uval) (hz : ∀ b k m, X.own b k = some (o, m) → Zc' b k → Zc b k) : InnOk X Zc' o i c e u old v uval := by
  obtain ⟨h0, b, k, cap, ZR, h1, h2, h3, h4, h5, h6, h7, hi, cs, Zs, Zr, s1, s2, s3, s4, s5, s6, s7⟩ := h
  exact ⟨h0, b, k, cap, ZR, h1, h2, h3, h4, h5, h6, h7, hi, cs, Zs, Zr, s1, s2, s3, s4, s5, s6, fun b' k' m ho hc => s7 b' k' m ho (hz b' k' m ho hc)⟩

/-- What is to be given back, and where it lies. -/
def BackOk (X : Cx) (Zc : Zone) : List Md → List Value → List Back → Prop
  | [], us, bs => us = [] ∧ bs = []
  | .view _ :: ms, us, bs => ∃ u us', us = u :: us' ∧ BackOk X Zc ms us' bs
  | .ro _ :: ms, us, bs => ∃ u us', us = u :: us' ∧ BackOk X Zc ms us' bs
  | .take _ :: ms, us, bs => ∃ u us', us = u :: us' ∧ BackOk X Zc ms us' bs
  | .io t :: ms, us, bs => ∃ b k us' o cs bs', us = .pointer (some ⟨b, k, none⟩) :: us' ∧ bs = .io o t :: bs' ∧ X.ob o = some (.box cs) ∧ X.loc o = .box b k ∧ BackOk X Zc ms us' bs'
  | .mut e :: ms, us, bs => (∃ a cap us' o xs v bs', us = .slice a (llen xs) cap :: us' ∧ bs = .all o e xs v :: bs' ∧ X.ob o = some (.arr e xs true true v) ∧ X.loc o = .arr a cap ∧ BackOk X Zc ms us' bs') ∨
      ∃ a cap us' o i c u old ys v bs', us = .slice a (llen ys) cap :: us' ∧ bs = .inn o i c e u old ys v :: bs' ∧ InnOk X Zc o i c e u old v (.slice a (llen ys) cap) ∧ BackOk X Zc ms us' bs'
  | .clo f _ _ :: ms, us, bs => ∃ fs cs us' : List Value, us = .func (.func f) fs.toArray cs.toArray :: us' ∧ BackOk X Zc ms (fs ++ cs ++ us') bs
  | .agg _ :: ms, us, bs => ∃ cs us' : List Value, us = .agg cs.toArray :: us' ∧ BackOk X Zc ms (cs ++ us') bs

theorem BackOk.mono {X : Cx} {Zc Zc' : Zone} : ∀ {ms : List Md} {us : List Value} {bs : List Back}, BackOk X Zc ms us bs → (∀ o ∈ backIds bs, ∀ b k m, X.own b k = some (o, m) → Zc' b k → Zc b k) → BackOk X Zc' ms us bs
  | [], _, _, h, _ => h
  | .view _ :: ms, _, _, h, hz => by obtain ⟨u, us', h1, h2⟩ := h; exact ⟨u, us', h1, h2.mono hz⟩
  | .ro _ :: ms, _, _, h, hz => by obtain ⟨u, us', h1, h2⟩ := h; exact ⟨u, us', h1, h2.mono hz⟩
  | .take _ :: ms, _, _, h, hz => by obtain ⟨u, us', h1, h2⟩ := h; exact ⟨u, us', h1, h2.mono hz⟩
  | .io t :: ms, _, _, h, hz => by
    obtain ⟨b, k, us', o, cs, bs', h1, rfl, h3, h4, h5⟩ := h
    exact ⟨b, k, us', o, cs, bs', h1, rfl, h3, h4, h5.mono fun o ho => hz o (List.mem_cons_of_mem _ ho)⟩
  | .mut e :: ms, _, _, h, hz => by
    rcases h with ⟨a, cap, us', o, xs, v, bs', h1, rfl, h3, h4, h5⟩ | ⟨a, cap, us', o, i, c, u, old, ys, v, bs', h1, rfl, h3, h5⟩
    · exact Or.inl ⟨a, cap, us', o, xs, v, bs', h1, rfl, h3, h4, h5.mono fun o ho => hz o (List.mem_cons_of_mem _ ho)⟩
    · exact Or.inr ⟨a, cap, us', o, i, c, u, old, ys, v, bs', h1, rfl, h3.mono (hz o (List.mem_cons_self ..)), h5.mono fun o ho => hz o (List.mem_cons_of_mem _ ho)⟩
  | .clo _ _ _ :: ms, _, _, h, hz => by obtain ⟨fs, cs, us', h1, h2⟩ := h; exact ⟨fs, cs, us', h1, h2.mono hz⟩
  | .agg _ :: ms, _, _, h, hz => by obtain ⟨cs, us', h1, h2⟩ := h; exact ⟨cs, us', h1, h2.mono hz⟩

theorem Rd.tap_some {α : Type} {m : Rd α} {h : Nat → Option Ob} {r : List Nat × (List Nat × α)} (e : m.tap h = some r) : m h = some (r.1, r.2.2) ∧ r.2.1 = r.1 := by
  unfold Rd.tap at e
  split at e
  · cases e
  · rename_i l a hm; cases e; exact ⟨hm, rfl⟩

theorem shapeB_len {t : Ty} {f : FV} {cs : List FV} (hsh : shapeB t f = true) (hcs : f.cells? = some cs) : cs.length = t.cells := by
  cases f <;> simp only [shapeB, Bool.and_eq_true] at hsh <;> first | (cases hsh; done) | (cases hcs; first | exact (Nat.eq_of_beq_eq_true hsh.2).symm | exact Nat.eq_of_beq_eq_true hsh.2)

set_option maxRecDepth 100000 in
theorem collect_ok {X : Cx} (OB : ∀ o x, X.ob o = some x → ObRel X o x) : ∀ {ms : List Md} {vs : List FV} {us : List Value} {l : List Nat} {c : Coll ms}, collect ms vs X.ob = some (l, c) → LRel X vs us → c.owned.Nodup →
    ∃ Zc : Zone, (∀ b k, Zc b k → ownZ X.own c.owned b k) ∧ (∀ V : Zone, (∀ b k, zoneIds X.own c.deps b k → V b k) → ArgsOk V X.W ms c.x us Zc) ∧ BackOk X Zc ms us c.back ∧ (backIds c.back).Nodup ∧ (∀ o ∈ backIds c.back, o ∈ c.owned) ∧ ∀ o ∈ c.owned, ∃ x, X.ob o = some x
  | [], [], _, _, c, h, hr, _ => by cases h; cases hr; exact ⟨fun _ _ => False, fun _ _ h => h.elim, fun _ _ => rfl, ⟨rfl, rfl⟩, by simp [backIds], by simp [backIds], by simp⟩
  | [], _ :: _, _, _, _, h, _, _ => by cases h
  | .view t :: ms, v :: vs, _, _, c, h, hr, hn => by
    obtain ⟨u, us, rfl, hv, hr⟩ := hr
    simp only [collect] at h
    obtain ⟨l1, x, l2, z, h1, h2, he⟩ := Rd.bind_some h
    obtain ⟨l3, c', l4, z', h3, h4, he'⟩ := Rd.bind_some h2
    cases h4; cases he'; cases he
    obtain ⟨h1, hx⟩ := Rd.tap_some h1
    split at h1
    · rename_i hsh
      obtain ⟨Zc, q0, q1, q2⟩ := collect_ok OB h3 hr hn
      refine ⟨Zc, q0, fun V hV => ?_, ⟨u, us, rfl, q2.1⟩, q2.2⟩
      obtain ⟨u1, u2, hu, hrep⟩ := readVal_rep OB h1 hv
      cases hcs : v.cells? with
      | none => unfold readVal at h1; rw [hcs] at h1; cases h1
      | some cs =>
        have hl := (cells_rel hcs hv).len
        have hl1 := hrep.len
        rw [shapeB_len hsh hcs, hu, List.length_append] at hl
        have : u2 = [] := List.eq_nil_of_length_eq_zero (by omega)
        subst this
        rw [List.append_nil] at hu
        have hs := shape_rel hsh hv
        rw [hu] at hs
        refine ⟨u, us, u1, rfl, hrep.zone fun b k hz => hV b k (zoneIds.mono (fun o ho => ?_) b k hz), hs, q1 V fun b k hz => hV b k (zoneIds.mono (by simp +contextual) b k hz)⟩
        simp only [List.mem_append]
        rw [hx]; exact Or.inl ho
    · cases h1
  | .ro t :: ms, v :: vs, _, _, c, h, hr, hn => by
    obtain ⟨u, us, rfl, hv, hr⟩ := hr
    simp only [collect] at h
    obtain ⟨l1, x, l2, z, h1, h2, he⟩ := Rd.bind_some h
    obtain ⟨l3, c', l4, z', h3, h4, he'⟩ := Rd.bind_some h2
    cases h4; cases he'; cases he
    obtain ⟨h1, hx⟩ := Rd.tap_some h1
    obtain ⟨l5, cs, l6, z'', h5, h6, he''⟩ := Rd.bind_some h1
    split at h6
    · rename_i hlen
      have hlen := Nat.eq_of_beq_eq_true hlen
      obtain ⟨b, k, us1, rfl, hl, hat⟩ := cellsAt_rel OB h5 hlen hv
      obtain ⟨u1, u2, rfl, hrep, _⟩ := implode_rep OB (x := z''.1) (rest := z''.2) h6 hl
      obtain ⟨Zc, q0, q1, q2⟩ := collect_ok OB h3 hr hn
      have hu2 : u2 = [] := by
        have h1 := hl.len
        have h2 := hrep.len
        rw [hlen, List.length_append] at h1
        exact List.eq_nil_of_length_eq_zero (by omega)
      subst hu2
      rw [List.append_nil] at hat
      have hx2 : x.2 = z'' := (Prod.mk.inj he'').2
      have hx1 : x.1 = l5 ++ l6 := hx.trans (Prod.mk.inj he'').1
      refine ⟨Zc, q0, fun V hV => ⟨b, k, u1, us, rfl, ?_, hat.mono fun b k v hz hv => ⟨hV b k (zoneIds.mono (fun o ho => ?_) b k hz), hv⟩, q1 V fun b k hz => hV b k (zoneIds.mono (by simp +contextual) b k hz)⟩, ⟨_, us, rfl, q2.1⟩, q2.2⟩
      · show Rep V X.W t x.2.1 u1
        rw [hx2]
        refine hrep.zone fun b k hz => hV b k (zoneIds.mono (fun o ho => ?_) b k hz)
        show o ∈ x.1 ++ c'.deps
        rw [hx1]; simp [ho]
      · show o ∈ x.1 ++ c'.deps
        rw [hx1]; simp [ho]
    · cases h6
  | .io t :: ms, v :: vs, _, _, c, h, hr, hn => by
    obtain ⟨u, us, rfl, hv, hr⟩ := hr
    cases v with
    | ptr o off =>
      simp only [collect] at h
      obtain ⟨l1, w, l2, z, h1, h2, he⟩ := Rd.bind_some h
      obtain ⟨w', hw, hh⟩ := Rd.look_some h1
      cases hh
      cases w with
      | arr _ _ _ _ _ => cases h2
      | box cs =>
        simp only [] at h2
        split at h2
        · rename_i hc
          simp only [Bool.and_eq_true] at hc
          have hoff := Nat.eq_of_beq_eq_true hc.1
          have hcs := Nat.eq_of_beq_eq_true hc.2
          subst hoff
          obtain ⟨l3, xa, l4, z', h3, h4, he'⟩ := Rd.bind_some h2
          obtain ⟨l5, c', l6, z'', h5, h6, he''⟩ := Rd.bind_some h4
          cases h6; cases he''; cases he'; cases he
          simp only [List.cons_append, List.nodup_cons, List.mem_append, not_or] at hn
          obtain ⟨⟨n1, n2⟩, n3⟩ := hn
          obtain ⟨n4, n5, n6⟩ := List.nodup_append.1 n3
          obtain ⟨b, k, us1, hloc, hrel, hcell⟩ := OB o _ hw
          obtain ⟨b', k', hloc', rfl⟩ := hv.2 cs hw
          rw [hloc] at hloc'; cases hloc'
          obtain ⟨u1, u2, rfl, hown, _, hlive⟩ := ownCells_own OB (x := xa.1.1) (ids := xa.1.2) (rest := xa.2) h3 hrel n4
          obtain ⟨Zc, q0, q1, q2, q3, q4, q5⟩ := collect_ok OB h5 hr n5
          have hu1 := hown.len
          have hc : ∀ j, j < t.cells → ∃ v, u1[j]? = some v ∧ X.own b (k + j) = some (o, true) ∧ X.W.cell? ⟨b, k + j, none⟩ = some v ∧ X.W.frozen? ⟨b, k + j, none⟩ = false := fun j hj => by
            have hj' : u1[j]? = some u1[j] := List.getElem?_eq_getElem (by omega)
            exact ⟨_, hj', hcell j _ (by rw [List.getElem?_append_left (by omega)]; exact hj')⟩
          refine ⟨fun b' k' => ownZ X.own (o :: xa.1.2) b' k' ∨ Zc b' k', fun b' k' h => h.elim (ownZ.mono (by simp +contextual) b' k') fun h => ownZ.mono (by simp +contextual) b' k' (q0 b' k' h),
            fun V hV => ⟨b, k, u1, us, ownZ X.own xa.1.2, Zc, rfl, fun j hj => ?_, fun b' k' h => Or.inl (ownZ.mono (by simp +contextual) b' k' h), fun b' k' h => Or.inr h, fun b' k' h h' => ownZ_disj n6 b' k' h (q0 _ _ h'), fun j hj => ?_, fun j hj => ?_, fun j v hj => ?_, hown, q1 V hV⟩,
            ⟨b, k, us, o, cs, c'.back, rfl, rfl, hw, hloc, q2.mono fun o' ho' b' k' m hw' hz => hz.elim (fun ⟨o2, m2, ho2, hw2⟩ => by
              rw [hw'] at hw2; cases hw2
              rcases List.mem_cons.1 ho2 with rfl | ho2
              · exact absurd (q4 _ ho') n2
              · exact absurd rfl (n6 _ ho2 _ (q4 _ ho'))) id⟩, List.nodup_cons.2 ⟨fun ho => n2 (q4 o ho), q3⟩, fun o' ho => ?_, fun o' ho => ?_⟩
          · obtain ⟨v, _, h1, _⟩ := hc j hj
            exact Or.inl ⟨o, true, by simp, h1⟩
          · obtain ⟨v, _, h1, _⟩ := hc j hj
            refine ⟨?_, fun hz => ?_⟩
            · rintro ⟨o, m, ho, hw⟩; rw [h1] at hw; cases hw; exact n1 ho
            · obtain ⟨o, m, ho, hw⟩ := q0 _ _ hz; rw [h1] at hw; cases hw; exact n2 ho
          · obtain ⟨v, _, h1, h2, h3⟩ := hc j hj
            exact ⟨⟨v, h2⟩, h3⟩
          · have hjl := (List.getElem?_eq_some_iff.1 hj).1
            obtain ⟨v', h0, h1, h2, h3⟩ := hc j (by omega)
            rw [hj] at h0; cases h0; exact h2
          · rcases List.mem_cons.1 ho with rfl | ho
            · simp
            · have := q4 o' ho; simp [this]
          · simp only [List.cons_append, List.mem_cons, List.mem_append] at ho
            rcases ho with rfl | ho | ho
            · exact ⟨_, hw⟩
            · obtain ⟨e, xs, v, h⟩ := hlive o' ho; exact ⟨_, h⟩
            · exact q5 o' ho
        · cases h2
    | _ => cases h
  | .mut e :: ms, v :: vs, _, _, c, h, hr, hn => by
    obtain ⟨u, us, rfl, hv, hr⟩ := hr
    cases v with
    | fsl o =>
      simp only [collect] at h
      obtain ⟨l1, w, l2, z, h1, h2, he⟩ := Rd.bind_some h
      obtain ⟨w', hw, hh⟩ := Rd.look_some h1
      cases hh
      cases w with
      | box _ => cases h2
      | arr e' xs lv d ver =>
        cases lv <;> cases d <;> first | (cases h2; done) | skip
        obtain ⟨l3, xa, l4, z', h3, h4, he'⟩ := Rd.bind_some h2
        obtain ⟨l5, c', l6, z'', h5, h6, he''⟩ := Rd.bind_some h4
        cases h6; cases he''; cases he'; cases he
        obtain ⟨zz, hz, hh⟩ := Rd.of_some h3
        cases hh
        simp only [List.nodup_cons] at hn
        obtain ⟨Zc, q0, q1, q2, q3, q4, q5⟩ := collect_ok OB h5 hr hn.2
        obtain ⟨p1, _⟩ := ownSl_own OB (e := e) (f := .fsl o) (xs := xa) (ids := [o]) (l := [o]) (by
          simp only [ownSl, Rd.bind, Rd.look, hw, Rd.of, hz, Rd.pure, List.append_nil]) hv
        obtain ⟨rfl, hq⟩ := castSl hz
        cases hq
        obtain ⟨a, cap, hloc, rfl⟩ := hv.2 _ _ _ _ _ hw
        refine ⟨fun b' k' => ownZ X.own [o] b' k' ∨ Zc b' k', fun b' k' h => h.elim (ownZ.mono (by simp +contextual) b' k') fun h => ownZ.mono (by simp +contextual) b' k' (q0 b' k' h),
          fun V hV => ⟨_, us, ownZ X.own [o], Zc, rfl, fun _ _ => Or.inl, fun _ _ => Or.inr, fun b' k' h h' => ownZ_disj (fun x hx y hy => by simp at hx; subst hx; rintro rfl; exact hn.1 hy) b' k' h (q0 _ _ h'), p1, q1 V hV⟩,
          Or.inl ⟨a, cap, us, o, xs, ver, c'.back, rfl, rfl, hw, hloc, q2.mono fun o' ho' b' k' m hw' hz => hz.elim (fun ⟨o2, m2, ho2, hw2⟩ => by
              rw [hw'] at hw2; cases hw2
              simp at ho2; subst ho2
              exact absurd (q4 _ ho') hn.1) id⟩, List.nodup_cons.2 ⟨fun ho => hn.1 (q4 o ho), q3⟩, fun o' ho => ?_, fun o' ho => ?_⟩
        · rcases List.mem_cons.1 ho with rfl | ho
          · simp
          · have := q4 o' ho; simp [this]
        · rcases List.mem_cons.1 ho with rfl | ho
          · exact ⟨_, hw⟩
          · exact q5 o' ho
    | isl t e' zs =>
      cases t with
      | none => cases h
      | some q =>
        obtain ⟨q, p⟩ := q
        cases p with
        | none => cases h
        | some w =>
          obtain ⟨i, kc⟩ := w
          simp only [collect] at h
          obtain ⟨l1, w, l2, z, h1, h2, he⟩ := Rd.bind_some h
          obtain ⟨w', hw, hh⟩ := Rd.look_some h1
          cases hh
          cases w with
          | box _ => cases h2
          | arr ue old lv d ver =>
            cases lv <;> cases d <;> first | (cases h2; done) | skip
            simp only [] at h2
            split at h2
            · rename_i hver
              subst hver
              obtain ⟨l3, xa, l4, z', h3, h4, he'⟩ := Rd.bind_some h2
              obtain ⟨l5, c', l6, z'', h5, h6, he''⟩ := Rd.bind_some h4
              cases h6; cases he''; cases he'; cases he
              obtain ⟨zz, hz, hh⟩ := Rd.of_some h3
              cases hh
              obtain ⟨rfl, hq⟩ := castSl hz
              cases hq
              simp only [List.nodup_cons] at hn
              obtain ⟨Zc, q0, q1, q2, q3, q4, q5⟩ := collect_ok OB h5 hr hn.2
              obtain ⟨b, k, cap, hloc, hi, hcs, hcell⟩ := hv.2.2 _ _ _ _ hw
              obtain ⟨a0, cap0, hloc0, hlen0, h7⟩ := OB _ _ hw
              rw [hloc] at hloc0
              cases hloc0
              rcases h7 with h7 | ⟨b2, k2, hb2, hm, ZR, r1, r2, r3⟩
              · omega
              cases hb2
              obtain ⟨hm1, hm2⟩ := hm rfl
              obtain ⟨cs, r4, r5⟩ := r3 i hi
              obtain ⟨Zs, Zr, s1, s2, s3, v', s4, s5, s6⟩ := own_split r4 hcs
              have huv : u = v' := by
                have := r5 kc v' s4
                rw [hcell] at this
                exact Option.some.inj this
              subst huv
              obtain ⟨⟨a, capS, hu⟩, _⟩ := hv
              have hlenc := r4.len
              have hzs : ∀ b' k', Zs b' k' → X.own b' k' = some (q.1, false) := fun b' k' h => r1 i b' k' (s1 _ _ h)
              refine ⟨fun b' k' => Zs b' k' ∨ Zc b' k', fun b' k' h => h.elim (fun h => ⟨q.1, false, by simp, hzs _ _ h⟩) fun h => ownZ.mono (by simp +contextual) b' k' (q0 b' k' h),
                fun V hV => ⟨_, us, Zs, Zc, rfl, fun _ _ => Or.inl, fun _ _ => Or.inr, fun b' k' h h' => by
                  obtain ⟨o2, m2, ho2, hw2⟩ := q0 _ _ h'
                  rw [hzs _ _ h] at hw2; cases hw2; exact hn.1 ho2, s5, q1 V hV⟩,
                Or.inr ⟨a, capS, us, q.1, i, kc, ue, old, zs, q.2, c'.back, by rw [hu]; rfl, rfl, ?_, q2.mono fun o' ho' b' k' m hw' hz => hz.elim (fun h => by
                  rw [hzs _ _ h] at hw'; cases hw'; exact absurd (q4 _ ho') hn.1) id⟩,
                List.nodup_cons.2 ⟨fun ho => hn.1 (q4 _ ho), q3⟩, fun o' ho => ?_, fun o' ho => ?_⟩
              · refine ⟨hw, b, k, cap, ZR, hloc, hlen0, hm1, hm2, r1, r2, r3, hi, cs, Zs, Zr, s1, s2, s3, hlenc, r5, ?_, fun b' k' m ho hz => hz.elim id fun h => ?_⟩
                · rw [show (.slice a (llen zs) capS : Value) = u from hu.symm]
                  exact s6
                · obtain ⟨o2, m2, ho2, hw2⟩ := q0 _ _ h
                  rw [ho] at hw2; cases hw2; exact absurd ho2 hn.1
              · rcases List.mem_cons.1 ho with rfl | ho
                · simp
                · have := q4 o' ho; simp [this]
              · rcases List.mem_cons.1 ho with rfl | ho
                · exact ⟨_, hw⟩
                · exact q5 o' ho
            · cases h2
    | _ => cases h
  | .take e :: ms, v :: vs, _, _, c, h, hr, hn => by
    obtain ⟨u, us, rfl, hv, hr⟩ := hr
    simp only [collect] at h
    obtain ⟨l1, x, l2, z, h1, h2, he⟩ := Rd.bind_some h
    obtain ⟨l3, c', l4, z', h3, h4, he'⟩ := Rd.bind_some h2
    cases h4; cases he'; cases he
    obtain ⟨n4, n5, n6⟩ := List.nodup_append.1 hn
    obtain ⟨p1, p2⟩ := ownSl_own OB (xs := x.1) (ids := x.2) h1 hv
    obtain ⟨Zc, q0, q1, q2, q3, q4, q5⟩ := collect_ok OB h3 hr n5
    refine ⟨fun b' k' => ownZ X.own x.2 b' k' ∨ Zc b' k', fun b' k' h => h.elim (ownZ.mono (by simp +contextual) b' k') fun h => ownZ.mono (by simp +contextual) b' k' (q0 b' k' h),
      fun V hV => ⟨u, us, ownZ X.own x.2, Zc, rfl, fun _ _ => Or.inl, fun _ _ => Or.inr, fun b' k' h h' => ownZ_disj n6 b' k' h (q0 _ _ h'), p1, q1 V hV⟩, ⟨u, us, rfl, q2.mono fun o' ho' b' k' m hw' hz => hz.elim (fun ⟨o2, m2, ho2, hw2⟩ => by
              rw [hw'] at hw2; cases hw2
              exact absurd rfl (n6 _ ho2 _ (q4 _ ho'))) id⟩, q3, fun o ho => List.mem_append.2 (Or.inr (q4 o ho)), fun o ho => ?_⟩
    rcases List.mem_append.1 ho with ho | ho
    · obtain ⟨e, xs, v, h⟩ := p2 o ho; exact ⟨_, h⟩
    · exact q5 o ho
  | .clo f a b :: ms, v :: vs, _, _, c, h, hr, hn => by
    obtain ⟨u, us, rfl, hv, hr⟩ := hr
    cases v with
    | clo f' fs cs =>
      simp only [collect] at h
      split at h
      · rename_i hc
        obtain ⟨rfl, ha, hb⟩ := hc
        obtain ⟨l3, c', l4, z', h3, h4, he'⟩ := Rd.bind_some h
        cases h4; cases he'
        obtain ⟨ufs, ucs, rfl, hfs, hcs⟩ := hv
        have hrel : LRel X (fs ++ cs ++ vs) (ufs ++ ucs ++ us) := (hfs.append hcs).append hr
        obtain ⟨Zc, q0, q1, q2, q3⟩ := collect_ok OB h3 hrel hn
        exact ⟨Zc, q0, fun V hV => ⟨ufs, ucs, us, rfl, hfs.len.trans ha, hcs.len.trans hb, q1 V hV⟩, ⟨ufs, ucs, us, rfl, q2⟩, q3⟩
      · cases h
    | _ => cases h
  | .agg n :: ms, v :: vs, _, _, c, h, hr, hn => by
    obtain ⟨u, us, rfl, hv, hr⟩ := hr
    cases v with
    | agg cs =>
      simp only [collect] at h
      split at h
      · rename_i hc
        obtain ⟨l3, c', l4, z', h3, h4, he'⟩ := Rd.bind_some h
        cases h4; cases he'
        obtain ⟨ucs, rfl, hcs⟩ := hv
        have hrel : LRel X (cs ++ vs) (ucs ++ us) := hcs.append hr
        obtain ⟨Zc, q0, q1, q2, q3⟩ := collect_ok OB h3 hrel hn
        exact ⟨Zc, q0, fun V hV => ⟨ucs, us, rfl, hcs.len.trans hc, q1 V hV⟩, ⟨ucs, us, rfl, q2⟩, q3⟩
      · cases h
    | _ => cases h
  | .view _ :: _, [], _, _, _, h, _, _ => by cases h
  | .ro _ :: _, [], _, _, _, h, _, _ => by cases h
  | .io _ :: _, [], _, _, _, h, _, _ => by cases h
  | .mut _ :: _, [], _, _, _, h, _, _ => by cases h
  | .take _ :: _, [], _, _, _, h, _, _ => by cases h
  | .clo _ _ _ :: _, [], _, _, _, h, _, _ => by cases h
  | .agg _ :: _, [], _, _, _, h, _, _ => by cases h
termination_by ms => ms.length
end Go.Evr

namespace Go.Evr

theorem obPuts_append (f : Nat → Option Ob) : ∀ (p q : Puts) (k : Nat), obPuts f (p ++ q) k = obPuts (obPuts f p) q k
  | [], _, _ => rfl
  | r :: p, q, k => by simp only [List.cons_append, obPuts]; exact obPuts_append _ p q k
theorem obPuts_gone : ∀ (l : List Nat) (f : Nat → Option Ob) (k : Nat), obPuts f (l.map fun o => (o, none)) k = if k ∈ l then none else f k
  | [], _, _ => by simp [obPuts]
  | a :: l, f, k => by
    simp only [List.map_cons, obPuts]
    rw [obPuts_gone l]
    by_cases h : k ∈ l
    · simp [h]
    · by_cases ha : k = a <;> simp [h, ha]

theorem lookP_of_mem : ∀ {p : Puts} {k : Nat} {x : Option Ob}, (p.map (·.1)).Nodup → (k, x) ∈ p → lookP p k = some x
  | (o, y) :: p, k, x, hn, h => by
    simp only [List.map_cons, List.nodup_cons] at hn
    simp only [lookP]
    rcases List.mem_cons.1 h with h | h
    · cases h; rw [if_pos rfl]
    · rw [if_neg (by rintro rfl; exact hn.1 (List.mem_map.2 ⟨_, h, rfl⟩))]
      exact lookP_of_mem hn.2 h

def Old.compat (x y : Ob) : Prop :=
  (∃ cs cs', x = .box cs ∧ y = .box cs') ∨ ∃ e xs xs' v, x = .arr e xs true true v ∧ y = .arr e xs' true true (v + 1) ∧ xs'.length = xs.length

/-- What is there behind a call. -/
def HasObs (X : Cx) (q : List (Nat × Ob)) : Prop := ∀ o x, (o, x) ∈ q → X.ob o = some x
def RelObs (X : Cx) (q : List (Nat × Ob)) : Prop := ∀ o x, (o, x) ∈ q → ObRel X o x
def putsOf (q : List (Nat × Ob)) : Puts := q.map fun r => (r.1, some r.2)

section
variable {X : Cx} {D : Nat → Nat → Prop} {E : Env} {S : St} {tm : List Value} {nx : Nat}

theorem Done.change (I : Inv X D E S tm) {n : Nat} (hfr : ∀ o, nx ≤ o → o < n → ¬ D o 0) (hle : nx ≤ n) {owned : List Nat} {q : List (Nat × Ob)} (hnd : (q.map (·.1)).Nodup)
    {W1 : World} (F : Frm (ownZ X.own owned) X.W W1) {g : Nat → Nat → Option (Nat × Bool)} {L : Nat → Loc}
    (hg : Laid W1 (fun b k => ownZ X.own owned b k ∨ X.W.heap.size ≤ b) g (fun o => ∃ x, (o, x) ∈ q))
    (hq : ∀ o x, (o, x) ∈ q → (nx ≤ o ∧ o < n ∧ x.ver0) ∨ (o ∈ owned ∧ L o = X.loc o ∧ ∃ y, X.ob o = some y ∧ Old.compat y x))
    {f : FV} {v : Value} (hrel : ∀ X', Has X' W1 g L (fun o => ∃ x, (o, x) ∈ q) → HasObs X' q → RelObs X' q ∧ VRel X' f v)
    (hok : ∀ D' : Nat → Nat → Prop, (∀ o x, (o, x) ∈ q → D' o 0) → f.ok D' ∧ ∀ o x, (o, x) ∈ q → x.ok D') {gs : List Bool} :
    Done X D E S tm nx ⟨f, owned.map (fun o => (o, none)) ++ putsOf q, n, gs⟩ v W1 := by
  classical
  have hnd' : ((putsOf q).map (·.1)).Nodup := by unfold putsOf; rw [List.map_map]; exact hnd
  have look_in : ∀ o x, (o, x) ∈ q → lookP (putsOf q) o = some (some x) := fun o x ho => by
    have : (o, some x) ∈ putsOf q := List.mem_map.2 ⟨_, ho, rfl⟩
    exact lookP_of_mem hnd' this
  have look_out : ∀ o, (¬ ∃ x, (o, x) ∈ q) → lookP (putsOf q) o = none := fun o ho => lookP_none fun hm => ho (by
    unfold putsOf at hm
    simp only [List.map_map, List.mem_map] at hm
    obtain ⟨r, h1, h2⟩ := hm
    exact ⟨r.2, by rw [← h2]; exact h1⟩)
  have uniq : ∀ o x y, (o, x) ∈ q → (o, y) ∈ q → x = y := fun o x y h1 h2 => by
    have := (look_in o x h1).symm.trans (look_in o y h2)
    simpa using this
  let ob' : Nat → Option Ob := fun o => match lookP (putsOf q) o with | some y => y | none => if o ∈ owned then none else X.ob o
  have hob : ∀ o, (S.puts (owned.map (fun o => (o, none)) ++ putsOf q)).ob o = ob' o := fun o => by
    rw [ob_puts, obPuts_append, obPuts_look hnd']
    simp only [ob']
    cases lookP (putsOf q) o with
    | some y => rfl
    | none => simp only []; rw [obPuts_gone, I.ob]
  let own2 : Nat → Nat → Option (Nat × Bool) := fun b k => if ownZ X.own owned b k then none else X.own b k
  let X' : Cx := ⟨glue g own2, fun o => if ∃ x, (o, x) ∈ q then L o else X.loc o, ob', W1⟩
  have hHas : Has X' W1 g L (fun o => ∃ x, (o, x) ∈ q) := ⟨rfl, fun b k r hr => by show glue g own2 b k = _; unfold glue; rw [hr], fun o ho => if_pos ho⟩
  have ob_in : ∀ o x, (o, x) ∈ q → X'.ob o = some x := fun o x ho => by show ob' o = _; simp only [ob']; rw [look_in o x ho]
  have ob_out : ∀ o x, X'.ob o = some x → (o, x) ∈ q ∨ ((¬ ∃ x, (o, x) ∈ q) ∧ o ∉ owned ∧ X.ob o = some x) := fun o x ho => by
    by_cases h : ∃ x, (o, x) ∈ q
    · obtain ⟨y, hy⟩ := h
      rw [ob_in o y hy] at ho
      cases ho; exact Or.inl hy
    · have ho : ob' o = some x := ho
      simp only [ob'] at ho
      rw [look_out o h] at ho
      simp only [] at ho
      split at ho
      · cases ho
      · rename_i hn; exact Or.inr ⟨h, hn, ho⟩
  obtain ⟨hR, hV⟩ := hrel X' hHas ob_in
  have free : ∀ b k, b < X.W.heap.size → ¬ ownZ X.own owned b k → X'.own b k = X.own b k := fun b k hb hz => by
    show glue g own2 b k = _
    unfold glue
    cases hgb : g b k with
    | none => exact if_neg hz
    | some r => exact ((hg.sub b k r.1 r.2 hgb).1.elim hz fun h => by omega).elim
  have hcell : ∀ b k v, ¬ ownZ X.own owned b k → X.W.cell? ⟨b, k, none⟩ = some v → X'.W.cell? ⟨b, k, none⟩ = some v := fun b k v h hv => F.cell b k v h hv
  have z0 : ∀ b k, X.own b k = none → ¬ ownZ X.own owned b k := by rintro b k h ⟨o, m, _, hw⟩; rw [h] at hw; cases hw
  have z1 : ∀ b k o m, X.own b k = some (o, m) → o ∉ owned → ¬ ownZ X.own owned b k := by rintro b k o m h hn ⟨o', m', ho, hw⟩; rw [h] at hw; cases hw; exact hn ho
  have hnew : ∀ o x, (o, x) ∈ q → D o 0 → o ∈ owned ∧ L o = X.loc o ∧ ∃ y, X.ob o = some y ∧ Old.compat y x := fun o x ho hd => (hq o x ho).elim (fun h => absurd hd (hfr o h.1 h.2.1)) id
  have hlo : ∀ o, (¬ ∃ x, (o, x) ∈ q) → X'.loc o = X.loc o := fun o h => if_neg h
  have hli : ∀ o x, (o, x) ∈ q → X'.loc o = L o := fun o x h => if_pos ⟨x, h⟩
  have hkept : ∀ o, o ∉ owned → ∀ b k m, X.own b k = some (o, m) → X'.own b k = some (o, m) ∧ X'.W.frozen? ⟨b, k, none⟩ = X.W.frozen? ⟨b, k, none⟩ ∧ ∀ v, X.W.cell? ⟨b, k, none⟩ = some v → X'.W.cell? ⟨b, k, none⟩ = some v := fun o ho b k m hw => by
    have hb := (I.dom b k o m hw).1
    have hz := z1 b k o m hw ho
    exact ⟨(free b k hb hz).trans hw, F.frozen b k hb hz, fun v => hcell b k v hz⟩
  have K : Keeps X X' D := by
    refine ⟨fun b k v hz hv => ⟨(free b k (cell_lt hv) (z0 b k hz)).trans hz, hcell b k v (z0 b k hz) hv⟩, fun o e ys l d ver ho hd => ?_, fun o cs ho hd => ?_, fun o e ys l d ver ho hd => ?_⟩
    · rcases ob_out o _ ho with h | ⟨h1, h2, h3⟩
      · obtain ⟨q1, q2, y, q3, q4⟩ := hnew o _ h hd
        rcases q4 with ⟨_, _, rfl, h4⟩ | ⟨e', xs, xs', v', rfl, h4, h5⟩
        · cases h4
        · cases h4; exact ⟨xs, _, _, _, q3, (hli o _ h).trans q2, h5.symm⟩
      · exact ⟨ys, l, d, ver, h3, hlo o h1, rfl⟩
    · rcases ob_out o _ ho with h | ⟨h1, h2, h3⟩
      · obtain ⟨q1, q2, y, q3, q4⟩ := hnew o _ h hd
        rcases q4 with ⟨cs0, _, rfl, h4⟩ | ⟨e', xs, xs', v', rfl, h4, h5⟩
        · exact ⟨cs0, q3, (hli o _ h).trans q2⟩
        · cases h4
      · exact ⟨cs, h3, hlo o h1⟩
    · rcases ob_out o _ ho with h | ⟨h1, h2, h3⟩
      · obtain ⟨q1, q2, y, q3, q4⟩ := hnew o _ h (I.dknown o ver hd)
        rcases q4 with ⟨_, _, rfl, h4⟩ | ⟨e', xs, xs', v', rfl, h4, h5⟩
        · cases h4
        · cases h4
          have := I.dver o _ _ _ _ _ ((I.ob o).symm.trans q3) _ hd
          omega
      · refine ⟨ys, l, d, h3, hlo o h1, fun b k v hz hv => ?_, fun i hi c e' zs hc => ⟨⟨hi, hc⟩, fun b k cap v hloc hw => ?_⟩⟩
        · obtain ⟨p1, _, p3⟩ := hkept o h2 b k false hz
          exact ⟨Or.inr p1, p3 v hv⟩
        · refine hcell _ _ _ ?_ hw
          obtain ⟨a1, cap1, q1, q2, q3⟩ := (I.obs o _ ((I.ob o).symm.trans h3)).rows
          rw [hloc] at q1
          cases q1
          obtain ⟨b2, k2, cs, hbk, hrep, hat⟩ := q3 i hi
          cases hbk
          have hc' := cellSl_lt hc
          have hlen := hrep.len
          obtain ⟨hz, _⟩ := hat c _ (List.getElem?_eq_getElem (by omega))
          rcases hz with hz | ⟨o1, m1, ho1, hz⟩
          · exact z0 _ _ hz
          · simp only [List.mem_singleton] at ho1; subst ho1
            exact z1 _ _ _ _ hz h2
  have hRz : ∀ b k, ownZ X.own owned b k → E.W0.heap.size ≤ b ∨ E.R0 b k := by rintro b k ⟨o, m, _, hw⟩; exact (I.dom b k o m hw).2.1
  have hF : Frm E.R0 E.W0 W1 := by
    refine ⟨F.os.trans I.fr.os, F.tape.trans I.fr.tape, F.output.trans I.fr.output, Nat.le_trans I.fr.size F.size, fun b hb hk => ?_, fun b k v hk hv => ?_, fun b k hb hk => ?_⟩
    · exact (F.block b (Nat.lt_of_lt_of_le hb I.fr.size) fun k hm => (hRz b k hm).elim (fun h => by omega) (hk k)).trans (I.fr.block b hb hk)
    · exact F.cell b k v (fun hm => (hRz b k hm).elim (fun h => by have := cell_lt hv; omega) hk) (I.fr.cell b k v hk hv)
    · exact (F.frozen b k (Nat.lt_of_lt_of_le hb I.fr.size) fun hm => (hRz b k hm).elim (fun h => by omega) hk).trans (I.fr.frozen b k hb hk)
  let D' : Nat → Nat → Prop := fun o m => D o m ∨ ((∃ x, (o, x) ∈ q) ∧ m = 0) ∨ ∃ e xs l d, (o, Ob.arr e xs l d m) ∈ q
  have hD : ∀ o v, D o v → D' o v := fun _ _ h => Or.inl h
  obtain ⟨ok1, ok2⟩ := hok D' fun o x ho => Or.inr (Or.inl ⟨⟨x, ho⟩, rfl⟩)
  refine ⟨X', D', rfl, ⟨fun o => (hob o).symm, fun b k o m ho => ?_, hF, fun r hr => ⟨?_, hD _ _ (I.pin r hr).2⟩, I.tmps.keeps K I.okt, fun o x hx => ?_, I.okt.mono hD, fun o x hx => ?_, fun o x hx => ?_, fun o e ys l d ver hx => ?_, fun o ho => ?_, fun o v hv => ?_, fun o e ys l d ver hx v hv => ?_⟩, hV, ok1, hD, hle, fun o ho => ?_⟩
  · have ho : glue g own2 b k = some (o, m) := ho
    unfold glue at ho
    cases hgb : g b k with
    | some r =>
      rw [hgb] at ho
      cases ho
      obtain ⟨p1, p2, x, p3⟩ := hg.sub _ _ _ _ hgb
      exact ⟨p2, p1.elim (hRz b k) (fun h => Or.inl (Nat.le_trans I.fr.size h)), x, (hob o).trans (ob_in o x p3)⟩
    | none =>
      rw [hgb] at ho
      have ho : own2 b k = some (o, m) := ho
      simp only [own2] at ho
      split at ho
      · cases ho
      · rename_i hz
        obtain ⟨p1, p2, x, p3⟩ := I.dom b k o m ho
        have hno : o ∉ owned := fun h => hz ⟨o, m, h, ho⟩
        refine ⟨Nat.lt_of_lt_of_le p1 F.size, p2, x, (hob o).trans ?_⟩
        simp only [ob']
        rw [look_out o fun ⟨y, hy⟩ => hno (hnew o y hy (I.dob o x p3)).1]
        simp only []
        rw [if_neg hno, I.ob]; exact p3
  · by_cases h : ∃ x, (r, x) ∈ q
    · obtain ⟨x, h⟩ := h
      rw [hli r x h, (hnew r x h (I.pin r hr).2).2.1]; exact (I.pin r hr).1
    · rw [hlo r h]; exact (I.pin r hr).1
  · rw [hob] at hx
    rcases ob_out o x hx with h | ⟨h1, h2, h3⟩
    · exact hR o x h
    · have h3' := (I.ob o).symm.trans h3
      exact (I.obs o x h3').keeps K (hlo o h1) (I.oko o x h3') (hkept o h2)
  · rw [hob] at hx
    rcases ob_out o x hx with h | ⟨h1, h2, h3⟩
    · exact ok2 o x h
    · have := I.oko o x ((I.ob o).symm.trans h3)
      cases x with
      | box cs => exact okL.mono hD (by exact this)
      | arr => trivial
  · rw [hob] at hx
    rcases ob_out o x hx with h | ⟨h1, h2, h3⟩
    · exact Or.inr (Or.inl ⟨⟨x, h⟩, rfl⟩)
    · exact Or.inl (I.dob o x ((I.ob o).symm.trans h3))
  · rw [hob] at hx
    rcases ob_out o _ hx with h | ⟨h1, h2, h3⟩
    · exact Or.inr (Or.inr ⟨_, _, _, _, h⟩)
    · exact Or.inl (I.dcur _ _ _ _ _ _ ((I.ob o).symm.trans h3))
  · have hl := puts_len (owned.map (fun o => (o, none)) ++ putsOf q) S
    have hin : ∀ x, (o, x) ∈ q → o < (S.puts (owned.map (fun o => (o, none)) ++ putsOf q)).objs.length := fun x hx => hl.2 _ (List.mem_append.2 (Or.inr (List.mem_map.2 ⟨_, hx, rfl⟩)))
    rcases ho with ho | ⟨⟨x, hx⟩, _⟩ | ⟨_, _, _, _, hx⟩
    · exact Nat.lt_of_lt_of_le (I.dlen o ho) hl.1
    · exact hin _ hx
    · exact hin _ hx
  · rcases hv with hv | ⟨h, _⟩ | ⟨_, _, _, _, hx⟩
    · exact Or.inl (I.dknown o v hv)
    · exact Or.inr (Or.inl ⟨h, rfl⟩)
    · exact Or.inr (Or.inl ⟨⟨_, hx⟩, rfl⟩)
  · rw [hob] at hx
    rcases ob_out o _ hx with h | ⟨h1, h2, h3⟩
    · rcases hv with hv | ⟨_, rfl⟩ | ⟨_, _, _, _, hx2⟩
      · obtain ⟨q1, q2, y, q3, q4⟩ := hnew o _ h (I.dknown o v hv)
        rcases q4 with ⟨_, _, rfl, h4⟩ | ⟨e', xs, xs', v', rfl, h4, h5⟩
        · cases h4
        · cases h4
          have := I.dver o _ _ _ _ _ ((I.ob o).symm.trans q3) _ hv
          omega
      · exact Nat.zero_le _
      · have := uniq o _ _ h hx2
        cases this; exact Nat.le_refl _
    · rcases hv with hv | ⟨h, _⟩ | ⟨_, _, _, _, hx2⟩
      · exact I.dver o _ _ _ _ _ ((I.ob o).symm.trans h3) _ hv
      · exact absurd h h1
      · exact absurd ⟨_, hx2⟩ h1
  · have hin : ∀ x, (o, x) ∈ q → D o 0 ∨ (nx ≤ o ∧ o < n) := fun x hx => (hq o x hx).elim (fun h => Or.inr ⟨h.1, h.2.1⟩) fun ⟨_, _, y, h, _⟩ => Or.inl (I.dob o y ((I.ob o).symm.trans h))
    rcases ho with ho | ⟨⟨x, hx⟩, _⟩ | ⟨_, _, _, _, hx⟩
    · exact Or.inl ho
    · exact hin _ hx
    · exact hin _ hx
end
end Go.Evr

namespace Go.Evr

def numd (nx : Nat) (obs : List Ob) : List (Nat × Ob) := (obs.zipIdx nx).map fun q => (q.2, q.1)
theorem numd_puts (nx : Nat) (obs : List Ob) : (obs.zipIdx nx).map (fun q => (q.2, some q.1)) = putsOf (numd nx obs) := by
  unfold putsOf numd; rw [List.map_map]; rfl
theorem mem_numd {nx : Nat} {obs : List Ob} {o : Nat} {x : Ob} : (o, x) ∈ numd nx obs ↔ nx ≤ o ∧ obs[o - nx]? = some x := by
  unfold numd
  simp only [List.mem_map, Prod.mk.injEq, Prod.exists]
  constructor
  · rintro ⟨a, b, h, rfl, rfl⟩
    exact List.mk_mem_zipIdx_iff_le_and_getElem?_sub.1 h
  · intro h
    exact ⟨x, o, List.mk_mem_zipIdx_iff_le_and_getElem?_sub.2 h, rfl, rfl⟩
theorem numd_ids (nx : Nat) (obs : List Ob) : (numd nx obs).map (·.1) = List.range' nx obs.length := by
  unfold numd
  rw [List.map_map]
  induction obs generalizing nx with
  | nil => rfl
  | cons a l ih => simp only [List.zipIdx_cons, List.map_cons, List.length_cons, List.range'_succ, ih]; rfl

def Ids (q : List (Nat × Ob)) (o : Nat) : Prop := ∃ x, (o, x) ∈ q
theorem Ids.map {q : List (Nat × Ob)} {o : Nat} : Ids q o ↔ o ∈ q.map (·.1) := by
  constructor
  · rintro ⟨x, h⟩; exact List.mem_map.2 ⟨_, h, rfl⟩
  · intro h; obtain ⟨r, h1, rfl⟩ := List.mem_map.1 h; exact ⟨r.2, h1⟩
theorem Ids.numd {nx o : Nat} {obs : List Ob} : Ids (numd nx obs) o ↔ inR nx obs.length o := by
  rw [Ids.map, numd_ids]; simp [inR, List.mem_range'_1]
theorem Ids.append {q q' : List (Nat × Ob)} {o : Nat} : Ids (q ++ q') o ↔ Ids q o ∨ Ids q' o := by simp [Ids, exists_or]
theorem Ids.cons {q : List (Nat × Ob)} {o p : Nat} {x : Ob} : Ids ((p, x) :: q) o ↔ o = p ∨ Ids q o := by simp [Ids, exists_or]

theorem HasObs.at {X : Cx} {nx : Nat} {obs : List Ob} {q : List (Nat × Ob)} (h : HasObs X q) (hs : ∀ r ∈ Evr.numd nx obs, r ∈ q) : ObsAt X nx obs := fun i ob hi => h _ _ (hs _ (mem_numd.2 ⟨by omega, by rw [Nat.add_sub_cancel_left]; exact hi⟩))
theorem RelsAt.obs {X : Cx} {nx : Nat} {obs : List Ob} (h : RelsAt X nx obs) : RelObs X (Evr.numd nx obs) := fun o x ho => by
  obtain ⟨h1, h2⟩ := mem_numd.1 ho
  have := h _ _ h2
  rw [Nat.add_sub_cancel' h1] at this
  exact this
theorem RelObs.append {X : Cx} {q q' : List (Nat × Ob)} (h : RelObs X q) (k : RelObs X q') : RelObs X (q ++ q') := fun o x ho => (List.mem_append.1 ho).elim (h o x) (k o x)

theorem own_objs_arr {W : World} {e : Ty} {Z : Zone} {xs : List e.den} {u : Value} (o : Nat) (h : Own Z W (.sl e) xs [u]) :
    ∃ g L a cap, Laid W Z g (· = o) ∧ u = .slice a (llen xs) cap ∧ L o = .arr a cap ∧ ∀ X, Has X W g L (· = o) → ∀ v, ObRel X o (.arr e xs true true v) := by
  obtain ⟨g, L, a, cap, h1, h2, h3, h4⟩ := own_objs_sl o h
  refine ⟨g, L, a, cap, h1, h2, h3, fun X hX v => ?_⟩
  exact (h4 ⟨X.own, X.loc, fun p => if p = o then some (.arr e xs true true 0) else X.ob p, X.W⟩ ⟨hX.w, hX.own, hX.loc⟩ (if_pos rfl)).2

/-- What is said of the objects behind a call. -/
structure Objs (W1 : World) (X : Cx) (bs : List Nat) (nx n : Nat) (N : Zone) (q : List (Nat × Ob)) (vals : List FV) (vs : List Value) : Prop where
  le : nx ≤ n
  nd : (q.map (·.1)).Nodup
  kind : ∀ o x, (o, x) ∈ q → (nx ≤ o ∧ o < n ∧ x.ver0) ∨ (o ∈ bs ∧ ∃ y, X.ob o = some y ∧ Old.compat y x)
  ok : ∀ D' : Nat → Nat → Prop, (∀ o x, (o, x) ∈ q → D' o 0) → okL D' vals ∧ ∀ o x, (o, x) ∈ q → x.ok D'
  laid : ∃ g L, Laid W1 N g (Ids q) ∧ (∀ o ∈ bs, L o = X.loc o) ∧ ∀ X', Has X' W1 g L (Ids q) → HasObs X' q → RelObs X' q ∧ LRel X' vals vs

theorem Objs.ids {W1 : World} {X : Cx} {bs : List Nat} {nx n : Nat} {N : Zone} {q : List (Nat × Ob)} {vals : List FV} {vs : List Value} (h : Objs W1 X bs nx n N q vals vs) {o : Nat} (ho : Ids q o) : (nx ≤ o ∧ o < n) ∨ o ∈ bs := by
  obtain ⟨x, hx⟩ := ho
  exact (h.kind o x hx).imp (fun h => ⟨h.1, h.2.1⟩) (·.1)

theorem ownObs_ids {t : Ty} {x : t.den} {nx o : Nat} : Ids (numd nx (ownObs t x)) o ↔ inR nx (ownN t) o := by rw [Ids.numd, ownObs_len]

/-- What stays with an owner of what is handed over in part. -/
def retZ (X : Cx) (Zc : Zone) (ids : List Nat) : Zone := fun b k => ∃ o m, o ∈ ids ∧ X.own b k = some (o, m) ∧ ¬ Zc b k

open Classical in
theorem inn_obj {W1 : World} {X : Cx} {Zc N : Zone} (F : Frm Zc X.W W1) (dom : ∀ b k o m, X.own b k = some (o, m) → b < X.W.heap.size) (hN : ∀ b k, N b k → Zc b k ∨ X.W.heap.size ≤ b) {o i c : Nat} {e u : Ty} {old : List u.den} {v : Nat} {uval : Value}
    (H : InnOk X Zc o i c e u old v uval) {y : List e.den} {Z2 : Zone} (z2 : ∀ b k, Z2 b k → N b k) (ho : Own Z2 W1 (.sl e) y [uval]) {f : u.den → u.den} (hf : putF u c (.sl e) y = some f) :
    ∃ g, Laid W1 (fun b k => N b k ∨ retZ X Zc [o] b k) g (· = o) ∧ (∀ b k r, g b k = some r → Z2 b k ∨ retZ X Zc [o] b k) ∧ ∀ X' L, Has X' W1 g L (· = o) → L o = X.loc o → ObRel X' o (.arr u (lmod old i f) true true (v + 1)) := by
  obtain ⟨h0, b, k, cap, ZR, h1, h2, h3, h4, h5, h6, h7, hi, cs, Zs, Zr, s1, s2, s3, s4, s5, s6, s7⟩ := H
  have noc : ∀ b' k' m, X.own b' k' = some (o, m) → ¬ Zs b' k' → ¬ Zc b' k' := fun b' k' m hw hz hc => hz (s7 b' k' m hw hc)
  have no2 : ∀ b' k' m, X.own b' k' = some (o, m) → ¬ Zs b' k' → ¬ Z2 b' k' := fun b' k' m hw hz h => (hN _ _ (z2 _ _ h)).elim (noc b' k' m hw hz) fun h => by have := dom _ _ _ _ hw; omega
  have zso : ∀ b' k', Zs b' k' → X.own b' k' = some (o, false) := fun b' k' h => h5 i b' k' (s1 _ _ h)
  let g : Nat → Nat → Option (Nat × Bool) := fun b' k' => if Z2 b' k' ∧ b' < W1.heap.size then some (o, false) else if retZ X Zc [o] b' k' then X.own b' k' else none
  have gret : ∀ b' k' m, X.own b' k' = some (o, m) → ¬ Zs b' k' → g b' k' = some (o, m) := fun b' k' m hw hz => by
    show (if _ then _ else _) = _
    rw [if_neg (fun h => no2 b' k' m hw hz h.1), if_pos ⟨o, m, by simp, hw, noc b' k' m hw hz⟩]
    exact hw
  have rz : ∀ b' k', retZ X Zc [o] b' k' → ∃ m, X.own b' k' = some (o, m) ∧ ¬ Zc b' k' := by
    rintro b' k' ⟨o', m, ho', hw, hc⟩
    simp only [List.mem_singleton] at ho'; subst ho'
    exact ⟨m, hw, hc⟩
  refine ⟨g, ⟨fun b' k' o' m' hg => ?_⟩, fun b' k' r hg => ?_, fun X' L hX hL => ?_⟩
  · have hg : (if Z2 b' k' ∧ b' < W1.heap.size then some (o, false) else if retZ X Zc [o] b' k' then X.own b' k' else none) = some (o', m') := hg
    split at hg
    · rename_i hz; cases hg; exact ⟨Or.inl (z2 _ _ hz.1), hz.2, rfl⟩
    · split at hg
      · rename_i hz
        obtain ⟨m, hw, _⟩ := rz _ _ hz
        rw [hw] at hg; cases hg
        exact ⟨Or.inr hz, Nat.lt_of_lt_of_le (dom _ _ _ _ hw) F.size, rfl⟩
      · cases hg
  · have hg : (if Z2 b' k' ∧ b' < W1.heap.size then some (o, false) else if retZ X Zc [o] b' k' then X.own b' k' else none) = some r := hg
    split at hg
    · rename_i hz; exact Or.inl hz.1
    · split at hg
      · rename_i hz; exact Or.inr hz
      · cases hg
  · have mainz : ∀ j, j < cap * u.cells → ¬ Zs b (k + j) := fun j hj hz => by have := zso _ _ hz; rw [h3 j hj] at this; cases this
    have rowz : ∀ j b' k', j ≠ i → ZR j b' k' → ¬ Zs b' k' := fun j b' k' hji hz hs => hji (h6 j i b' k' hz (s1 _ _ hs))
    have hW := hX.w
    have cellk : ∀ b' k' w, ¬ Zc b' k' → X.W.cell? ⟨b', k', none⟩ = some w → W1.cell? ⟨b', k', none⟩ = some w := fun b' k' w hz hw => F.cell b' k' w hz hw
    have mcell : ∀ j w, j < cap * u.cells → X.W.cell? ⟨b, k + j, none⟩ = some w → W1.cell? ⟨b, k + j, none⟩ = some w := fun j w hj => cellk _ _ _ (noc _ _ _ (h3 j hj) (mainz j hj))
    refine ⟨some ⟨b, k, none⟩, cap, (hX.loc o rfl).trans (hL.trans h1), by rw [lmod_len]; exact h2, Or.inr ⟨b, k, rfl, fun _ => ⟨fun j hj => hX.own _ _ _ (gret _ _ _ (h3 j hj) (mainz j hj)), fun j hj => ?_⟩, ?_⟩⟩
    · obtain ⟨⟨w, hw⟩, hfz⟩ := h4 j hj
      rw [hW]
      exact ⟨⟨w, mcell j w hj hw⟩, (F.frozen _ _ (dom _ _ _ _ (h3 j hj)) (noc _ _ _ (h3 j hj) (mainz j hj))).trans hfz⟩
    · let R : Nat → Zone := fun j b' k' => if j = i then ((Z2 b' k' ∧ b' < W1.heap.size) ∨ Zr b' k') else ZR j b' k'
      have Ri : ∀ j b' k', j = i → R j b' k' = ((Z2 b' k' ∧ b' < W1.heap.size) ∨ Zr b' k') := fun j b' k' h => if_pos h
      have Rn : ∀ j b' k', j ≠ i → R j b' k' = ZR j b' k' := fun j b' k' h => if_neg h
      refine ⟨R, fun j b' k' hz => ?_, fun j j' b' k' hz hz' => ?_, fun j hj => ?_⟩
      · refine hX.own _ _ _ ?_
        by_cases hji : j = i
        · rw [Ri _ _ _ hji] at hz
          rcases hz with hz | hz
          · exact if_pos hz
          · exact gret _ _ _ (h5 i _ _ (s2 _ _ hz)) fun hs => s3 _ _ hs hz
        · rw [Rn _ _ _ hji] at hz
          exact gret _ _ _ (h5 j _ _ hz) (rowz j _ _ hji hz)
      · by_cases hji : j = i <;> by_cases hji' : j' = i
        · rw [hji, hji']
        · exfalso
          rw [Ri _ _ _ hji] at hz
          rw [Rn _ _ _ hji'] at hz'
          rcases hz with hz | hz
          · exact no2 _ _ _ (h5 j' _ _ hz') (rowz j' _ _ hji' hz') hz.1
          · exact hji' (h6 j' i _ _ hz' (s2 _ _ hz))
        · exfalso
          rw [Rn _ _ _ hji] at hz
          rw [Ri _ _ _ hji'] at hz'
          rcases hz' with hz' | hz'
          · exact no2 _ _ _ (h5 j _ _ hz) (rowz j _ _ hji hz) hz'.1
          · exact hji (h6 j i _ _ hz (s2 _ _ hz'))
        · rw [Rn _ _ _ hji] at hz
          rw [Rn _ _ _ hji'] at hz'
          exact h6 _ _ _ _ hz hz'
      · have hj' : j < old.length := by rw [lmod_len] at hj; exact hj
        rw [hW]
        by_cases hji : j = i
        · subst hji
          refine ⟨cs, ?_, fun j' w hw => ?_⟩
          · have := s6 W1 y _ f (fun b' k' w hz hw => cellk _ _ _ (noc _ _ _ (h5 j _ _ (s2 _ _ hz)) fun hs => s3 _ _ hs hz) hw) (fun b' k' hz hfz => (F.frozen _ _ (dom _ _ _ _ (h5 j _ _ (s2 _ _ hz))) (noc _ _ _ (h5 j _ _ (s2 _ _ hz)) fun hs => s3 _ _ hs hz)).trans hfz)
              ho.live (fun b' k' hz hz' => no2 _ _ _ (h5 j _ _ (s2 _ _ hz')) (fun hs => s3 _ _ hs hz') hz.1) hf
            rw [lmod_get, if_pos rfl]
            have hR : R j = fun b' k' => (Z2 b' k' ∧ b' < W1.heap.size) ∨ Zr b' k' := funext fun b' => funext fun k' => Ri j b' k' rfl
            rw [hR]
            exact this
          · have hjl := (List.getElem?_eq_some_iff.1 hw).1
            rw [Nat.add_assoc]
            refine mcell _ w (row_lt hj' h2 (by omega)) ?_
            rw [← Nat.add_assoc]; exact s5 j' w hw
        · obtain ⟨cs', q1, q2⟩ := h7 j hj'
          refine ⟨cs', ?_, fun j' w hw => ?_⟩
          · rw [lmod_get, if_neg (Ne.symm hji)]
            have hR : R j = ZR j := funext fun b' => funext fun k' => Rn j b' k' hji
            rw [hR]
            exact q1.mono (fun _ _ h => h) (fun b' k' w hz hw => cellk _ _ _ (noc _ _ _ (h5 j _ _ hz) (rowz j _ _ hji hz)) hw) fun b' k' hz hfz => (F.frozen _ _ (dom _ _ _ _ (h5 j _ _ hz)) (noc _ _ _ (h5 j _ _ hz) (rowz j _ _ hji hz))).trans hfz
          · have hjl := (List.getElem?_eq_some_iff.1 hw).1
            have := q1.len
            rw [Nat.add_assoc]
            refine mcell _ w (row_lt hj' h2 (by omega)) ?_
            rw [← Nat.add_assoc]; exact q2 j' w hw

theorem outs_objs {W1 : World} {X : Cx} {Zc : Zone} (F : Frm Zc X.W W1) (dom : ∀ b k o m, X.own b k = some (o, m) → b < X.W.heap.size) : ∀ {ms : List Md} {y : (outT ms).den} {us : List Value} {bs : List Back} {nx n : Nat} {p : Puts} {gs : List Bool} {N : Zone}, OutsOk W1 ms y us N → BackOk X Zc ms us bs → backPuts nx ms y bs = some (p, n, gs) →
    (∀ b ∈ gs, b = true) → (backIds bs).Nodup → (∀ o ∈ backIds bs, ¬ (nx ≤ o ∧ o < n)) → (∀ b k, N b k → Zc b k ∨ X.W.heap.size ≤ b) → ∃ q, p = putsOf q ∧ Objs W1 X (backIds bs) nx n (fun b k => N b k ∨ retZ X Zc (backIds bs) b k) q [] []
  | [], y, us, bs, nx, n, p, gs, N, h1, h2, h3, h4, h5, h6, hN => by
    obtain ⟨rfl, rfl⟩ := h2
    simp only [backPuts, Option.some.injEq, Prod.mk.injEq] at h3
    obtain ⟨rfl, rfl, rfl⟩ := h3
    exact ⟨[], rfl, ⟨Nat.le_refl _, by simp, by simp, by simp [okL], fun _ _ => none, X.loc, ⟨fun _ _ _ _ h => by cases h⟩, fun _ _ => rfl, fun X' _ _ => ⟨by simp [RelObs], rfl⟩⟩⟩
  | .view _ :: ms, y, us, bs, nx, n, p, gs, N, h1, h2, h3, h4, h5, h6, hN => by
    obtain ⟨u, us', rfl, h1⟩ := h1
    obtain ⟨_, _, he, h2⟩ := h2
    cases he
    exact outs_objs F dom (ms := ms) h1 h2 h3 h4 h5 h6 hN
  | .ro _ :: ms, y, us, bs, nx, n, p, gs, N, h1, h2, h3, h4, h5, h6, hN => by
    obtain ⟨u, us', rfl, h1⟩ := h1
    obtain ⟨_, _, he, h2⟩ := h2
    cases he
    exact outs_objs F dom (ms := ms) h1 h2 h3 h4 h5 h6 hN
  | .take _ :: ms, y, us, bs, nx, n, p, gs, N, h1, h2, h3, h4, h5, h6, hN => by
    obtain ⟨u, us', rfl, h1⟩ := h1
    obtain ⟨_, _, he, h2⟩ := h2
    cases he
    exact outs_objs F dom (ms := ms) h1 h2 h3 h4 h5 h6 hN
  | .clo _ _ _ :: ms, y, us, bs, nx, n, p, gs, N, h1, h2, h3, h4, h5, h6, hN => by
    obtain ⟨fs, cs, us', rfl, h1⟩ := h1
    obtain ⟨fs', cs', us2, he, h2⟩ := h2
    simp only [List.cons.injEq, Value.func.injEq] at he
    obtain ⟨⟨_, he1, he2⟩, rfl⟩ := he
    have he1 : fs = fs' := List.toArray_inj he1
    have he2 : cs = cs' := List.toArray_inj he2
    subst he1; subst he2
    exact outs_objs F dom (ms := ms) h1 h2 h3 h4 h5 h6 hN
  | .agg _ :: ms, y, us, bs, nx, n, p, gs, N, h1, h2, h3, h4, h5, h6, hN => by
    obtain ⟨cs, us', rfl, h1⟩ := h1
    obtain ⟨cs', us2, he, h2⟩ := h2
    simp only [List.cons.injEq, Value.agg.injEq] at he
    obtain ⟨he2, rfl⟩ := he
    have he2 : cs = cs' := List.toArray_inj he2
    subst he2
    exact outs_objs F dom (ms := ms) h1 h2 h3 h4 h5 h6 hN
  | .io t :: ms, y, us, bs, nx, n, p, gs, N, h1, h2, h3, h4, h5, h6, hN => by
    obtain ⟨b, k, vs, us', Z2, Z3, rfl, z1, z2, z3, d1, d2, hm, hc, ho, h1⟩ := h1
    obtain ⟨b', k', us2, o, cs, bs', he, rfl, hob, hloc, h2⟩ := h2
    cases he
    simp only [backPuts] at h3
    cases hb : backPuts (nx + ownN t) ms y.2 bs' with
    | none => rw [hb] at h3; cases h3
    | some r =>
      obtain ⟨p', n', g'⟩ := r
      rw [hb] at h3
      simp only [Option.some.injEq, Prod.mk.injEq] at h3
      obtain ⟨rfl, rfl, rfl⟩ := h3
      simp only [backIds, List.nodup_cons] at h5
      have hon := h6 o (by simp [backIds])
      obtain ⟨q', rfl, O⟩ := outs_objs F dom (ms := ms) h1 h2 hb h4 h5.2 (fun o' ho' => by have := h6 o' (by simp [backIds, ho']); omega) fun b k h => hN b k (z3 b k h)
      obtain ⟨g1, L1, m1, m2⟩ := own_objs t nx ho
      obtain ⟨g, L, l1, l2, l3⟩ := O.laid
      have b1 := gBox_laid (p := o) hm
      have oid : ∀ o', Ids q' o' → nx + ownN t ≤ o' ∧ o' < n' ∨ o' ∈ backIds bs' := fun o' h => O.ids h
      have hle := O.le
      have no1 : ¬ Ids q' o := fun h => (oid o h).elim (fun h => by omega) h5.1
      have no2 : ∀ o', inR nx (ownN t) o' → ¬ Ids q' o' := fun o' hr h => by
        simp only [inR] at hr
        exact (oid o' h).elim (fun h => by omega) fun h => by have := h6 o' (by simp [backIds, h]); omega
      have nret : ∀ b' k', N b' k' → ¬ retZ X Zc (backIds bs') b' k' := fun b' k' h hr => by
        obtain ⟨o2, m2, _, hw2, hc2⟩ := hr
        exact (hN b' k' h).elim hc2 fun h => by have := dom _ _ _ _ hw2; omega
      have j1 : Laid W1 (fun b' k' => Z2 b' k' ∨ (Z3 b' k' ∨ retZ X Zc (backIds bs') b' k')) (glue g1 g) (fun o' => inR nx (ownN t) o' ∨ Ids q' o') := m1.glue l1 (fun _ _ => Or.inl) (fun _ _ => Or.inr) (fun _ => Or.inl) fun _ => Or.inr
      have hids : ∀ o', Ids ((o, Ob.box (ownOut nx t y.1)) :: (numd nx (ownObs t y.1) ++ q')) o' ↔ o' = o ∨ (inR nx (ownN t) o' ∨ Ids q' o') := fun o' => by rw [Ids.cons, Ids.append, ownObs_ids]
      have hbz : ∀ b' k', cellsZ b k t.cells b' k' → ¬ (Z2 b' k' ∨ (Z3 b' k' ∨ retZ X Zc (backIds bs') b' k')) := by rintro b' k' ⟨rfl, j, hj, rfl⟩ h; exact h.elim (d2 j hj).1 fun h => h.elim (d2 j hj).2 (nret _ _ (z1 j hj))
      have d1' : ∀ b' k', Z2 b' k' → ¬ (Z3 b' k' ∨ retZ X Zc (backIds bs') b' k') := fun b' k' h h' => h'.elim (d1 _ _ h) (nret _ _ (z2 _ _ h))
      have rmono : ∀ b' k', retZ X Zc (backIds bs') b' k' → retZ X Zc (backIds (.io o t :: bs')) b' k' := fun b' k' ⟨o2, m2, h1, h2⟩ => ⟨o2, m2, List.mem_cons_of_mem _ h1, h2⟩
      refine ⟨(o, .box (ownOut nx t y.1)) :: (numd nx (ownObs t y.1) ++ q'), by simp only [putsOf, List.map_cons, List.map_append, numd_puts]; rfl, ⟨by omega, ?_, fun o' x hx => ?_, fun D' hD => ⟨trivial, fun o' x hx => ?_⟩,
        glue (gBox b k t.cells o) (glue g1 g), glueL (· = o) (fun _ => .box b k) (glueL (inR nx (ownN t)) L1 L), ?_, fun o' ho' => ?_, fun X' hX hO => ⟨?_, rfl⟩⟩⟩
      · simp only [List.map_cons, List.map_append, List.nodup_cons, List.mem_append, ← Ids.map]
        rw [ownObs_ids]
        refine ⟨fun h => h.elim (fun h => by simp only [inR] at h; omega) no1, List.nodup_append.2 ⟨by rw [numd_ids]; exact List.nodup_range', O.nd, fun a ha c hc hac => ?_⟩⟩
        subst hac
        exact no2 a (ownObs_ids.1 (Ids.map.2 ha)) (Ids.map.2 hc)
      · rcases List.mem_cons.1 hx with hx | hx
        · cases hx; exact Or.inr ⟨by simp [backIds], _, hob, Or.inl ⟨_, _, rfl, rfl⟩⟩
        · rcases List.mem_append.1 hx with hx | hx
          · have hr := ownObs_ids.1 ⟨x, hx⟩
            simp only [inR] at hr
            have := (ownObs_ok (D := fun _ _ => True) t y.1 x (by have := (mem_numd.1 hx).2; exact List.mem_of_getElem? this)).2
            exact Or.inl ⟨hr.1, by omega, this⟩
          · exact (O.kind o' x hx).imp (fun h => ⟨by omega, h.2⟩) fun h => ⟨by simp [backIds, h.1], h.2⟩
      · rcases List.mem_cons.1 hx with hx | hx
        · cases hx
          refine ownOut_ok t y.1 nx fun o' hr => ?_
          obtain ⟨x', hx'⟩ := (hids o').2 (Or.inr (Or.inl hr))
          exact hD o' x' hx'
        · rcases List.mem_append.1 hx with hx | hx
          · exact (ownObs_ok t y.1 x (by have := (mem_numd.1 hx).2; exact List.mem_of_getElem? this)).1
          · exact (O.ok D' fun o' x' hx' => hD o' x' (List.mem_cons_of_mem _ (List.mem_append.2 (Or.inr hx')))).2 o' x hx
      · exact b1.glue j1 (by rintro b' k' ⟨rfl, j, hj, rfl⟩; exact Or.inl (z1 j hj)) (fun b' k' h => h.elim (fun h => Or.inl (z2 _ _ h)) fun h => h.elim (fun h => Or.inl (z3 _ _ h)) fun h => Or.inr (rmono _ _ h)) (fun o' ho' => (hids o').2 (Or.inl ho')) fun o' ho' => (hids o').2 (Or.inr ho')
      · rcases List.mem_cons.1 ho' with hh | hh
        · subst hh; exact (if_pos rfl).trans hloc.symm
        · have hno : o' ≠ o := fun h => h5.1 (h ▸ hh)
          have hlt := h6 o' (by simp [backIds, hh])
          unfold glueL
          rw [if_neg hno, if_neg (by simp only [inR]; omega)]
          exact l2 o' hh
      · have hB := hX.left fun o' ho' => (hids o').2 (Or.inl ho')
        have hRR := hX.right b1 j1 hbz fun o' ho' => ⟨(hids o').2 (Or.inr ho'), fun h => by subst h; exact ho'.elim (fun h => by simp only [inR] at h; omega) no1⟩
        have hA := hRR.left fun o' ho' => Or.inl ho'
        have hC := hRR.right m1 l1 d1' fun o' ho' => ⟨Or.inr ho', fun h => no2 o' h ho'⟩
        obtain ⟨w1, w2⟩ := m2 X' hA (hO.at fun r hr => List.mem_cons_of_mem _ (List.mem_append.2 (Or.inl hr)))
        obtain ⟨w3, _⟩ := l3 X' hC fun o' x hx => hO o' x (List.mem_cons_of_mem _ (List.mem_append.2 (Or.inr hx)))
        intro o' x hx
        rcases List.mem_cons.1 hx with hx | hx
        · cases hx; exact box_rel (L := L) (r := fun _ => True) hB hm w1 ho.len hc
        · exact (w2.obs.append w3) o' x hx
  | .mut e :: ms, y, us, bs, nx, n, p, gs, N, h1, h2, h3, h4, h5, h6, hN => by
    obtain ⟨a, n0, cap, us', Z2, Z3, rfl, z2, z3, d1, ho, h1⟩ := h1
    rcases h2 with ⟨a', cap', us2, o, xs, v, bs', he, rfl, hob, hloc, h2⟩ | ⟨a', cap', us2, o, i, c, u, old, ys, v, bs', he, rfl, hinn, h2⟩
    · cases he
      simp only [backPuts] at h3
      cases hb : backPuts nx ms y.2 bs' with
      | none => rw [hb] at h3; cases h3
      | some r =>
        obtain ⟨p', n', g'⟩ := r
        rw [hb] at h3
        simp only [Option.some.injEq, Prod.mk.injEq] at h3
        obtain ⟨rfl, rfl, rfl⟩ := h3
        simp only [backIds, List.nodup_cons] at h5
        have hon := h6 o (by simp [backIds])
        obtain ⟨q', rfl, O⟩ := outs_objs F dom (ms := ms) h1 h2 hb (fun b hb => h4 b (List.mem_cons_of_mem _ hb)) h5.2 (fun o' ho' => h6 o' (by simp [backIds, ho'])) fun b k h => hN b k (z3 b k h)
        obtain ⟨g1, L1, a1, cap1, m1, he1, m3, m2⟩ := own_objs_arr o ho
        cases he1
        obtain ⟨g, L, l1, l2, l3⟩ := O.laid
        have d1' : ∀ b' k', Z2 b' k' → ¬ (Z3 b' k' ∨ retZ X Zc (backIds bs') b' k') := fun b' k' h h' => h'.elim (d1 _ _ h) fun ⟨o2, m2, _, hw2, hc2⟩ => (hN b' k' (z2 _ _ h)).elim hc2 fun h => by have := dom _ _ _ _ hw2; omega
        have no1 : ¬ Ids q' o := fun h => (O.ids h).elim (fun h => by omega) h5.1
        have hlen : llen y.1 = llen xs := by
          have := h4 _ (List.mem_cons_self ..)
          unfold nsame at this
          exact eq_of_beq this
        refine ⟨(o, .arr e y.1 true true (v + 1)) :: q', rfl, ⟨O.le, ?_, fun o' x hx => ?_, fun D' hD => ⟨trivial, fun o' x hx => ?_⟩, glue g1 g, glueL (· = o) L1 L, ?_, fun o' ho' => ?_, fun X' hX hO => ⟨?_, rfl⟩⟩⟩
        · simp only [List.map_cons, List.nodup_cons, ← Ids.map]
          exact ⟨no1, O.nd⟩
        · rcases List.mem_cons.1 hx with hx | hx
          · cases hx; exact Or.inr ⟨by simp [backIds], _, hob, Or.inr ⟨e, xs, y.1, v, rfl, rfl, hlen⟩⟩
          · exact (O.kind o' x hx).imp id fun h => ⟨by simp [backIds, h.1], h.2⟩
        · rcases List.mem_cons.1 hx with hx | hx
          · cases hx; trivial
          · exact (O.ok D' fun o' x' hx' => hD o' x' (List.mem_cons_of_mem _ hx')).2 o' x hx
        · exact m1.glue l1 (fun _ _ h => Or.inl (z2 _ _ h)) (fun b' k' h => h.elim (fun h => Or.inl (z3 _ _ h)) fun ⟨o2, m2, h1, h2⟩ => Or.inr ⟨o2, m2, List.mem_cons_of_mem _ h1, h2⟩) (fun o' ho' => Ids.cons.2 (Or.inl ho')) fun o' ho' => Ids.cons.2 (Or.inr ho')
        · rcases List.mem_cons.1 ho' with hh | hh
          · subst hh; exact ((if_pos rfl).trans m3).trans hloc.symm
          · have hno : o' ≠ o := fun h => h5.1 (h ▸ hh)
            unfold glueL
            rw [if_neg hno]
            exact l2 o' hh
        · have hA := hX.left fun o' ho' => Ids.cons.2 (Or.inl ho')
          have hC := hX.right m1 l1 d1' fun o' ho' => ⟨Ids.cons.2 (Or.inr ho'), fun h => by subst h; exact no1 ho'⟩
          obtain ⟨w3, _⟩ := l3 X' hC fun o' x hx => hO o' x (List.mem_cons_of_mem _ hx)
          intro o' x hx
          rcases List.mem_cons.1 hx with hx | hx
          · cases hx; exact m2 X' hA _
          · exact w3 o' x hx
    · cases he
      simp only [backPuts] at h3
      cases hf : putF u c (.sl e) y.1 with
      | none => rw [hf] at h3; cases h3
      | some f =>
        cases hb : backPuts nx ms y.2 bs' with
        | none => rw [hf, hb] at h3; cases h3
        | some r =>
          obtain ⟨p', n', g'⟩ := r
          rw [hf, hb] at h3
          simp only [Option.some.injEq, Prod.mk.injEq] at h3
          obtain ⟨rfl, rfl, rfl⟩ := h3
          simp only [backIds, List.nodup_cons] at h5
          have hon := h6 o (by simp [backIds])
          obtain ⟨q', rfl, O⟩ := outs_objs F dom (ms := ms) h1 h2 hb (fun b hb => h4 b (List.mem_cons_of_mem _ hb)) h5.2 (fun o' ho' => h6 o' (by simp [backIds, ho'])) fun b k h => hN b k (z3 b k h)
          obtain ⟨g, L, l1, l2, l3⟩ := O.laid
          have hlen : llen y.1 = llen ys := by
            have := h4 _ (List.mem_cons_self ..)
            unfold nsame at this
            exact eq_of_beq this
          rw [hlen] at ho
          obtain ⟨g1, m1, m1', m2⟩ := inn_obj F dom hN hinn z2 ho hf
          have no1 : ¬ Ids q' o := fun h => (O.ids h).elim (fun h => by omega) h5.1
          have nret : ∀ b' k', N b' k' → ¬ retZ X Zc (backIds bs') b' k' := fun b' k' h hr => by
            obtain ⟨o2, m2, _, hw2, hc2⟩ := hr
            exact (hN b' k' h).elim hc2 fun h => by have := dom _ _ _ _ hw2; omega
          have m1z : Laid W1 (fun b k => Z2 b k ∨ retZ X Zc [o] b k) g1 (· = o) := ⟨fun b k o' m h => ⟨m1' b k _ h, (m1.sub b k o' m h).2⟩⟩
          have d1' : ∀ b' k', (Z2 b' k' ∨ retZ X Zc [o] b' k') → ¬ (Z3 b' k' ∨ retZ X Zc (backIds bs') b' k') := by
            rintro b' k' (h | ⟨o1, m1, h1, hw1, hc1⟩) (h' | ⟨o2, m2, h2, hw2, hc2⟩)
            · exact d1 _ _ h h'
            · exact nret _ _ (z2 _ _ h) ⟨o2, m2, h2, hw2, hc2⟩
            · exact (hN b' k' (z3 _ _ h')).elim hc1 fun h => by have := dom _ _ _ _ hw1; omega
            · simp only [List.mem_singleton] at h1; subst h1
              rw [hw1] at hw2; cases hw2; exact h5.1 h2
          refine ⟨(o, .arr u (lmod old i f) true true (v + 1)) :: q', rfl, ⟨O.le, ?_, fun o' x hx => ?_, fun D' hD => ⟨trivial, fun o' x hx => ?_⟩, glue g1 g, glueL (· = o) X.loc L, ?_, fun o' ho' => ?_, fun X' hX hO => ⟨?_, rfl⟩⟩⟩
          · simp only [List.map_cons, List.nodup_cons, ← Ids.map]
            exact ⟨no1, O.nd⟩
          · rcases List.mem_cons.1 hx with hx | hx
            · cases hx; exact Or.inr ⟨by simp [backIds], _, hinn.1, Or.inr ⟨u, old, lmod old i f, v, rfl, rfl, lmod_len⟩⟩
            · exact (O.kind o' x hx).imp id fun h => ⟨by simp [backIds, h.1], h.2⟩
          · rcases List.mem_cons.1 hx with hx | hx
            · cases hx; trivial
            · exact (O.ok D' fun o' x' hx' => hD o' x' (List.mem_cons_of_mem _ hx')).2 o' x hx
          · exact m1z.glue l1 (fun b' k' h => h.elim (fun h => Or.inl (z2 _ _ h)) fun ⟨o2, m2, h1, h2⟩ => Or.inr ⟨o2, m2, by simp only [List.mem_singleton] at h1; subst h1; exact List.mem_cons_self .., h2⟩) (fun b' k' h => h.elim (fun h => Or.inl (z3 _ _ h)) fun ⟨o2, m2, h1, h2⟩ => Or.inr ⟨o2, m2, List.mem_cons_of_mem _ h1, h2⟩) (fun o' ho' => Ids.cons.2 (Or.inl ho')) fun o' ho' => Ids.cons.2 (Or.inr ho')
          · rcases List.mem_cons.1 ho' with hh | hh
            · subst hh; exact if_pos rfl
            · have hno : o' ≠ o := fun h => h5.1 (h ▸ hh)
              unfold glueL
              rw [if_neg hno]
              exact l2 o' hh
          · have hA := hX.left fun o' ho' => Ids.cons.2 (Or.inl ho')
            have hC := hX.right m1z l1 d1' fun o' ho' => ⟨Ids.cons.2 (Or.inr ho'), fun h => by subst h; exact no1 ho'⟩
            obtain ⟨w3, _⟩ := l3 X' hC fun o' x hx => hO o' x (List.mem_cons_of_mem _ hx)
            intro o' x hx
            rcases List.mem_cons.1 hx with hx | hx
            · cases hx; exact m2 X' X.loc hA rfl
            · exact w3 o' x hx

theorem rets_objs {W1 : World} {X : Cx} {Zc : Zone} (F : Frm Zc X.W W1) (dom : ∀ b k o m, X.own b k = some (o, m) → b < X.W.heap.size) : ∀ {ts : List Ty} {ms : List Md} {y : (resT ts ms).den} {vs us : List Value} {bs : List Back} {nx n : Nat} {p : Puts} {gs : List Bool} {N : Zone}, RetsOk W1 us ts ms y vs N → BackOk X Zc ms us bs →
    backPuts (resVals nx ts ms y).2.2.1 ms (resVals nx ts ms y).2.2.2 bs = some (p, n, gs) → (∀ b ∈ gs, b = true) → (backIds bs).Nodup → (∀ o ∈ backIds bs, ¬ (nx ≤ o ∧ o < n)) → (∀ b k, N b k → Zc b k ∨ X.W.heap.size ≤ b) →
    ∃ q, (resVals nx ts ms y).2.1 ++ p = putsOf q ∧ Objs W1 X (backIds bs) nx n (fun b k => N b k ∨ retZ X Zc (backIds bs) b k) q (resVals nx ts ms y).1 vs
  | [], ms, y, vs, us, bs, nx, n, p, gs, N, h1, h2, h3, h4, h5, h6, hN => by
    obtain ⟨rfl, h1⟩ := h1
    obtain ⟨q, h7, O⟩ := outs_objs F dom h1 h2 h3 h4 h5 h6 hN
    exact ⟨q, h7, O⟩
  | t :: ts, ms, y, vs, us, bs, nx, n, p, gs, N, h1, h2, h3, h4, h5, h6, hN => by
    obtain ⟨v, vs', cs, Z2, Z3, rfl, z2, z3, d1, ho, hs, h1⟩ := h1
    simp only [resVals] at h3 ⊢
    obtain ⟨q', hp, O⟩ := rets_objs F dom (nx := nx + ownN t) h1 h2 h3 h4 h5 (fun o' ho' => by have := h6 o' ho'; omega) fun b k h => hN b k (z3 b k h)
    obtain ⟨g1, L1, m1, m2⟩ := own_objs t nx ho
    obtain ⟨g, L, l1, l2, l3⟩ := O.laid
    have hle := O.le
    have d1' : ∀ b' k', Z2 b' k' → ¬ (Z3 b' k' ∨ retZ X Zc (backIds bs) b' k') := fun b' k' h h' => h'.elim (d1 _ _ h) fun ⟨o2, m2, _, hw2, hc2⟩ => (hN b' k' (z2 _ _ h)).elim hc2 fun h => by have := dom _ _ _ _ hw2; omega
    have no2 : ∀ o', inR nx (ownN t) o' → ¬ Ids q' o' := fun o' hr h => by
      simp only [inR] at hr
      exact (O.ids h).elim (fun h => by omega) fun h => by have := h6 o' h; omega
    have hids : ∀ o', Ids (numd nx (ownObs t y.1) ++ q') o' ↔ (inR nx (ownN t) o' ∨ Ids q' o') := fun o' => by rw [Ids.append, ownObs_ids]
    refine ⟨numd nx (ownObs t y.1) ++ q', by rw [numd_puts, List.append_assoc, hp]; simp only [putsOf, List.map_append], ⟨by omega, ?_, fun o' x hx => ?_, fun D' hD => ⟨⟨?_, ?_⟩, fun o' x hx => ?_⟩, glue g1 g, glueL (inR nx (ownN t)) L1 L, ?_, fun o' ho' => ?_, fun X' hX hO => ?_⟩⟩
    · rw [List.map_append]
      refine List.nodup_append.2 ⟨by rw [numd_ids]; exact List.nodup_range', O.nd, fun a ha c hc hac => ?_⟩
      subst hac
      exact no2 a (ownObs_ids.1 (Ids.map.2 ha)) (Ids.map.2 hc)
    · rcases List.mem_append.1 hx with hx | hx
      · have hr := ownObs_ids.1 ⟨x, hx⟩
        simp only [inR] at hr
        have := (ownObs_ok (D := fun _ _ => True) t y.1 x (by have := (mem_numd.1 hx).2; exact List.mem_of_getElem? this)).2
        exact Or.inl ⟨hr.1, by omega, this⟩
      · exact (O.kind o' x hx).imp (fun h => ⟨by omega, h.2⟩) id
    · refine wrap_ok (ownOut_ok t y.1 nx fun o' hr => ?_)
      obtain ⟨x', hx'⟩ := (hids o').2 (Or.inl hr)
      exact hD o' x' hx'
    · exact (O.ok D' fun o' x' hx' => hD o' x' (List.mem_append.2 (Or.inr hx'))).1
    · rcases List.mem_append.1 hx with hx | hx
      · exact (ownObs_ok t y.1 x (by have := (mem_numd.1 hx).2; exact List.mem_of_getElem? this)).1
      · exact (O.ok D' fun o' x' hx' => hD o' x' (List.mem_append.2 (Or.inr hx'))).2 o' x hx
    · exact m1.glue l1 (fun _ _ h => Or.inl (z2 _ _ h)) (fun b' k' h => h.elim (fun h => Or.inl (z3 _ _ h)) Or.inr) (fun o' ho' => (hids o').2 (Or.inl ho')) fun o' ho' => (hids o').2 (Or.inr ho')
    · have hlt := h6 o' ho'
      unfold glueL
      rw [if_neg (by simp only [inR]; omega)]
      exact l2 o' ho'
    · have hA := hX.left fun o' ho' => (hids o').2 (Or.inl ho')
      have hC := hX.right m1 l1 d1' fun o' ho' => ⟨(hids o').2 (Or.inr ho'), fun h => no2 o' h ho'⟩
      obtain ⟨w1, w2⟩ := m2 X' hA (hO.at fun r hr => List.mem_append.2 (Or.inl hr))
      obtain ⟨w3, w4⟩ := l3 X' hC fun o' x hx => hO o' x (List.mem_append.2 (Or.inr hx))
      exact ⟨w2.obs.append w3, ⟨v, vs', rfl, wrap_rel w1 hs, w4⟩⟩
end Go.Evr

namespace Go.Evr
section
variable {C : Ctx} {P : Program}
variable {X : Cx} {D : Nat → Nat → Prop} {E : Env} {S : St} {tm : List Value} {nx : Nat} {l : List Nat}

theorem findE_some {f : Nat} {vs : List FV} : ∀ {l : List Entry} {en : Entry}, findE f vs l = some en → en ∈ l ∧ en.fid = f
  | e :: l, en, h => by
    simp only [findE] at h
    split at h
    · rename_i hc; cases h; exact ⟨List.mem_cons_self .., hc.1⟩
    · obtain ⟨h1, h2⟩ := findE_some h; exact ⟨List.mem_cons_of_mem _ h1, h2⟩

theorem tup_rel {l : List FV} {vs : List Value} (h : LRel X l vs) : VRel X (tupF l) (tupled vs) := by
  match l, vs, h with
  | [], vs, h => cases h; exact ⟨[], rfl, rfl⟩
  | [f], vs, h =>
    obtain ⟨v, us, rfl, h1, h2⟩ := h
    cases h2; exact h1
  | f :: f2 :: l, vs, h =>
    obtain ⟨v, us, rfl, h1, h2⟩ := h
    obtain ⟨v2, us2, rfl, h3, h4⟩ := h2
    exact ⟨_, rfl, v, _, rfl, h1, v2, us2, rfl, h3, h4⟩
theorem tup_ok {D : Nat → Nat → Prop} {l : List FV} (h : okL D l) : (tupF l).ok D := by
  match l, h with
  | [], h => exact h
  | [f], h => exact h.1
  | f :: f2 :: l, h => exact h

theorem Frm.mono {R R' : Zone} {a b : World} (h : Frm R a b) (hz : ∀ b k, R b k → R' b k) : Frm R' a b :=
  ⟨h.os, h.tape, h.output, h.size, fun b hb hk => h.block b hb fun k hr => hk k (hz b k hr), fun b k v hk hv => h.cell b k v (fun hr => hk (hz b k hr)) hv, fun b k hb hk => h.frozen b k hb fun hr => hk (hz b k hr)⟩

theorem call_done (I : Inv X D E S tm) {f : Nat} {vs : List FV} {us : List Value} {q : Req} (h : asked C nx f vs S.ob = some (l, q)) (hr : LRel X vs us) {y : q.en.R} (hc : CallOk P q.en q.x y)
    {e : Eff} (hfr : ∀ o, nx ≤ o → o < e.nx → ¬ D o 0) (hf : q.fin y = some e) (g : ∀ b ∈ e.guards, b = true) : FnOk P f us.toArray X.W fun v w' => Done X D E S tm nx e v w' := by
  unfold asked at h
  cases he : findE f vs C.es with
  | none => rw [he] at h; cases h
  | some en =>
    rw [he] at h
    simp only [] at h
    obtain ⟨_, hfid⟩ := findE_some he
    obtain ⟨l1, c, l2, z, h1, h2, hl⟩ := Rd.bind_some h
    split at h2
    · rename_i hnd
      simp only [Bool.and_eq_true] at hnd
      obtain ⟨hnd, hdj⟩ := hnd
      have hz : q = z := (Prod.mk.inj hl).2
      have hz2 := (Prod.mk.inj (Rd.pure_some h2)).2
      have hz3 := hz.trans hz2
      clear h2 hl
      subst hz3
      rw [obF I] at h1
      obtain ⟨Zc, a0, a1, a2, a3, a4, a5⟩ := collect_ok (obs' I) h1 hr (nodupB_iff.1 hnd)
      have hlt : ∀ o ∈ backIds c.back, ¬ (nx ≤ o ∧ o < e.nx) := fun o ho hh => by
        obtain ⟨x, hx⟩ := a5 o (a4 o ho)
        exact hfr o hh.1 hh.2 (I.dob o x ((I.ob o).symm.trans hx))
      rw [← hfid]
      refine (hc X.W us _ Zc (a1 _ fun b k h => h) fun b k hv hz => ?_).mono fun v w' hw => ?_
      · obtain ⟨o, m, ho, hw⟩ := a0 _ _ hz
        rcases hv with hv | ⟨o', m', ho', hw'⟩
        · rw [hv] at hw; cases hw
        · rw [hw] at hw'; cases hw'
          have := List.all_eq_true.1 hdj o ho
          simp [ho'] at this
      · obtain ⟨vs', rfl, F, R⟩ := hw
        simp only [] at hf
        cases hb : backPuts (resVals nx en.rs en.ps y).2.2.1 en.ps (resVals nx en.rs en.ps y).2.2.2 c.back with
        | none => rw [hb] at hf; cases hf
        | some r =>
          obtain ⟨p, n, gs⟩ := r
          rw [hb] at hf
          cases hf
          obtain ⟨qs, hp, O⟩ := rets_objs F (fun b k o m h => (I.dom b k o m h).1) R a2 hb g a3 hlt fun b k h => h
          obtain ⟨g', L, l1, l2, l3⟩ := O.laid
          rw [List.append_assoc, hp]
          refine Done.change I hfr O.le O.nd (F.mono a0) ⟨fun b k o m h => ⟨(l1.sub b k o m h).1.elim (fun h => h.imp (a0 b k) id) fun ⟨o2, m2, h1, h2, _⟩ => Or.inl ⟨o2, m2, a4 _ h1, h2⟩, (l1.sub b k o m h).2⟩⟩ (fun o x ho => (O.kind o x ho).imp id fun h => ⟨a4 o h.1, l2 o h.1, h.2⟩) (fun X' hX hO => ?_) fun D' hD => ?_
          · obtain ⟨w1, w2⟩ := l3 X' hX hO
            exact ⟨w1, tup_rel w2⟩
          · obtain ⟨w1, w2⟩ := O.ok D' hD
            exact ⟨tup_ok w1, w2⟩
    · cases h2
end
end Go.Evr

namespace Go.Evr

/-! ### An operation depends on no other objects than those that it has looked at -/
def Local {α : Type} (m : Rd α) : Prop := ∀ h h' l a, m h = some (l, a) → (∀ o ∈ l, h' o = h o) → m h' = some (l, a)
section
variable {α β : Type}
theorem Local.pure (a : α) : Local (Rd.pure a) := fun _ _ _ _ e _ => e
theorem Local.fail : Local (Rd.fail : Rd α) := fun _ _ _ _ e _ => by cases e
theorem Local.of (a : Option α) : Local (Rd.of a) := by cases a with | none => exact Local.fail | some a => exact Local.pure a
theorem Local.look (o : Nat) : Local (Rd.look o) := fun h h' l a e hl => by
  obtain ⟨x, hx, he⟩ := Rd.look_some e
  cases he
  unfold Rd.look
  rw [hl o (by simp), hx]
theorem Local.bind {m : Rd α} {f : α → Rd β} (hm : Local m) (hf : ∀ a, Local (f a)) : Local (m.bind f) := fun h h' l a e hl => by
  obtain ⟨l1, x, l2, b, h1, h2, he⟩ := Rd.bind_some e
  cases he
  unfold Rd.bind
  rw [hm h h' l1 x h1 fun o ho => hl o (by simp [ho])]
  simp only []
  rw [hf x h h' l2 a h2 fun o ho => hl o (by simp [ho])]
theorem Local.tap {m : Rd α} (hm : Local m) : Local m.tap := fun h h' l a e hl => by
  obtain ⟨l', x⟩ := a
  obtain ⟨h1, h2⟩ := Rd.tap_some e
  simp only [] at h1 h2
  subst h2
  unfold Rd.tap
  rw [hm h h' _ _ h1 hl]
theorem Local.ite {c : Prop} [Decidable c] {m m' : Rd α} (h : Local m) (h' : Local m') : Local (if c then m else m') := by split <;> assumption
end

theorem tagOk_local (o : Nat × Nat) : Local (tagOk o) := by
  refine (Local.look _).bind fun x => ?_
  cases x with
  | box _ => exact Local.fail
  | arr e xs l d v => exact Local.ite (Local.pure _) Local.fail
theorem tagChk_local (t : Tag) : Local (tagChk t) := by
  cases t with
  | none => exact Local.pure _
  | some q => exact tagOk_local _
theorem readSl_local (e : Ty) (f : FV) : Local (readSl e f) := by
  cases f with
  | nsl => exact Local.pure _
  | isl t e' xs =>
    cases t with
    | none => exact Local.of _
    | some q => exact (tagOk_local _).bind fun _ => Local.of _
  | fsl o => exact (Local.look _).bind fun x => by cases x <;> first | exact Local.of _ | exact Local.fail
  | osl o lo n => exact (Local.look _).bind fun x => by cases x <;> first | exact Local.of _ | exact Local.fail
  | _ => exact Local.fail
theorem implode_local : ∀ (t : Ty) (cs : List FV), Local (implode t cs)
  | .int k, [] => Local.fail
  | .int k, c :: cs => by cases c <;> first | exact Local.ite (Local.pure _) Local.fail | exact Local.fail
  | .bool, [] => Local.fail
  | .bool, c :: cs => by cases c <;> first | exact Local.pure _ | exact Local.fail
  | .str, [] => Local.fail
  | .str, c :: cs => by cases c <;> first | exact Local.pure _ | exact Local.fail
  | .sl e, [] => Local.fail
  | .sl e, c :: cs => (readSl_local e c).bind fun _ => Local.pure _
  | .unit, _ => Local.pure _
  | .pair a b, cs => (implode_local a cs).bind fun x => (implode_local b x.2).bind fun _ => Local.pure _
  | .st t, cs => implode_local t cs
  | .ref, [] => Local.fail
  | .ref, _ :: _ => Local.fail
theorem readVal_local (t : Ty) (f : FV) : Local (readVal t f) := by
  unfold readVal
  cases f.cells? with
  | none => exact Local.fail
  | some cs => exact (implode_local t cs).bind fun _ => Local.pure _
theorem ownSl_local (e : Ty) (f : FV) : Local (ownSl e f) := by
  cases f with
  | nsl => exact Local.pure _
  | fsl o => 
    refine (Local.look _).bind fun x => ?_
    cases x with
    | box _ => exact Local.fail
    | arr e xs l d v => cases l <;> cases d <;> first | exact (Local.of _).bind fun _ => Local.pure _ | exact Local.fail
  | osl o lo n => 
    refine (Local.look _).bind fun x => ?_
    cases x with
    | box _ => exact Local.fail
    | arr e xs l d v => cases l <;> cases d <;> first | exact (Local.of _).bind fun _ => Local.pure _ | exact Local.fail
  | _ => exact Local.fail
theorem ownCells_local : ∀ (t : Ty) (cs : List FV), Local (ownCells t cs)
  | .int k, [] => Local.fail
  | .int k, c :: cs => by cases c <;> first | exact Local.ite (Local.pure _) Local.fail | exact Local.fail
  | .bool, [] => Local.fail
  | .bool, c :: cs => by cases c <;> first | exact Local.pure _ | exact Local.fail
  | .str, [] => Local.fail
  | .str, c :: cs => by cases c <;> first | exact Local.pure _ | exact Local.fail
  | .sl e, [] => Local.fail
  | .sl e, c :: cs => (ownSl_local e c).bind fun _ => Local.pure _
  | .unit, _ => Local.pure _
  | .pair a b, cs => (ownCells_local a cs).bind fun x => (ownCells_local b x.2).bind fun _ => Local.pure _
  | .st t, cs => ownCells_local t cs
  | .ref, [] => Local.fail
  | .ref, _ :: _ => Local.fail

/-- Objects of which it is asked whether they are owned. -/
def asksOf : List FV → List Nat
  | [] => []
  | .osl o _ _ :: cs => o :: asksOf cs
  | .fsl o :: cs => o :: asksOf cs
  | _ :: cs => asksOf cs
theorem ownAll_congr {h h' : Nat → Option Ob} : ∀ {cs : List FV}, (∀ o ∈ asksOf cs, h' o = h o) → ownAll h' cs = ownAll h cs
  | [], _ => rfl
  | c :: cs, k => by
    cases c with
    | osl o lo n => simp only [ownAll]; rw [k o (by simp [asksOf]), ownAll_congr fun o ho => k o (by simp [asksOf, ho])]
    | fsl o => simp only [ownAll]; rw [k o (by simp [asksOf]), ownAll_congr fun o ho => k o (by simp [asksOf, ho])]
    | _ => simp only [ownAll]; rw [ownAll_congr (cs := cs) fun o ho => k o (by simpa [asksOf] using ho)]
theorem publish_local : ∀ (cs : List FV), Local (publish cs)
  | [] => Local.pure _
  | c :: cs => (publish_local cs).bind fun l => by
    cases c with
    | osl o lo n => exact (Local.look _).bind fun x => by cases x <;> first | exact Local.pure _ | exact Local.fail
    | fsl o => exact (Local.look _).bind fun x => by cases x <;> first | exact Local.pure _ | exact Local.fail
    | isl t e xs =>
      cases t with
      | none => exact Local.pure _
      | some q => exact (Local.look _).bind fun x => by cases x <;> first | exact Local.pure _ | exact Local.fail
    | _ => exact Local.pure _
theorem publish_asks {h : Nat → Option Ob} : ∀ {cs : List FV} {l : List Nat} {p : Puts}, publish cs h = some (l, p) → ∀ o ∈ asksOf cs, o ∈ l
  | [], _, _, _, _, ho => by cases ho
  | c :: cs, l, p, e, o, ho => by
    obtain ⟨l1, p1, l2, b, h1, h2, he⟩ := Rd.bind_some e
    cases he
    have key : ∀ q, (∃ f : Ob → Rd Puts, ((Rd.look q).bind f) h = some (l2, p)) → q ∈ l2 := by
      rintro q ⟨f, hf⟩
      obtain ⟨l3, x, l4, y, h3, h4, he⟩ := Rd.bind_some hf
      cases he
      obtain ⟨_, _, hh⟩ := Rd.look_some h3
      cases hh; simp
    cases c with
    | osl q lo n =>
      rcases List.mem_cons.1 ho with rfl | ho
      · exact List.mem_append.2 (Or.inr (key _ ⟨_, h2⟩))
      · exact List.mem_append.2 (Or.inl (publish_asks h1 o ho))
    | fsl q =>
      rcases List.mem_cons.1 ho with rfl | ho
      · exact List.mem_append.2 (Or.inr (key _ ⟨_, h2⟩))
      · exact List.mem_append.2 (Or.inl (publish_asks h1 o ho))
    | _ => exact List.mem_append.2 (Or.inl (publish_asks h1 o (by simpa [asksOf] using ho)))
theorem ownSl_asks {h : Nat → Option Ob} {e : Ty} {c : FV} {l : List Nat} {x : List e.den × List Nat} (k : ownSl e c h = some (l, x)) : ∀ o ∈ asksOf [c], o ∈ l := by
  have key : ∀ q, (∃ f : Ob → Rd (List e.den × List Nat), ((Rd.look q).bind f) h = some (l, x)) → q ∈ l := by
    rintro q ⟨f, hf⟩
    obtain ⟨l3, x, l4, y, h3, h4, he⟩ := Rd.bind_some hf
    cases he
    obtain ⟨_, _, hh⟩ := Rd.look_some h3
    cases hh; simp
  intro o ho
  cases c with
  | fsl q => simp [asksOf] at ho; subst ho; exact key _ ⟨_, k⟩
  | osl q lo n => simp [asksOf] at ho; subst ho; exact key _ ⟨_, k⟩
  | _ => simp [asksOf] at ho
theorem asksOf_cons (c : FV) (cs : List FV) : asksOf (c :: cs) = asksOf [c] ++ asksOf cs := by cases c <;> simp [asksOf]
/-- What is not among what is left over has been looked at. -/
theorem ownCells_asks {h : Nat → Option Ob} : ∀ (t : Ty) {cs : List FV} {l : List Nat} {x : (t.den × List Nat) × List FV}, ownCells t cs h = some (l, x) → ∀ o ∈ asksOf cs, o ∈ l ∨ o ∈ asksOf x.2
  | .int k, [], _, _, e => by cases e
  | .int k, c :: cs, l, x, e => by
    cases c <;> first | (cases e; done) | skip
    simp only [ownCells] at e
    split at e
    · cases e; intro o ho; exact Or.inr (by simpa [asksOf] using ho)
    · cases e
  | .bool, [], _, _, e => by cases e
  | .bool, c :: cs, l, x, e => by
    cases c <;> first | (cases e; done) | skip
    cases e; intro o ho; exact Or.inr (by simpa [asksOf] using ho)
  | .str, [], _, _, e => by cases e
  | .str, c :: cs, l, x, e => by
    cases c <;> first | (cases e; done) | skip
    cases e; intro o ho; exact Or.inr (by simpa [asksOf] using ho)
  | .sl e', [], _, _, e => by cases e
  | .sl e', c :: cs, l, x, e => by
    obtain ⟨l1, xs, l2, b, h1, h2, he⟩ := Rd.bind_some e
    cases h2
    simp only [List.append_nil] at he
    cases he
    intro o ho
    rw [asksOf_cons] at ho
    exact (List.mem_append.1 ho).imp (ownSl_asks h1 o) id
  | .unit, cs, _, _, e => by cases e; intro o ho; exact Or.inr ho
  | .pair a b, cs, l, x, e => by
    obtain ⟨l1, xa, l2, b', h1, h2, he⟩ := Rd.bind_some e
    obtain ⟨l3, xb, l4, b'', h3, h4, he'⟩ := Rd.bind_some h2
    cases h4
    cases he'
    cases he
    intro o ho
    rcases ownCells_asks a h1 o ho with ho | ho
    · exact Or.inl (List.mem_append.2 (Or.inl ho))
    · rcases ownCells_asks b h3 o ho with ho | ho
      · exact Or.inl (List.mem_append.2 (Or.inr (List.mem_append.2 (Or.inl ho))))
      · exact Or.inr ho
  | .st t, cs, l, x, e => ownCells_asks t (x := x) e
  | .ref, [], _, _, e => by cases e
  | .ref, _ :: _, _, _, e => by cases e
/-- Cells are taken one for each. -/
theorem ownCells_rest {h : Nat → Option Ob} : ∀ (t : Ty) {cs : List FV} {l : List Nat} {x : (t.den × List Nat) × List FV}, ownCells t cs h = some (l, x) → cs.length = t.cells + x.2.length
  | .int k, [], _, _, e => by cases e
  | .int k, c :: cs, l, x, e => by
    cases c <;> first | (cases e; done) | skip
    simp only [ownCells] at e
    split at e
    · cases e; simp [Ty.cells]; omega
    · cases e
  | .bool, [], _, _, e => by cases e
  | .bool, c :: cs, l, x, e => by
    cases c <;> first | (cases e; done) | skip
    cases e; simp [Ty.cells]; omega
  | .str, [], _, _, e => by cases e
  | .str, c :: cs, l, x, e => by
    cases c <;> first | (cases e; done) | skip
    cases e; simp [Ty.cells]; omega
  | .sl e', [], _, _, e => by cases e
  | .sl e', c :: cs, l, x, e => by
    obtain ⟨l1, xs, l2, b, h1, h2, he⟩ := Rd.bind_some e
    cases h2
    cases he; simp [Ty.cells]; omega
  | .unit, cs, _, _, e => by cases e; simp [Ty.cells]
  | .pair a b, cs, l, x, e => by
    obtain ⟨l1, xa, l2, b', h1, h2, he⟩ := Rd.bind_some e
    obtain ⟨l3, xb, l4, b'', h3, h4, he'⟩ := Rd.bind_some h2
    cases h4
    cases he'
    cases he
    have r1 := ownCells_rest a h1
    have r2 := ownCells_rest b h3
    simp only [Ty.cells]
    omega
  | .st t, cs, l, x, e => ownCells_rest t (x := x) e
  | .ref, [], _, _, e => by cases e
  | .ref, _ :: _, _, _, e => by cases e

theorem rowIn_local (t : Ty) (v : FV) : Local (rowIn t v) := by
  unfold rowIn
  cases v.cells? with
  | none => exact Local.fail
  | some cs =>
    intro h h' l a e hl
    simp only [] at e ⊢
    cases hc : Nat.beq cs.length t.cells with
    | false => rw [hc] at e; cases e
    | true =>
      rw [hc] at e
      simp only [br] at e ⊢
      cases ha : ownAll h cs with
      | true =>
        rw [ha] at e
        simp only [] at e
        have hk := e
        obtain ⟨l1, x, l2, b, h1, h2, he⟩ := Rd.bind_some hk
        have hq : ownAll h' cs = true := by
          rw [ownAll_congr (h := h), ha]
          intro o ho
          refine hl o ?_
          rcases ownCells_asks t h1 o ho with ho | ho
          · cases he; exact List.mem_append.2 (Or.inl ho)
          · have := ownCells_rest t h1
            have hc' := Nat.eq_of_beq_eq_true hc
            have : x.2 = [] := List.eq_nil_of_length_eq_zero (by omega)
            rw [this] at ho; cases ho
        rw [hq]
        exact ((ownCells_local t cs).bind fun x => Local.ite (Local.pure _) Local.fail) h h' l a e hl
      | false =>
        rw [ha] at e
        simp only [] at e
        have hk := e
        obtain ⟨l1, x, l2, b, h1, h2, he⟩ := Rd.bind_some hk
        obtain ⟨l3, p, l4, b', h3, h4, he'⟩ := Rd.bind_some h2
        have hq : ownAll h' cs = false := by
          rw [ownAll_congr (h := h), ha]
          intro o ho
          refine hl o ?_
          cases he'; cases he
          have := publish_asks h3 o ho
          simp [this]
        rw [hq]
        exact ((implode_local t cs).bind fun x => (publish_local cs).bind fun l => Local.pure _) h h' l a e hl

theorem rowsIn_local (e : Ty) : ∀ (n : Nat) (ps : List (Nat × FV)), Local (rowsIn e n ps)
  | 0, _ => Local.pure _
  | n + 1, ps => (rowsIn_local e n ps).bind fun r => by
    split
    · exact (rowIn_local e _).bind fun _ => Local.pure _
    · exact Local.pure _
end Go.Evr

namespace Go.Evr
theorem val_local (v : FV) (nx : Nat) : Local (val v nx) := Local.pure _
theorem valG_local (g : List Bool) (v : FV) (nx : Nat) : Local (valG g v nx) := Local.pure _
theorem binK_local (nx : Nat) (op : BinOp) (k : IntKind) (x y : Int) : Local (binK nx op k x y) := by
  unfold binK
  cases op <;> first | exact val_local _ _ | exact valG_local _ _ _
theorem evBin_local (C : Ctx) (nx : Nat) (op : BinOp) (t : Nat) (x y : FV) : Local (evBin C nx op t x y) := by
  unfold evBin
  split
  · split <;> first | exact binK_local _ _ _ _ _ | exact Local.ite (binK_local _ _ _ _ _) Local.fail
  · split <;> first | exact val_local _ _ | exact valG_local _ _ _ | exact Local.fail
  · refine Local.ite ?_ Local.fail
    split <;> first | exact val_local _ _ | exact Local.fail
  · exact Local.fail
theorem slLen_local (x : FV) : Local (slLen x) := by
  cases x with
  | nsl => exact Local.pure _
  | isl t e xs =>
    cases t with
    | none => exact Local.pure _
    | some q => exact (tagOk_local _).bind fun _ => Local.pure _
  | fsl o =>
    refine (Local.look _).bind fun x => ?_
    cases x <;> first | exact Local.pure _ | exact Local.fail
  | osl o lo n =>
    refine (Local.look _).bind fun x => ?_
    cases x <;> first | exact Local.pure _ | exact Local.fail
  | _ => exact Local.fail
theorem evNil_local (C : Ctx) (nx : Nat) (op : BinOp) (t : Nat) (x : FV) : Local (evNil C nx op t x) := by
  unfold evNil
  refine Local.ite ?_ Local.fail
  split
  · exact (slLen_local _).bind fun _ => val_local _ _
  · exact Local.fail
theorem evUn_local (nx : Nat) (op : UnOp) (x : FV) : Local (evUn nx op x) := by
  unfold evUn
  split <;> first | exact val_local _ _ | exact Local.fail
theorem evConv_local (C : Ctx) (nx s d : Nat) (x : FV) : Local (evConv C nx s d x) := by
  unfold evConv
  split
  · refine Local.ite ?_ Local.fail
    split <;> first | exact val_local _ _ | exact Local.fail
  · exact Local.ite (Local.ite (val_local _ _) (Local.ite Local.fail Local.fail)) Local.fail
  · exact Local.ite ((readSl_local _ _).bind fun _ => val_local _ _) Local.fail
theorem cellsAt_local (n : Nat) (f : FV) : Local (cellsAt n f) := by
  cases f with
  | ptr o off =>
    refine (Local.look _).bind fun x => ?_
    cases x <;> first | exact Local.pure _ | exact Local.fail
  | ept o i off =>
    refine (Local.look _).bind fun x => ?_
    cases x <;> first | exact Local.pure _ | exact Local.fail
  | vpt t cs =>
    cases t with
    | none => exact Local.pure _
    | some q => exact (tagOk_local _).bind fun _ => Local.pure _
  | _ => exact Local.fail
theorem evStore_local (C : Ctx) (nx t : Nat) (a v : FV) : Local (evStore C nx t a v) := by
  cases a with
  | ptr o off =>
    refine (Local.look _).bind fun x => ?_
    cases x with
    | arr _ _ _ _ _ => exact Local.fail
    | box cs =>
      simp only []
      split
      · exact Local.ite (Local.pure _) Local.fail
      · exact Local.fail
  | ept o i off =>
    refine (Local.look _).bind fun x => ?_
    cases x with
    | box _ => exact Local.fail
    | arr e xs l d v' =>
      cases l with
      | false => exact Local.fail
      | true =>
        simp only []
        split
        · refine Local.ite ((rowIn_local _ _).bind fun r => ?_) (Local.ite ((readVal_local _ _).bind fun x => ?_) Local.fail)
          · split
            · exact Local.ite (Local.pure _) Local.fail
            · exact Local.fail
          · split
            · exact Local.pure _
            · exact Local.fail
        · exact Local.fail
  | _ => exact Local.fail
theorem evSlice_local (C : Ctx) (nx t : Nat) (x : FV) (lo hi mx : Option FV) : Local (evSlice C nx t x lo hi mx) := by
  unfold evSlice
  split
  · refine Local.ite ?_ Local.fail
    split <;> first | exact val_local _ _ | exact Local.fail
  · split
    · refine Local.ite ?_ Local.fail
      split <;> first | exact valG_local _ _ _ | exact Local.fail
    · refine Local.ite ?_ Local.fail
      split <;> first | exact valG_local _ _ _ | exact Local.fail
    · refine (tagChk_local _).bind fun _ => Local.ite ?_ Local.fail
      split <;> first | exact valG_local _ _ _ | exact Local.fail
    · refine (Local.look _).bind fun x => ?_
      cases x with
      | box _ => exact Local.fail
      | arr e xs l d v =>
        refine Local.ite ?_ Local.fail
        split <;> first | exact valG_local _ _ _ | exact Local.fail
    · refine (Local.look _).bind fun x => ?_
      cases x with
      | box _ => exact Local.fail
      | arr e xs l d v =>
        refine Local.ite ?_ Local.fail
        split <;> first | exact valG_local _ _ _ | exact Local.fail
    · exact Local.fail
theorem evIndexAddr_local (C : Ctx) (nx t : Nat) (x i : FV) : Local (evIndexAddr C nx t x i) := by
  unfold evIndexAddr
  split
  · split
    · refine (Local.look _).bind fun x => ?_
      cases x with
      | box _ => exact Local.fail
      | arr e xs l d v => exact Local.ite (valG_local _ _ _) Local.fail
    · refine (Local.look _).bind fun x => ?_
      cases x with
      | box _ => exact Local.fail
      | arr e xs l d v => exact Local.ite (valG_local _ _ _) Local.fail
    · exact (tagChk_local _).bind fun _ => Local.ite (valG_local _ _ _) Local.fail
    · exact Local.fail
  · exact Local.fail
theorem appended_local (e : Ty) (x : FV) : Local (appended e x) := by
  have key : Local (fun h => br e.deep (rowIn (.sl e) x h) (((readSl e x).bind fun ys => Rd.pure (ys, true, [])) h)) := by
    cases e.deep with
    | true => exact rowIn_local _ _
    | false => exact (readSl_local _ _).bind fun _ => Local.pure _
  cases x with
  | str s => exact (Local.of _).bind fun _ => Local.pure _
  | nsl => exact Local.pure _
  | agg _ => exact Local.fail
  | _ => exact key
theorem evAppend_local (C : Ctx) (nx t : Nat) (s x : FV) : Local (evAppend C nx t s x) := by
  unfold evAppend
  split
  · split
    · exact (appended_local _ _).bind fun r => Local.ite (Local.pure _) Local.fail
    · refine (Local.look _).bind fun x => ?_
      cases x with
      | box _ => exact Local.fail
      | arr e xs l d v =>
        cases l with
        | false => exact Local.fail
        | true => exact (Local.of _).bind fun _ => (appended_local _ _).bind fun _ => Local.ite (Local.pure _) Local.fail
    · refine (Local.look _).bind fun x => ?_
      cases x with
      | box _ => exact Local.fail
      | arr e xs l d v =>
        cases l with
        | false => exact Local.fail
        | true => exact (Local.of _).bind fun _ => (appended_local _ _).bind fun _ => Local.ite (Local.pure _) Local.fail
    · exact Local.fail
  · exact Local.fail
theorem evLen_local (C : Ctx) (nx t : Nat) (x : FV) : Local (evLen C nx t x) := by
  unfold evLen
  split
  · exact Local.ite (val_local _ _) Local.fail
  · exact Local.ite (val_local _ _) Local.fail
  · exact Local.ite (val_local _ _) Local.fail
  · refine Local.ite ((Local.look _).bind fun x => ?_) Local.fail
    cases x <;> first | exact val_local _ _ | exact Local.fail
  · exact Local.ite (val_local _ _) Local.fail
  · exact Local.fail
theorem evBuiltin_local (C : Ctx) (nx : Nat) (b : Builtin) (ts : List Nat) (vs : List FV) : Local (evBuiltin C nx b ts vs) := by
  unfold evBuiltin
  split
  · split
    · exact evLen_local _ _ _ _
    · exact Local.fail
  · split
    · exact Local.ite (evAppend_local _ _ _ _ _) Local.fail
    · exact Local.fail
  · exact Local.fail
  · split
    · exact val_local _ _
    · exact Local.fail
  · split
    · exact val_local _ _
    · exact Local.fail
  · exact Local.fail

theorem evOp_local (C : Ctx) (nx : Nat) (ev : Operand → FV) (op : Op) : Local (evOp C nx ev op) := by
  unfold evOp
  split
  · exact val_local _ _
  · exact val_local _ _
  · split <;> first | exact Local.pure _ | exact Local.fail
  · split
    · exact Local.ite (Local.pure _) Local.fail
    · exact Local.fail
  · split
    · split
      · exact Local.ite (val_local _ _) Local.fail
      · exact Local.fail
    · exact Local.fail
  · split
    · exact Local.ite ((rowsIn_local _ _ _).bind fun _ => Local.ite (Local.pure _) Local.fail) Local.fail
    · exact Local.fail
  · split
    · exact (cellsAt_local _ _).bind fun _ => Local.ite (val_local _ _) Local.fail
    · exact Local.fail
  · exact evStore_local _ _ _ _ _
  · split <;> first | exact val_local _ _ | exact Local.fail
  · exact Local.ite (evNil_local _ _ _ _ _) (evBin_local _ _ _ _ _ _)
  · exact evUn_local _ _ _
  · exact evConv_local _ _ _ _ _
  · exact val_local _ _
  · split <;> first | exact Local.pure _ | exact Local.fail
  · exact evSlice_local _ _ _ _ _ _ _
  · split
    · split
      · refine Local.ite Local.fail ?_
        split <;> first | exact val_local _ _ | exact Local.fail
      · exact Local.fail
    · exact Local.fail
  · split
    · split
      · exact Local.ite (val_local _ _) Local.fail
      · exact Local.fail
    · exact Local.fail
  · exact evIndexAddr_local _ _ _ _ _
  · refine Local.ite ?_ Local.fail
    split <;> first | exact valG_local _ _ _ | exact Local.fail
  · split
    · split <;> first | exact val_local _ _ | exact Local.fail
    · exact Local.fail
  · exact evBuiltin_local _ _ _ _ _
  · exact Local.fail

theorem collect_local : ∀ (ms : List Md) (vs : List FV), Local (collect ms vs)
  | [], [] => Local.pure _
  | [], _ :: _ => Local.fail
  | .view t :: ms, v :: vs => (Local.tap (Local.ite (readVal_local _ _) Local.fail)).bind fun _ => (collect_local ms vs).bind fun _ => Local.pure _
  | .ro t :: ms, v :: vs => (Local.tap ((cellsAt_local _ _).bind fun _ => Local.ite (implode_local _ _) Local.fail)).bind fun _ => (collect_local ms vs).bind fun _ => Local.pure _
  | .io t :: ms, v :: vs => by
    cases v with
    | ptr o off =>
      refine (Local.look _).bind fun x => ?_
      cases x with
      | arr _ _ _ _ _ => exact Local.fail
      | box cs => exact Local.ite ((ownCells_local _ _).bind fun _ => (collect_local ms vs).bind fun _ => Local.pure _) Local.fail
    | _ => exact Local.fail
  | .mut e :: ms, v :: vs => by
    cases v with
    | fsl o =>
      refine (Local.look _).bind fun x => ?_
      cases x with
      | box _ => exact Local.fail
      | arr e' xs l d v => cases l <;> cases d <;> first | exact (Local.of _).bind fun _ => (collect_local ms vs).bind fun _ => Local.pure _ | exact Local.fail
    | isl t e' zs =>
      cases t with
      | none => exact Local.fail
      | some q =>
        obtain ⟨q, p⟩ := q
        cases p with
        | none => exact Local.fail
        | some w =>
          refine (Local.look _).bind fun x => ?_
          cases x with
          | box _ => exact Local.fail
          | arr e' xs l d v => cases l <;> cases d <;> first | exact Local.ite ((Local.of _).bind fun _ => (collect_local ms vs).bind fun _ => Local.pure _) Local.fail | exact Local.fail
    | _ => exact Local.fail
  | .take e :: ms, v :: vs => (ownSl_local _ _).bind fun _ => (collect_local ms vs).bind fun _ => Local.pure _
  | .clo f a b :: ms, v :: vs => by
    cases v with
    | clo f' fs cs => exact Local.ite ((collect_local ms _).bind fun _ => Local.pure _) Local.fail
    | _ => exact Local.fail
  | .agg n :: ms, v :: vs => by
    cases v with
    | agg cs => exact Local.ite ((collect_local ms _).bind fun _ => Local.pure _) Local.fail
    | _ => exact Local.fail
  | .view _ :: _, [] => Local.fail
  | .ro _ :: _, [] => Local.fail
  | .io _ :: _, [] => Local.fail
  | .mut _ :: _, [] => Local.fail
  | .take _ :: _, [] => Local.fail
  | .clo _ _ _ :: _, [] => Local.fail
  | .agg _ :: _, [] => Local.fail
termination_by ms => ms.length

theorem asked_local (C : Ctx) (nx f : Nat) (vs : List FV) : Local (asked C nx f vs) := by
  unfold asked
  split
  · exact Local.fail
  · exact (collect_local _ _).bind fun _ => Local.ite (Local.pure _) Local.fail

/-- It depends on its operands alone. -/
theorem evOp_ev {C : Ctx} {nx : Nat} {ev ev' : Operand → FV} {op : Op} (h : ∀ x ∈ op.operands, ev' x = ev x) : evOp C nx ev' op = evOp C nx ev op := by
  have hl : ∀ l : Array Operand, (∀ x ∈ l, ev' x = ev x) → l.toList.map ev' = l.toList.map ev := fun l hl => List.map_congr_left fun x hx => hl x (by simpa using hx)
  have hp : ∀ l : Array (Nat × Operand), (∀ x ∈ l.toList.map (·.2), ev' x = ev x) → (l.toList.map fun p => (p.1, ev' p.2)) = l.toList.map fun p => (p.1, ev p.2) := fun l hl => List.map_congr_left fun x hx => by rw [hl x.2 (List.mem_map.2 ⟨x, hx, rfl⟩)]
  cases op with
  | move x => simp only [evOp]; rw [h x (by simp [Op.operands])]
  | assign x => simp only [evOp]; rw [h x (by simp [Op.operands])]
  | box t x => simp only [evOp]; rw [h x (by simp [Op.operands])]
  | build t ps => simp only [evOp]; rw [hp ps fun x hx => h x (by simp only [Op.operands]; simpa using hx)]
  | buildSlice t n ps => simp only [evOp]; rw [hp ps fun x hx => h x (by simp only [Op.operands]; simpa using hx)]
  | load t a => simp only [evOp]; rw [h a (by simp [Op.operands])]
  | store t a x => simp only [evOp]; rw [h a (by simp [Op.operands]), h x (by simp [Op.operands])]
  | nilCheck x => simp only [evOp]; rw [h x (by simp [Op.operands])]
  | binOp op t x y yt => simp only [evOp]; rw [h x (by simp [Op.operands]), h y (by simp [Op.operands])]
  | unOp op t x => simp only [evOp]; rw [h x (by simp [Op.operands])]
  | convert s d x => simp only [evOp]; rw [h x (by simp [Op.operands])]
  | makeFunc f a b =>
    cases f with
    | func f => simp only [evOp]; rw [hl a fun x hx => h x (by simp [Op.operands, hx]), hl b fun x hx => h x (by simp [Op.operands, hx])]
    | _ => rfl
  | makeSlice t a b => simp only [evOp]; rw [h a (by simp [Op.operands]), h b (by simp [Op.operands])]
  | slice t x lo hi mx =>
    simp only [evOp]
    rw [h x (by simp [Op.operands])]
    have ho : ∀ y : Option Operand, (∀ z ∈ y, ev' z = ev z) → y.map ev' = y.map ev := fun y hy => by cases y with | none => rfl | some z => simp [hy z rfl]
    rw [ho lo fun z hz => h z (by simp [Op.operands]; simp at hz; simp [hz]), ho hi fun z hz => h z (by simp [Op.operands]; simp at hz; simp [hz]), ho mx fun z hz => h z (by simp [Op.operands]; simp at hz; simp [hz])]
  | fieldAddr s x f => simp only [evOp]; rw [h x (by simp [Op.operands])]
  | field s x f => simp only [evOp]; rw [h x (by simp [Op.operands])]
  | indexAddr t x i => simp only [evOp]; rw [h x (by simp [Op.operands]), h i (by simp [Op.operands])]
  | index t x i => simp only [evOp]; rw [h x (by simp [Op.operands]), h i (by simp [Op.operands])]
  | extract x i => simp only [evOp]; rw [h x (by simp [Op.operands])]
  | call c =>
    obtain ⟨cal, args, ats⟩ := c
    cases cal with
    | builtin b => simp only [evOp]; rw [hl args fun x hx => h x (by simp [Op.operands, Call.operands, hx])]
    | _ => rfl
  | _ => rfl
end Go.Evr

namespace Go.Evr
theorem gd_some {α : Type} {r : α} : ∀ {gs : List Bool} {x : Option α}, gd gs x = some r → (∀ b ∈ gs, b = true) ∧ x = some r
  | [], _, h => ⟨by simp, h⟩
  | b :: bs, x, h => by
    cases b with
    | false => cases h
    | true =>
      obtain ⟨h1, h2⟩ := gd_some (gs := bs) h
      exact ⟨by simpa using h1, h2⟩
theorem br_none {α : Type} {b : Bool} {x : Option α} {r : α} (h : br b x none = some r) : b = true ∧ x = some r := by
  cases b with
  | true => exact ⟨rfl, h⟩
  | false => cases h
theorem bd_some {α β : Type} {o : Option α} {f : α → Option β} {r : β} (h : bd o f = some r) : ∃ a, o = some a ∧ f a = some r := by
  cases o with
  | none => cases h
  | some a => exact ⟨a, rfl, h⟩
theorem set_bool {S : St} {t : Nat} {q : Bool} (h : S.tmp t = .bool q) : S.set (some t) (.bool q) = S := by
  have ht : ∀ (l : List FV) (t : Nat), l.getD t .bad = .bool q → setL .bad l t (.bool q) = l := by
    intro l
    induction l with
    | nil => intro t h; simp at h
    | cons a l ih =>
      intro t h
      cases t with
      | zero => simp at h; simp [setL, h]
      | succ t => simp only [setL]; rw [ih t (by simpa using h)]
  unfold St.set
  simp only [ht S.tmps t h]

structure Stp where
  nx : Nat
  skip : Bool
  l : List Nat
  e : Eff

/-- An operation is done, as reckoned. -/
def Perf (C : Ctx) (P : Program) (rec : Rec) (nx : Nat) (o : Oper) (S : St) (l : List Nat) (e : Eff) : Prop :=
  (∃ c a b q, o.op = .pick c a b ∧ S.ev c = .bool q ∧ l = [] ∧ e = ⟨if q = true then S.ev a else S.ev b, [], nx, []⟩) ∨
  (∃ f args ats g first caps q y, o.op = .call ⟨.value f, args, ats⟩ ∧ S.ev f = .clo g first caps ∧ asked C nx g (first ++ args.toList.map S.ev ++ caps) S.ob = some (l, q) ∧ callE P rec q.en q.x = some y ∧ q.fin y = some e ∧ nx ≤ e.nx ∧ ∀ b ∈ e.guards, b = true) ∨
  (evOp C nx S.ev o.op S.ob = some (l, e) ∧ nx ≤ e.nx ∧ ∀ b ∈ e.guards, b = true)

def GuardS (ops : Array Oper) (o : Oper) (S : St) (skip : Bool) : Prop := match o.guard with
  | none => skip = false
  | some (j, want) => ∃ d q, (ops[j]?).bind (·.dst) = some d ∧ S.tmp d = .bool q ∧ skip = !(q == want)

structure StepOk (C : Ctx) (P : Program) (rec : Rec) (ops : Array Oper) (o : Oper) (S : St) (s : Stp) : Prop where
  g : GuardS ops o S s.skip
  skip : s.skip = true → s.l = [] ∧ s.e = ⟨.bad, [], s.nx, []⟩
  perf : s.skip = false → Perf C P rec s.nx o S s.l s.e

def Trace (C : Ctx) (P : Program) (rec : Rec) (ops : Array Oper) : Nat → St → List Oper → List Stp → St → Prop
  | _, S, [], tr, S' => tr = [] ∧ S' = S
  | nx, S, o :: os, tr, S' => ∃ s tr', tr = s :: tr' ∧ s.nx = nx ∧ StepOk C P rec ops o S s ∧ Trace C P rec ops s.e.nx (S.apply o.dst s.e) os tr' S'

section
variable {C : Ctx} {P : Program} {rec : Rec} {ops : Array Oper} {R : Type}

theorem evOne_some {nx : Nat} {o : Oper} {S : St} {K : Fp → St → Nat → Option R} {r : R} (h : evOne C P rec nx o S K = some r) :
    ∃ l e, Perf C P rec nx o S l e ∧ K (effFp l e) (S.apply o.dst e) e.nx = some r := by
  have evop : ∀ op, op = o.op → (match evOp C nx S.ev op S.ob with
      | some (l, e) => br (Nat.ble nx e.nx) (gd e.guards (K (effFp l e) (S.apply o.dst e) e.nx)) none
      | none => none) = some r → ∃ l e, Perf C P rec nx o S l e ∧ K (effFp l e) (S.apply o.dst e) e.nx = some r := by
    intro op hop h
    subst hop
    cases he : evOp C nx S.ev o.op S.ob with
    | none => rw [he] at h; cases h
    | some q =>
      obtain ⟨l, e⟩ := q
      rw [he] at h
      obtain ⟨h0, h⟩ := br_none h
      obtain ⟨h1, h2⟩ := gd_some h
      exact ⟨l, e, Or.inr (Or.inr ⟨he, Nat.ble_eq ▸ h0, h1⟩), h2⟩
  unfold evOne at h
  cases ho : o.op with
  | pick c a b =>
    rw [ho] at h
    simp only [] at h
    cases hc : S.ev c with
    | bool q =>
      rw [hc] at h
      cases q with
      | true => exact ⟨[], ⟨S.ev a, [], nx, []⟩, Or.inl ⟨c, a, b, true, ho, hc, rfl, rfl⟩, h⟩
      | false => exact ⟨[], ⟨S.ev b, [], nx, []⟩, Or.inl ⟨c, a, b, false, ho, hc, rfl, rfl⟩, h⟩
    | _ => rw [hc] at h; cases h
  | call c =>
    obtain ⟨cal, args, ats⟩ := c
    cases cal with
    | value f =>
      rw [ho] at h
      simp only [] at h
      cases hf : S.ev f with
      | clo g first caps =>
        rw [hf] at h
        simp only [] at h
        cases ha : asked C nx g (first ++ args.toList.map S.ev ++ caps) S.ob with
        | none => rw [ha] at h; cases h
        | some w =>
          obtain ⟨l, q⟩ := w
          rw [ha] at h
          obtain ⟨y, hy, h⟩ := bd_some h
          cases he : q.fin y with
          | none => rw [he] at h; cases h
          | some e =>
            rw [he] at h
            obtain ⟨h0, h⟩ := br_none h
            obtain ⟨h1, h2⟩ := gd_some h
            exact ⟨l, e, Or.inr (Or.inl ⟨f, args, ats, g, first, caps, q, y, ho, hf, ha, hy, he, Nat.ble_eq ▸ h0, h1⟩), h2⟩
      | _ => rw [hf] at h; cases h
    | invoke rv m => rw [ho] at h; exact evop _ ho.symm h
    | builtin b => rw [ho] at h; exact evop _ ho.symm h
  | _ => rw [ho] at h; exact evop _ ho.symm h

theorem trace_of : ∀ {os : List Oper} {nx : Nat} {acc : List Fp} {S : St} {K : List Fp → St → Option R} {r : R}, evOps C P rec ops nx os acc S K = some r →
    ∃ tr S', Trace C P rec ops nx S os tr S' ∧ K (acc ++ tr.map fun s => effFp s.l s.e) S' = some r
  | [], _, acc, S, K, r, h => ⟨[], S, ⟨rfl, rfl⟩, by simp only [evOps] at h; simpa using h⟩
  | o :: os, nx, acc, S, K, r, h => by
    have run : GuardS ops o S false → evOne C P rec nx o S (fun fp S nx => evOps C P rec ops nx os (acc ++ [fp]) S K) = some r →
        ∃ tr S', Trace C P rec ops nx S (o :: os) tr S' ∧ K (acc ++ tr.map fun s => effFp s.l s.e) S' = some r := by
      intro hg h
      obtain ⟨l, e, hp, h⟩ := evOne_some h
      obtain ⟨tr, S', ht, hk⟩ := trace_of h
      refine ⟨⟨nx, false, l, e⟩ :: tr, S', ⟨_, tr, rfl, rfl, ⟨hg, fun h => (by cases h), fun _ => hp⟩, ht⟩, ?_⟩
      simpa using hk
    have skip : GuardS ops o S true → evOps C P rec ops nx os (acc ++ [([], [])]) (S.set o.dst .bad) K = some r →
        ∃ tr S', Trace C P rec ops nx S (o :: os) tr S' ∧ K (acc ++ tr.map fun s => effFp s.l s.e) S' = some r := by
      intro hg h
      obtain ⟨tr, S', ht, hk⟩ := trace_of h
      refine ⟨⟨nx, true, [], ⟨.bad, [], nx, []⟩⟩ :: tr, S', ⟨_, tr, rfl, rfl, ⟨hg, fun _ => ⟨rfl, rfl⟩, fun h => (by cases h)⟩, ht⟩, ?_⟩
      simpa [effFp] using hk
    simp only [evOps] at h
    cases hg : o.guard with
    | none =>
      rw [hg] at h
      exact run (by unfold GuardS; rw [hg]) h
    | some w =>
      obtain ⟨j, want⟩ := w
      rw [hg] at h
      simp only [] at h
      cases hd : (ops[j]?).bind (·.dst) with
      | none => rw [hd] at h; cases h
      | some d =>
        rw [hd] at h
        simp only [] at h
        cases hq : S.tmp d with
        | bool q =>
          rw [hq] at h
          have hb := set_bool hq
          cases want <;> cases q <;> simp only [br, hb] at h
          · exact run (by unfold GuardS; rw [hg]; exact ⟨d, _, hd, hq, rfl⟩) h
          · exact skip (by unfold GuardS; rw [hg]; exact ⟨d, _, hd, hq, rfl⟩) h
          · exact skip (by unfold GuardS; rw [hg]; exact ⟨d, _, hd, hq, rfl⟩) h
          · exact run (by unfold GuardS; rw [hg]; exact ⟨d, _, hd, hq, rfl⟩) h
        | _ => rw [hq] at h; cases h

theorem asked_mem {nx f : Nat} {vs : List FV} {W : Nat → Option Ob} {l : List Nat} {q : Req} (h : asked C nx f vs W = some (l, q)) : q.en ∈ C.es ∧ q.en.fid = f := by
  unfold asked at h
  cases he : findE f vs C.es with
  | none => rw [he] at h; cases h
  | some en =>
    rw [he] at h
    obtain ⟨l1, c, l2, z, h1, h2, hl⟩ := Rd.bind_some h
    split at h2
    · have hz : q = z := (Prod.mk.inj hl).2
      have hz2 := (Prod.mk.inj (Rd.pure_some h2)).2
      rw [hz, hz2]
      exact findE_some he
    · cases h2

/-- The entries: hooks are true, and nothing else stands at their functions. -/
def EntOk (C : Ctx) (P : Program) : Prop := ∀ en ∈ C.es, (∀ h, en.hook = some h → ∀ x y, h x = some y → CallOk P en x y) ∧ (en.hook = none → ∀ fn, P.funcs[en.fid]? = some fn → (fn.name == "runtime.NumGoroutine") = false)

theorem callE_ok (hE : EntOk C P) (hrec : ∀ en todo S r, rec en todo S = some r → PointOk P en todo S r) {en : Entry} (hm : en ∈ C.es) {x : (argT en.ps).den} {y : en.R} (h : callE P rec en x = some y) : CallOk P en x y := by
  unfold callE at h
  cases hh : en.hook with
  | some f => rw [hh] at h; exact (hE en hm).1 f hh x y h
  | none =>
    rw [hh] at h
    simp only [] at h
    cases hc : codeOf P en with
    | none => rw [hc] at h; cases h
    | some q =>
      obtain ⟨fn, c⟩ := q
      rw [hc] at h
      have hcode : P.funcs[en.fid]? = some fn ∧ fn.body = some c := by
        unfold codeOf at hc
        cases hf : P.funcs[en.fid]? with
        | none => rw [hf] at hc; cases hc
        | some fn' =>
          rw [hf] at hc
          simp only [] at hc
          cases hb : fn'.body with
          | none => rw [hb] at hc; cases hc
          | some c' => rw [hb] at hc; cases hc; exact ⟨rfl, hb⟩
      obtain ⟨hf, hb⟩ := hcode
      have hp := hrec en _ _ y h
      intro W us V Z ha hV
      obtain ⟨X, D, E, hw, h0, h1, h2, h3, h4, I⟩ := entered_inv ha hV fn.ntmps
      have hname := (hE en hm).2 hh fn hf
      refine Or.inl ⟨?_, fun cs => ?_⟩
      · have hname' : ¬ fn.name = "runtime.NumGoroutine" := by simpa using hname
        simp [callFunc, hf, hname', hb]
      · obtain ⟨v, W', fr, q1, q2, q3, q4⟩ := hp X D E _ I h3 h4 cs
        have henter : Frame.enter P en.fid us.toArray .normal = (base en.fid).at ⟨(us ++ List.replicate (fn.ntmps - us.length) undef).toArray, []⟩ [.code c] := by
          simp [Frame.enter, Frame.at, hf, hb, base]
        rw [henter, ← hw]
        refine ⟨.returned v, W', fr, ⟨v, rfl, ?_⟩, q2, q3, q4⟩
        rw [h0, h1, h2] at q1
        rw [hw]; exact q1
end
end Go.Evr

namespace Go.Evr
section
variable {C : Ctx} {P : Program} {rec : Rec} {ops : Array Oper}
variable {X : Cx} {D : Nat → Nat → Prop} {E : Env} {S : St} {tm : List Value} {nx : Nat} {o : Oper} {l : List Nat} {e : Eff}

theorem Inv.put (I : Inv X D E S tm) {f : FV} {v : Value} (hv : VRel X f v) (hf : f.ok D) (dst : Option Nat) : Inv X D E (S.set dst f) ((⟨tm.toArray, []⟩ : Act).put dst v).tmps.toList := by
  cases dst with
  | none => simpa [St.set, Act.put] using I
  | some d =>
    have h1 : ((⟨tm.toArray, []⟩ : Act).put (some d) v).tmps.toList = tm.set d v := by simp [Act.put]
    rw [h1]
    exact ⟨I.ob, I.dom, I.fr, I.pin, I.tmps.set d hv, I.obs, okL.set d I.okt hf, I.oko, I.dob, I.dcur, I.dlen, I.dknown, I.dver⟩

theorem put_act (tm : List Value) (dst : Option Nat) (v : Value) : (⟨tm.toArray, []⟩ : Act).put dst v = ⟨((⟨tm.toArray, []⟩ : Act).put dst v).tmps.toList.toArray, []⟩ := by
  cases dst <;> simp [Act.put]

theorem Done.inv {v : Value} {W' : World} (h : Done X D E S tm nx e v W') (dst : Option Nat) :
    ∃ X' D', X'.W = W' ∧ Inv X' D' E (S.apply dst e) ((⟨tm.toArray, []⟩ : Act).put dst v).tmps.toList ∧ nx ≤ e.nx ∧ ∀ o, D' o 0 → D o 0 ∨ (nx ≤ o ∧ o < e.nx) := by
  obtain ⟨X', D', h1, h2, h3, h4, _, h6, h7⟩ := h
  exact ⟨X', D', h1, h2.put h3 h4 dst, h6, h7⟩

theorem perf_sound (hC : CtxOk C P) (hE : EntOk C P) (hrec : ∀ en todo S r, rec en todo S = some r → PointOk P en todo S r) (I : Inv X D E S tm) (hp : Perf C P rec nx o S l e) (hfr : ∀ o, nx ≤ o → o < e.nx → ¬ D o 0)
    {next : Act → World → Prop} {Q : Exit → Act → World → Prop} (hk : ∀ v W', Done X D E S tm nx e v W' → next ((⟨tm.toArray, []⟩ : Act).put o.dst v) W') : o.wp P ⟨tm.toArray, []⟩ X.W next Q := by
  unfold Oper.wp
  rcases hp with ⟨c, a, b, q, ho, hc, rfl, rfl⟩ | ⟨f, args, ats, g, first, caps, q, y, ho, hf, ha, hy, he, _, hg⟩ | ⟨he, _, hg⟩
  · have hcr := ev_rel I c
    rw [hc] at hcr
    have hcv : (⟨tm.toArray, []⟩ : Act).eval c = .bool q := hcr
    have hrun : (execOp (⟨tm.toArray, []⟩ : Act).eval o).run P X.W = .ok (.value (if q = true then (⟨tm.toArray, []⟩ : Act).eval a else (⟨tm.toArray, []⟩ : Act).eval b)) X.W := by
      simp [execOp, ho, hcv, asBool]
    rw [hrun, Oper.upon_value]
    refine hk _ _ ?_
    cases q with
    | true => exact Done.pure I (ev_rel I a) (ev_ok I a)
    | false => exact Done.pure I (ev_rel I b) (ev_ok I b)
  · have hfr' := ev_rel I f
    rw [hf] at hfr'
    obtain ⟨fs, cs, hfv, hfs, hcs⟩ := hfr'
    have hrel : LRel X (first ++ args.toList.map S.ev ++ caps) (fs ++ args.toList.map (⟨tm.toArray, []⟩ : Act).eval ++ cs) := (hfs.append (evs_rel I args.toList).1).append hcs
    have hcall := call_done I ha hrel (callE_ok hE hrec (asked_mem ha).1 hy) hfr he hg
    have hrun : (execOp (⟨tm.toArray, []⟩ : Act).eval o).run P X.W = (callFunc g (fs ++ args.toList.map (⟨tm.toArray, []⟩ : Act).eval ++ cs).toArray).run P X.W := by
      have : (fs ++ args.toList.map (⟨tm.toArray, []⟩ : Act).eval ++ cs).toArray = fs.toArray ++ args.map (⟨tm.toArray, []⟩ : Act).eval ++ cs.toArray := by
        simp
      rw [this]
      simp [execOp, ho, resolve, Deferred.ofValue, hfv, invoke]
    rw [hrun]
    rcases hcall with ⟨h1, h2⟩ | ⟨v, W', h1, h2⟩
    · rw [h1, Oper.upon_enter]
      refine h2.mono fun ed w' hw => ?_
      obtain ⟨v, rfl, hd⟩ := hw
      exact hk _ _ hd
    · rw [h1, Oper.upon_value]
      exact hk _ _ h2
  · obtain ⟨r, v, W', h1, h2, h3⟩ := evOp_sound hC I (fun h => hfr nx (Nat.le_refl _) h) he hg
    rw [h1]
    rcases h2 with rfl | ⟨rfl, rfl⟩
    · rw [Oper.upon_value]; exact hk _ _ h3
    · rw [Oper.upon_skip]; exact hk _ _ h3

theorem wanted_of (I : Inv X D E S tm) {skip : Bool} (h : GuardS ops o S skip) : Region.wanted o (yielded ops tm.toArray) = !skip := by
  unfold GuardS at h
  unfold Region.wanted
  cases hg : o.guard with
  | none => rw [hg] at h; simp only [] at h ⊢; rw [h]; rfl
  | some w =>
    obtain ⟨j, want⟩ := w
    rw [hg] at h
    obtain ⟨d, q, hd, hq, rfl⟩ := h
    have hr := tmp_rel I d
    rw [hq] at hr
    have hv : tm.toArray.getD d undef = .bool q := hr
    have hlt : d < tm.length := by
      rcases Nat.lt_or_ge d tm.length with h | h
      · exact h
      · have : S.tmp d = .bad := by
          unfold St.tmp
          rw [List.getD_eq_getElem?_getD, List.getElem?_eq_none (by rw [← I.tmps.len]; exact h)]; rfl
        rw [this] at hq; cases hq
    have hget : tm.toArray[d]? = some (.bool q) := by
      rw [Array.getD_eq_getD_getElem?] at hv
      have : tm.toArray[d]? = some tm[d] := by simp [hlt]
      rw [this] at hv ⊢
      simpa using hv
    have : yielded ops tm.toArray j = some q := by
      unfold yielded
      rw [hd]
      simp only [Option.bind_some]
      rw [hget]
    simp only [this]
    cases q <;> cases want <;> rfl

/-- What a region comes to. -/
def RegQ (E : Env) (S' : St) : Exit → Act → World → Prop := fun e a w => e = .normal ∧ a.defers = [] ∧ ∃ X' D', X'.W = w ∧ Inv X' D' E S' a.tmps.toList

theorem undef_done (I : Inv X D E S tm) : Done X D E S tm nx ⟨.bad, [], nx, []⟩ undef X.W := Done.pure I trivial trivial

theorem list_sound (hC : CtxOk C P) (hE : EntOk C P) (hrec : ∀ en todo S r, rec en todo S = some r → PointOk P en todo S r) {S' : St} : ∀ (os : List Oper) (tr : List Stp) (nx : Nat) (S : St) (X : Cx) (D : Nat → Nat → Prop) (tm : List Value),
    Trace C P rec ops nx S os tr S' → Inv X D E S tm → (∀ o, D o 0 → o < nx) → wpList P ops (RegQ E S') os ⟨tm.toArray, []⟩ X.W
  | [], tr, nx, S, X, D, tm, ht, I, _ => by
    obtain ⟨_, rfl⟩ := ht
    exact ⟨rfl, rfl, X, D, rfl, by simpa using I⟩
  | o :: os, tr, nx, S, X, D, tm, ht, I, hnx => by
    obtain ⟨s, tr', rfl, rfl, hs, ht⟩ := ht
    have go : ∀ v W', Done X D E S tm s.nx s.e v W' → wpList P ops (RegQ E S') os ((⟨tm.toArray, []⟩ : Act).put o.dst v) W' := by
      intro v W' hd
      obtain ⟨X', D', hw, I', hle, hD⟩ := hd.inv o.dst
      rw [put_act, ← hw]
      exact list_sound hC hE hrec os tr' _ _ X' D' _ ht I' fun o ho => (hD o ho).elim (fun h => Nat.lt_of_lt_of_le (hnx o h) hle) fun h => h.2
    unfold wpList
    have hwt : Region.wanted o (yielded ops (⟨tm.toArray, []⟩ : Act).tmps) = !s.skip := wanted_of I hs.g
    rw [hwt]
    cases hsk : s.skip with
    | true =>
      obtain ⟨_, he⟩ := hs.skip hsk
      simp only [Bool.not_true, Bool.false_eq_true, if_false]
      refine go undef X.W ?_
      rw [he]; exact undef_done I
    | false =>
      simp only [Bool.not_false, if_true]
      exact Or.inl (perf_sound hC hE hrec I (hs.perf hsk) (fun o h1 h2 h3 => by have := hnx o h3; omega) go)
end
end Go.Evr

namespace Go.Evr

theorem memB_iff {a : Nat} : ∀ {l : List Nat}, memB a l = true ↔ a ∈ l
  | [] => by simp [memB]
  | b :: l => by
    simp only [memB, Bool.or_eq_true, memB_iff (l := l), List.mem_cons]
    constructor
    · rintro (h | h)
      · exact Or.inl (Nat.eq_of_beq_eq_true h)
      · exact Or.inr h
    · rintro (rfl | h)
      · exact Or.inl (Nat.beq_refl a)
      · exact Or.inr h
theorem meetB_of {a : Nat} : ∀ {l m : List Nat}, a ∈ l → a ∈ m → meetB l m = true
  | b :: l, m, h, k => by
    simp only [meetB, Bool.or_eq_true]
    rcases List.mem_cons.1 h with rfl | h
    · exact Or.inl (memB_iff.2 k)
    · exact Or.inr (meetB_of h k)
theorem mem_addNew {a : Nat} : ∀ {m l : List Nat}, a ∈ addNew l m → a ∈ l ∨ a ∈ m
  | [], l, h => Or.inl h
  | b :: m, l, h => by
    simp only [addNew] at h
    rcases mem_addNew h with h | h
    · split at h
      · exact Or.inl h
      · rcases List.mem_append.1 h with h | h
        · exact Or.inl h
        · simp at h; subst h; exact Or.inr (List.mem_cons_self ..)
    · exact Or.inr (List.mem_cons_of_mem _ h)

section
variable {ops : Array Oper}

/-- What is listed has what it waits for. -/
def CL (ops : Array Oper) (m : Nat → Bool) : Prop := ∀ j oj, ops[j]? = some oj → m j = true → ∀ i ∈ bindsOf oj, m i = true

theorem ancs_ok {m : Nat → Bool} (hm : CL ops m) : ∀ (l : List Oper) (acc : List (List Nat)), (∀ j o, l[j]? = some o → ops[acc.length + j]? = some o) → (∀ j, m j = true → ∀ i ∈ acc.getD j [], m i = true) →
    ∀ j, m j = true → ∀ i ∈ (ancs l acc).getD j [], m i = true
  | [], acc, _, h, j, hj, i, hi => h j hj i hi
  | o :: l, acc, hl, h, j, hj, i, hi => by
    simp only [ancs] at hi
    refine ancs_ok hm l _ (fun j o' ho => ?_) (fun j' hj' i' hi' => ?_) j hj i hi
    · have := hl (j + 1) o' (by simpa using ho)
      simp only [List.length_append, List.length_cons, List.length_nil]
      rw [show acc.length + (0 + 1) + j = acc.length + (j + 1) by omega]; exact this
    · rw [List.getD_eq_getElem?_getD] at hi'
      rcases Nat.lt_trichotomy j' acc.length with hlt | heq | hgt
      · rw [List.getElem?_append_left hlt, ← List.getD_eq_getElem?_getD] at hi'
        exact h j' hj' i' hi'
      · subst heq
        rw [List.getElem?_append_right (Nat.le_refl _)] at hi'
        simp only [Nat.sub_self, List.getElem?_cons_zero, Option.getD_some] at hi'
        rcases mem_addNew hi' with hi' | hi'
        · cases hi'
        · obtain ⟨a, ha, hi'⟩ := List.mem_flatMap.1 hi'
          have hma := hm _ _ (hl 0 o rfl) hj' a ha
          rcases List.mem_cons.1 hi' with rfl | hi'
          · exact hma
          · exact h a hma i' hi'
      · rw [List.getElem?_eq_none (by simp; omega)] at hi'
        cases hi'

theorem orderRow_ok {oj : Oper} {fj : Fp} {an : List Nat} : ∀ {os : List Oper} {fs : List Fp} {k : Nat}, orderRow ops oj fj an k os fs = true →
    os.length = fs.length ∧ ∀ i oi fi, os[i]? = some oi → fs[i]? = some fi → clash ops oi oj fi fj = true → k + i ∈ an
  | [], [], _, _ => ⟨rfl, by simp⟩
  | o :: os, f :: fs, k, h => by
    simp only [orderRow, Bool.and_eq_true, Bool.or_eq_true, Bool.not_eq_true'] at h
    obtain ⟨h1, h2⟩ := orderRow_ok h.2
    refine ⟨by simp [h1], fun i oi fi ho hf hc => ?_⟩
    cases i with
    | zero =>
      simp at ho hf; subst ho; subst hf
      rcases h.1 with h | h
      · rw [hc] at h; cases h
      · simpa using memB_iff.1 h
    | succ i =>
      have := h2 i oi fi (by simpa using ho) (by simpa using hf) hc
      rw [show k + (i + 1) = k + 1 + i by omega]; exact this
  | [], _ :: _, _, h => by cases h
  | _ :: _, [], _, h => by cases h

theorem orderGo_ok : ∀ {os : List Oper} {fs : List Fp} {as : List (List Nat)} {po : List Oper} {pf : List Fp}, orderGo ops os fs as po pf = true → po.length = pf.length →
    os.length = fs.length ∧ ∀ j oj fj, os[j]? = some oj → fs[j]? = some fj → (∀ i ∈ bindsOf oj, i < po.length + j) ∧
      ∀ i oi fi, i < po.length + j → (po ++ os)[i]? = some oi → (pf ++ fs)[i]? = some fi → clash ops oi oj fi fj = true → i ∈ as.getD j []
  | [], [], _, _, _, _, _ => ⟨rfl, by simp⟩
  | o :: os, f :: fs, an :: as, po, pf, h, hl => by
    simp only [orderGo, Bool.and_eq_true] at h
    obtain ⟨⟨h1, h2⟩, h3⟩ := h
    obtain ⟨_, r2⟩ := orderRow_ok h2
    obtain ⟨g1, g2⟩ := orderGo_ok h3 (by simp [hl])
    refine ⟨by simp [g1], fun j oj fj ho hf => ?_⟩
    cases j with
    | zero =>
      simp at ho hf; subst ho; subst hf
      refine ⟨fun i hi => ?_, fun i oi fi hi ho hf hc => ?_⟩
      · unfold ltAll at h1
        have := List.all_eq_true.1 h1 i hi
        simpa [Nat.blt_eq] using this
      · rw [List.getElem?_append_left (by omega)] at ho
        rw [List.getElem?_append_left (by omega)] at hf
        have := r2 i oi fi ho hf hc
        simpa using this
    | succ j =>
      obtain ⟨q1, q2⟩ := g2 j oj fj (by simpa using ho) (by simpa using hf)
      simp only [List.length_append, List.length_cons, List.length_nil] at q1 q2
      refine ⟨fun i hi => by have := q1 i hi; omega, fun i oi fi hi ho hf hc => ?_⟩
      have := q2 i oi fi (by omega) (by simpa using ho) (by simpa using hf) hc
      simpa using this
  | [], _ :: _, _, _, _, h, _ => by cases h
  | _ :: _, [], _, _, _, h, _ => by cases h
  | _ :: _, _ :: _, [], _, _, h, _ => by cases h

theorem orderOk_ok {fps : List Fp} (h : orderOk ops fps = true) : ops.size = fps.length ∧ (∀ j oj, ops[j]? = some oj → ∀ i ∈ bindsOf oj, i < j) ∧
    ∀ m, CL ops m → ∀ i j oi oj fi fj, i < j → ops[i]? = some oi → ops[j]? = some oj → fps[i]? = some fi → fps[j]? = some fj → clash ops oi oj fi fj = true → m j = true → m i = true := by
  obtain ⟨h1, h2⟩ := orderGo_ok h rfl
  simp only [Array.length_toList] at h1
  refine ⟨h1, fun j oj ho i hi => ?_, fun m hm i j oi oj fi fj hij hoi hoj hfi hfj hc hmj => ?_⟩
  · have hj := (Array.getElem?_eq_some_iff.1 ho).1
    obtain ⟨q1, _⟩ := h2 j oj (fps[j]'(by omega)) (by simpa using ho) (List.getElem?_eq_getElem (by omega))
    simpa using q1 i hi
  · obtain ⟨_, q2⟩ := h2 j oj fj (by simpa using hoj) hfj
    have := q2 i oi fi (by simpa using hij) (by simpa using hoi) (by simpa using hfi) hc
    exact ancs_ok hm ops.toList [] (fun j o ho => by simpa using ho) (fun j _ i hi => by simp at hi) j hmj i this
end

/-! ### States by what is listed -/
section
variable (ops : Array Oper) (tr : List Stp) (S0 : St) (m : Nat → Bool)
def tv : Nat → Nat → FV
  | 0, t => S0.tmp t
  | k + 1, t => match ops[k]?, tr[k]? with
    | some o, some s => if m k = true ∧ o.dst = some t ∧ t < S0.tmps.length then s.e.val else tv k t
    | _, _ => tv k t
def ov : Nat → Nat → Option Ob
  | 0, o => S0.ob o
  | k + 1, o => match ops[k]?, tr[k]? with
    | some _, some s => if m k = true then obPuts (ov k) s.e.puts o else ov k o
    | _, _ => ov k o
end

theorem obPuts_out : ∀ {p : Puts} {f : Nat → Option Ob} {o : Nat}, o ∉ p.map (·.1) → obPuts f p o = f o
  | [], _, _, _ => rfl
  | q :: p, f, o, h => by
    simp only [List.map_cons, List.mem_cons, not_or] at h
    simp only [obPuts]
    rw [obPuts_out h.2, if_neg h.1]
theorem obPuts_in : ∀ {p : Puts} {f g : Nat → Option Ob} {o : Nat}, o ∈ p.map (·.1) → obPuts f p o = obPuts g p o
  | q :: p, f, g, o, h => by
    simp only [obPuts]
    by_cases hp : o ∈ p.map (·.1)
    · exact obPuts_in hp
    · rw [obPuts_out hp, obPuts_out hp]
      simp only [List.map_cons, List.mem_cons] at h
      rcases h with h | h
      · rw [if_pos h, if_pos h]
      · exact absurd h hp
theorem obPuts_congr {p : Puts} {f g : Nat → Option Ob} {o : Nat} (h : f o = g o) : obPuts f p o = obPuts g p o := by
  by_cases hp : o ∈ p.map (·.1)
  · exact obPuts_in hp
  · rw [obPuts_out hp, obPuts_out hp, h]
theorem obPuts_comm {p q : Puts} (hd : ∀ o ∈ p.map (·.1), o ∉ q.map (·.1)) (f : Nat → Option Ob) (o : Nat) : obPuts (obPuts f p) q o = obPuts (obPuts f q) p o := by
  by_cases hp : o ∈ p.map (·.1)
  · have hq := hd o hp
    rw [obPuts_out hq]
    exact obPuts_in hp
  · rw [obPuts_out hp]
    by_cases hq : o ∈ q.map (·.1)
    · exact obPuts_in hq
    · rw [obPuts_out hq, obPuts_out hq, obPuts_out hp]

theorem setL_getD : ∀ (l : List FV) (d : Nat) (v : FV) (t : Nat), (setL .bad l d v).getD t .bad = if t = d ∧ t < l.length then v else l.getD t .bad
  | [], d, v, t => by simp [setL]
  | a :: l, 0, v, 0 => by simp [setL]
  | a :: l, 0, v, t + 1 => by simp [setL]
  | a :: l, d + 1, v, 0 => by simp [setL]
  | a :: l, d + 1, v, t + 1 => by
    have := setL_getD l d v t
    simp only [setL, List.getD_cons_succ, List.length_cons] at this ⊢
    rw [this]
    simp [Nat.succ_lt_succ_iff]
theorem setL_len : ∀ (l : List FV) (d : Nat) (v : FV), (setL .bad l d v).length = l.length
  | [], _, _ => rfl
  | a :: l, 0, v => rfl
  | a :: l, d + 1, v => by simp [setL, setL_len l d v]
theorem apply_tmp (S : St) (dst : Option Nat) (e : Eff) (t : Nat) : (S.apply dst e).tmp t = if dst = some t ∧ t < S.tmps.length then e.val else S.tmp t := by
  rw [apply_eq]
  cases dst with
  | none => simp [St.set, St.tmp, puts_tmps]
  | some d =>
    simp only [St.set, St.tmp, puts_tmps]
    rw [setL_getD]
    by_cases h : t = d
    · subst h; simp
    · simp [h, Ne.symm h]
theorem apply_len (S : St) (dst : Option Nat) (e : Eff) : (S.apply dst e).tmps.length = S.tmps.length := by
  rw [apply_eq]
  cases dst with
  | none => rfl
  | some d => simp only [St.set, puts_tmps]; exact setL_len _ _ _
theorem apply_ob (S : St) (dst : Option Nat) (e : Eff) (o : Nat) : (S.apply dst e).ob o = obPuts S.ob e.puts o := by
  rw [apply_eq, ← ob_puts]
  cases dst <;> rfl
theorem apply_objs (S : St) (dst : Option Nat) (e : Eff) : (S.apply dst e).objs = (S.puts e.puts).objs := by
  rw [apply_eq]; cases dst <;> rfl
theorem putOb_le : ∀ (l : List (Option Ob)) (n : Nat) (v : Option Ob) (N : Nat), l.length ≤ N → n < N → (putOb l n v).length ≤ N
  | [], 0, v, N, h, k => by simp [putOb]; omega
  | [], n + 1, v, N, h, k => by
    have := putOb_le [] n v (N - 1) (by simp) (by omega)
    simp only [putOb, List.length_cons]; omega
  | a :: l, 0, v, N, h, k => by simpa [putOb] using h
  | a :: l, n + 1, v, N, h, k => by
    simp only [List.length_cons] at h
    have := putOb_le l n v (N - 1) (by omega) (by omega)
    simp only [putOb, List.length_cons]; omega
theorem puts_le : ∀ (p : Puts) (S : St) (N : Nat), S.objs.length ≤ N → (∀ q ∈ p, q.1 < N) → (S.puts p).objs.length ≤ N
  | [], _, _, h, _ => h
  | q :: p, S, N, h, k => by
    rw [puts_cons]
    exact puts_le p _ N (putOb_le _ _ _ _ h (k q (List.mem_cons_self ..))) fun r hr => k r (List.mem_cons_of_mem _ hr)
end Go.Evr

namespace Go.Evr

/-! ### The steps of a region, by their numbers -/
structure Steps' (C : Ctx) (P : Program) (rec : Rec) (ops : Array Oper) (nx0 : Nat) (S0 : St) (tr : List Stp) (Sn : St) where
  pre : Nat → St
  nx : Nat → Nat
  p0 : pre 0 = S0
  n0 : nx 0 = nx0
  len : tr.length = ops.size
  pn : pre ops.size = Sn
  step : ∀ i o s, ops[i]? = some o → tr[i]? = some s → s.nx = nx i ∧ StepOk C P rec ops o (pre i) s ∧ pre (i + 1) = (pre i).apply o.dst s.e ∧ nx (i + 1) = s.e.nx

section
variable {C : Ctx} {P : Program} {rec : Rec} {ops : Array Oper}

theorem steps_of : ∀ {os : List Oper} {nx0 : Nat} {S0 Sn : St} {tr : List Stp}, Trace C P rec ops nx0 S0 os tr Sn → ∃ (pre : Nat → St) (nx : Nat → Nat), pre 0 = S0 ∧ nx 0 = nx0 ∧ tr.length = os.length ∧ pre os.length = Sn ∧
    ∀ i o s, os[i]? = some o → tr[i]? = some s → s.nx = nx i ∧ StepOk C P rec ops o (pre i) s ∧ pre (i + 1) = (pre i).apply o.dst s.e ∧ nx (i + 1) = s.e.nx
  | [], nx0, S0, Sn, tr, h => by
    obtain ⟨rfl, rfl⟩ := h
    exact ⟨fun _ => Sn, fun _ => nx0, rfl, rfl, rfl, rfl, fun i o s h => by simp at h⟩
  | o :: os, nx0, S0, Sn, tr, h => by
    obtain ⟨s, tr', rfl, rfl, hs, h⟩ := h
    obtain ⟨pre, nx, h1, h2, h3, h4, h5⟩ := steps_of h
    refine ⟨fun k => match k with | 0 => S0 | k + 1 => pre k, fun k => match k with | 0 => s.nx | k + 1 => nx k, rfl, rfl, by simp [h3], h4, fun i o' s' ho hs' => ?_⟩
    cases i with
    | zero => simp at ho hs'; subst ho; subst hs'; exact ⟨rfl, hs, h1, h2⟩
    | succ i => exact h5 i o' s' (by simpa using ho) (by simpa using hs')

theorem steps_mk {nx0 : Nat} {S0 Sn : St} {tr : List Stp} (h : Trace C P rec ops nx0 S0 ops.toList tr Sn) : Nonempty (Steps' C P rec ops nx0 S0 tr Sn) := by
  obtain ⟨pre, nx, h1, h2, h3, h4, h5⟩ := steps_of h
  exact ⟨⟨pre, nx, h1, h2, by simpa using h3, by simpa using h4, fun i o s ho hs => h5 i o s (by simpa using ho) hs⟩⟩

variable {nx0 : Nat} {S0 Sn : St} {tr : List Stp}

theorem Steps'.get (T : Steps' C P rec ops nx0 S0 tr Sn) {i : Nat} (h : i < ops.size) : ∃ o s, ops[i]? = some o ∧ tr[i]? = some s :=
  ⟨ops[i], tr[i]'(by rw [T.len]; exact h), by simp [h], List.getElem?_eq_getElem _⟩

def allM : Nat → Bool := fun _ => true

theorem Steps'.lex (T : Steps' C P rec ops nx0 S0 tr Sn) : ∀ k, k ≤ ops.size → (T.pre k).tmps.length = S0.tmps.length ∧ (∀ t, (T.pre k).tmp t = tv ops tr S0 allM k t) ∧ (∀ o, (T.pre k).ob o = ov ops tr S0 allM k o) ∧ S0.objs.length ≤ (T.pre k).objs.length
  | 0, _ => by rw [T.p0]; exact ⟨rfl, fun _ => rfl, fun _ => rfl, Nat.le_refl _⟩
  | k + 1, h => by
    obtain ⟨o, s, ho, hs⟩ := T.get (i := k) (by omega)
    obtain ⟨h1, h2, h3, h4⟩ := T.lex k (by omega)
    obtain ⟨_, _, h5, _⟩ := T.step k o s ho hs
    rw [h5]
    refine ⟨by rw [apply_len, h1], fun t => ?_, fun o' => ?_, ?_⟩
    · rw [apply_tmp, h1, h2]
      simp only [tv, ho, hs, allM, true_and]
    · rw [apply_ob]
      simp only [ov, ho, hs, allM, if_true]
      exact obPuts_congr (h3 o')
    · rw [apply_objs]
      exact Nat.le_trans h4 (puts_len _ _).1

theorem Steps'.objs_mono (T : Steps' C P rec ops nx0 S0 tr Sn) : ∀ d i, i + d ≤ ops.size → (T.pre i).objs.length ≤ (T.pre (i + d)).objs.length
  | 0, _, _ => Nat.le_refl _
  | d + 1, i, h => by
    obtain ⟨o, s, ho, hs⟩ := T.get (i := i + d) (by omega)
    obtain ⟨_, _, h5, _⟩ := T.step _ o s ho hs
    refine Nat.le_trans (T.objs_mono d i (by omega)) ?_
    rw [← Nat.add_assoc, h5, apply_objs]
    exact (puts_len _ _).1
theorem Steps'.ids_lt (T : Steps' C P rec ops nx0 S0 tr Sn) {i : Nat} {o : Oper} {s : Stp} (ho : ops[i]? = some o) (hs : tr[i]? = some s) : ∀ q ∈ s.e.puts, q.1 < Sn.objs.length := by
  intro q hq
  have hi := (Array.getElem?_eq_some_iff.1 ho).1
  obtain ⟨_, _, h5, _⟩ := T.step _ o s ho hs
  have h := T.objs_mono (ops.size - (i + 1)) (i + 1) (by omega)
  rw [show i + 1 + (ops.size - (i + 1)) = ops.size by omega, T.pn] at h
  refine Nat.lt_of_lt_of_le ?_ h
  rw [h5, apply_objs]
  exact (puts_len _ _).2 q hq


def fpsOf (tr : List Stp) : List Fp := tr.map fun s => effFp s.l s.e
theorem fps_get {i : Nat} {s : Stp} (h : tr[i]? = some s) : (fpsOf tr)[i]? = some (effFp s.l s.e) := by simp [fpsOf, h]

variable {m : Nat → Bool} {i : Nat} {o : Oper} {s : Stp}

/-- What is listed, seen from one that is ready. -/
structure Ready (ops : Array Oper) (tr : List Stp) (m : Nat → Bool) (i : Nat) (o : Oper) (s : Stp) : Prop where
  no : m i = false
  below : ∀ j oj sj, j < i → ops[j]? = some oj → tr[j]? = some sj → clash ops oj o (effFp sj.l sj.e) (effFp s.l s.e) = true → m j = true
  above : ∀ k ok sk, i < k → ops[k]? = some ok → tr[k]? = some sk → clash ops o ok (effFp s.l s.e) (effFp sk.l sk.e) = true → m k = false

theorem clash_read {oi oj : Oper} {fi fj : Fp} {t : Nat} (h : oi.dst = some t) (k : t ∈ readsOf ops oj ++ optL oj.dst) : clash ops oi oj fi fj = true := by
  unfold clash
  rw [meetB_of (a := t) (by rw [h]; simp [optL]) k]; simp
theorem clash_anti {oi oj : Oper} {fi fj : Fp} {t : Nat} (h : oj.dst = some t) (k : t ∈ readsOf ops oi) : clash ops oi oj fi fj = true := by
  unfold clash
  rw [meetB_of (a := t) (l := optL oj.dst) (by rw [h]; simp [optL]) k]; simp
theorem clash_ob {oi oj : Oper} {fi fj : Fp} {t : Nat} (h : t ∈ fi.2) (k : t ∈ fj.1 ++ fj.2) : clash ops oi oj fi fj = true := by
  unfold clash
  rw [meetB_of h k]; simp
theorem clash_obA {oi oj : Oper} {fi fj : Fp} {t : Nat} (h : t ∈ fj.2) (k : t ∈ fi.1) : clash ops oi oj fi fj = true := by
  unfold clash
  rw [meetB_of h k]; simp

theorem tv_agree (T : Steps' C P rec ops nx0 S0 tr Sn) (ho : ops[i]? = some o) (hs : tr[i]? = some s) (R : Ready ops tr m i o s) {t : Nat} (ht : t ∈ readsOf ops o) : tv ops tr S0 m ops.size t = tv ops tr S0 allM i t := by
  have hi := (Array.getElem?_eq_some_iff.1 ho).1
  have a : ∀ k, k ≤ i → tv ops tr S0 m k t = tv ops tr S0 allM k t := by
    intro k
    induction k with
    | zero => intro _; rfl
    | succ k ih =>
      intro hk
      obtain ⟨ok, sk, hok, hsk⟩ := T.get (i := k) (by omega)
      simp only [tv, hok, hsk, allM, true_and]
      by_cases hd : ok.dst = some t ∧ t < S0.tmps.length
      · rw [R.below k ok sk (by omega) hok hsk (clash_read hd.1 (List.mem_append.2 (Or.inl ht)))]
        simp only [true_and]
        rw [if_pos hd, if_pos hd]
      · rw [if_neg (fun h => hd h.2), if_neg hd]
        exact ih (by omega)
  have b : ∀ d, i + d ≤ ops.size → tv ops tr S0 m (i + d) t = tv ops tr S0 m i t := by
    intro d
    induction d with
    | zero => intro _; rfl
    | succ d ih =>
      intro hd
      obtain ⟨ok, sk, hok, hsk⟩ := T.get (i := i + d) (by omega)
      rw [← Nat.add_assoc]
      simp only [tv, hok, hsk]
      rw [if_neg, ih (by omega)]
      rintro ⟨h1, h2, _⟩
      rcases Nat.eq_zero_or_pos d with rfl | hpos
      · rw [Nat.add_zero, R.no] at h1; cases h1
      · have := R.above (i + d) ok sk (by omega) hok hsk (clash_anti h2 ht)
        rw [h1] at this; cases this
  have := b (ops.size - i) (by omega)
  rw [show i + (ops.size - i) = ops.size by omega] at this
  rw [this, a i (Nat.le_refl _)]

theorem ov_agree (T : Steps' C P rec ops nx0 S0 tr Sn) (ho : ops[i]? = some o) (hs : tr[i]? = some s) (R : Ready ops tr m i o s) {p : Nat} (hp : p ∈ s.l) : ov ops tr S0 m ops.size p = ov ops tr S0 allM i p := by
  have hi := (Array.getElem?_eq_some_iff.1 ho).1
  have a : ∀ k, k ≤ i → ov ops tr S0 m k p = ov ops tr S0 allM k p := by
    intro k
    induction k with
    | zero => intro _; rfl
    | succ k ih =>
      intro hk
      obtain ⟨ok, sk, hok, hsk⟩ := T.get (i := k) (by omega)
      simp only [ov, hok, hsk, allM, if_true]
      by_cases hd : p ∈ sk.e.puts.map (·.1)
      · rw [if_pos (R.below k ok sk (by omega) hok hsk (clash_ob (t := p) hd (List.mem_append.2 (Or.inl hp))))]
        exact obPuts_in hd
      · rw [obPuts_out (f := ov ops tr S0 allM k) hd]
        split
        · rw [obPuts_out hd]; exact ih (by omega)
        · exact ih (by omega)
  have b : ∀ d, i + d ≤ ops.size → ov ops tr S0 m (i + d) p = ov ops tr S0 m i p := by
    intro d
    induction d with
    | zero => intro _; rfl
    | succ d ih =>
      intro hd
      obtain ⟨ok, sk, hok, hsk⟩ := T.get (i := i + d) (by omega)
      rw [← Nat.add_assoc]
      simp only [ov, hok, hsk]
      split
      · rename_i h1
        rw [obPuts_out, ih (by omega)]
        intro hin
        rcases Nat.eq_zero_or_pos d with rfl | hpos
        · rw [Nat.add_zero, R.no] at h1; cases h1
        · have := R.above (i + d) ok sk (by omega) hok hsk (clash_obA (t := p) hin hp)
          rw [h1] at this; cases this
      · exact ih (by omega)
  have := b (ops.size - i) (by omega)
  rw [show i + (ops.size - i) = ops.size by omega] at this
  rw [this, a i (Nat.le_refl _)]

def addM (m : Nat → Bool) (i : Nat) : Nat → Bool := fun j => if j = i then true else m j

theorem tv_add (T : Steps' C P rec ops nx0 S0 tr Sn) (ho : ops[i]? = some o) (hs : tr[i]? = some s) (R : Ready ops tr m i o s) (t : Nat) :
    tv ops tr S0 (addM m i) ops.size t = if o.dst = some t ∧ t < S0.tmps.length then s.e.val else tv ops tr S0 m ops.size t := by
  have hi := (Array.getElem?_eq_some_iff.1 ho).1
  have a : ∀ k, k ≤ i → tv ops tr S0 (addM m i) k t = tv ops tr S0 m k t := by
    intro k
    induction k with
    | zero => intro _; rfl
    | succ k ih =>
      intro hk
      have : addM m i k = m k := if_neg (by omega)
      simp only [tv, this, ih (by omega)]
  have b : ∀ d, i + 1 + d ≤ ops.size → tv ops tr S0 (addM m i) (i + 1 + d) t = if o.dst = some t ∧ t < S0.tmps.length then s.e.val else tv ops tr S0 m (i + 1 + d) t := by
    intro d
    induction d with
    | zero =>
      intro _
      simp only [Nat.add_zero, tv, ho, hs]
      have h1 : addM m i i = true := if_pos rfl
      rw [h1, R.no, a i (Nat.le_refl _)]
      simp
    | succ d ih =>
      intro hd
      obtain ⟨ok, sk, hok, hsk⟩ := T.get (i := i + 1 + d) (by omega)
      rw [← Nat.add_assoc]
      have : addM m i (i + 1 + d) = m (i + 1 + d) := if_neg (by omega)
      simp only [tv, hok, hsk, this]
      rw [ih (by omega)]
      by_cases h1 : m (i + 1 + d) = true ∧ ok.dst = some t ∧ t < S0.tmps.length
      · rw [if_pos h1, if_pos h1]
        rw [if_neg]
        rintro ⟨h2, _⟩
        have := R.above (i + 1 + d) ok sk (by omega) hok hsk (clash_read h2 (List.mem_append.2 (Or.inr (by rw [h1.2.1]; simp [optL]))))
        rw [h1.1] at this; cases this
      · rw [if_neg h1, if_neg h1]
  have := b (ops.size - (i + 1)) (by omega)
  rw [show i + 1 + (ops.size - (i + 1)) = ops.size by omega] at this
  exact this

theorem ov_add (T : Steps' C P rec ops nx0 S0 tr Sn) (ho : ops[i]? = some o) (hs : tr[i]? = some s) (R : Ready ops tr m i o s) (p : Nat) :
    ov ops tr S0 (addM m i) ops.size p = obPuts (ov ops tr S0 m ops.size) s.e.puts p := by
  have hi := (Array.getElem?_eq_some_iff.1 ho).1
  have a : ∀ k, k ≤ i → ∀ p, ov ops tr S0 (addM m i) k p = ov ops tr S0 m k p := by
    intro k
    induction k with
    | zero => intro _ _; rfl
    | succ k ih =>
      intro hk p
      obtain ⟨ok, sk, hok, hsk⟩ := T.get (i := k) (by omega)
      have h1 : addM m i k = m k := if_neg (by omega)
      simp only [ov, hok, hsk, h1]
      rw [obPuts_congr (ih (by omega) p), ih (by omega) p]
  have b : ∀ d, i + 1 + d ≤ ops.size → ∀ p, ov ops tr S0 (addM m i) (i + 1 + d) p = obPuts (ov ops tr S0 m (i + 1 + d)) s.e.puts p := by
    intro d
    induction d with
    | zero =>
      intro _ p
      simp only [Nat.add_zero, ov, ho, hs]
      have h1 : addM m i i = true := if_pos rfl
      rw [if_pos h1]
      refine obPuts_congr ?_
      rw [a i (Nat.le_refl _), R.no]; simp
    | succ d ih =>
      intro hd p
      obtain ⟨ok, sk, hok, hsk⟩ := T.get (i := i + 1 + d) (by omega)
      rw [← Nat.add_assoc]
      have h1 : addM m i (i + 1 + d) = m (i + 1 + d) := if_neg (by omega)
      cases hm : m (i + 1 + d) with
      | false =>
        simp only [ov, hok, hsk, h1, hm, Bool.false_eq_true, if_false]
        rw [ih (by omega)]
      | true =>
        have hdj : ∀ o' ∈ s.e.puts.map (·.1), o' ∉ sk.e.puts.map (·.1) := fun o' h2 h3 => by
          have := R.above (i + 1 + d) ok sk (by omega) hok hsk (clash_ob (t := o') h2 (List.mem_append.2 (Or.inr h3)))
          rw [hm] at this; cases this
        have e1 : ov ops tr S0 (addM m i) (i + 1 + d + 1) p = obPuts (ov ops tr S0 (addM m i) (i + 1 + d)) sk.e.puts p := by
          simp only [ov, hok, hsk, h1, hm, if_true]
        have e2 : ∀ p, ov ops tr S0 m (i + 1 + d + 1) p = obPuts (ov ops tr S0 m (i + 1 + d)) sk.e.puts p := fun p => by
          simp only [ov, hok, hsk, hm, if_true]
        rw [e1, obPuts_congr (ih (by omega) p), obPuts_comm hdj]
        exact obPuts_congr (e2 p).symm
  have := b (ops.size - (i + 1)) (by omega) p
  rw [show i + 1 + (ops.size - (i + 1)) = ops.size by omega] at this
  exact this
end
end Go.Evr

namespace Go.Evr
section
variable {C : Ctx} {P : Program} {rec : Rec} {ops : Array Oper}

theorem perf_congr {nx : Nat} {o : Oper} {S T : St} {l : List Nat} {e : Eff} (h1 : ∀ t ∈ readsOf ops o, T.tmp t = S.tmp t) (h2 : ∀ p ∈ l, T.ob p = S.ob p) (h : Perf C P rec nx o S l e) : Perf C P rec nx o T l e := by
  have ev : ∀ x ∈ o.op.operands, T.ev x = S.ev x := by
    intro x hx
    cases x with
    | tmp t =>
      refine h1 t (List.mem_append.2 (Or.inl (List.mem_flatMap.2 ⟨_, by simpa using hx, ?_⟩)))
      simp
    | _ => rfl
  rcases h with ⟨c, a, b, q, ho, hc, rfl, rfl⟩ | ⟨f, args, ats, g, first, caps, q, y, ho, hf, ha, hy, he, hn, hg⟩ | ⟨he, hn, hg⟩
  · rw [ho] at ev
    have e1 := ev c (by simp [Op.operands])
    have e2 := ev a (by simp [Op.operands])
    have e3 := ev b (by simp [Op.operands])
    exact Or.inl ⟨c, a, b, q, ho, by rw [e1]; exact hc, rfl, by rw [e2, e3]⟩
  · rw [ho] at ev
    have e1 := ev f (by simp [Op.operands, Call.operands])
    have e2 : args.toList.map T.ev = args.toList.map S.ev := List.map_congr_left fun x hx => ev x (by simp [Op.operands, Call.operands]; exact Or.inr (by simpa using hx))
    refine Or.inr (Or.inl ⟨f, args, ats, g, first, caps, q, y, ho, by rw [e1]; exact hf, ?_, hy, he, hn, hg⟩)
    rw [e2]
    exact asked_local C nx g _ _ _ _ _ ha h2
  · refine Or.inr (Or.inr ⟨?_, hn, hg⟩)
    rw [evOp_ev ev]
    exact evOp_local C nx _ _ _ _ _ _ he h2

theorem guard_congr {o : Oper} {S T : St} {sk : Bool} (h1 : ∀ t ∈ readsOf ops o, T.tmp t = S.tmp t) (h : GuardS ops o S sk) : GuardS ops o T sk := by
  unfold GuardS at *
  cases hg : o.guard with
  | none => rw [hg] at h; exact h
  | some w =>
    obtain ⟨j, want⟩ := w
    rw [hg] at h
    obtain ⟨d, q, hd, hq, he⟩ := h
    refine ⟨d, q, hd, ?_, he⟩
    rw [h1 d (List.mem_append.2 (Or.inr (by rw [hg]; simp only []; rw [hd]; simp [optL])))]
    exact hq

theorem perf_le {nx : Nat} {o : Oper} {S : St} {l : List Nat} {e : Eff} (h : Perf C P rec nx o S l e) : nx ≤ e.nx := by
  rcases h with ⟨c, a, b, q, ho, hc, rfl, rfl⟩ | ⟨f, args, ats, g, first, caps, q, y, ho, hf, ha, hy, he, hn, hg⟩ | ⟨he, hn, hg⟩
  · exact Nat.le_refl _
  · exact hn
  · exact hn

variable {nx0 : Nat} {S0 Sn : St} {tr : List Stp}

theorem Steps'.nx_le (T : Steps' C P rec ops nx0 S0 tr Sn) {i : Nat} (h : i < ops.size) : T.nx i ≤ T.nx (i + 1) := by
  obtain ⟨o, s, ho, hs⟩ := T.get h
  obtain ⟨h1, h2, _, h4⟩ := T.step i o s ho hs
  rw [h4, ← h1]
  cases hsk : s.skip with
  | true => rw [(h2.skip hsk).2]; exact Nat.le_refl _
  | false => exact perf_le (h2.perf hsk)
theorem Steps'.nx_mono (T : Steps' C P rec ops nx0 S0 tr Sn) (i : Nat) : ∀ d, i + d ≤ ops.size → T.nx i ≤ T.nx (i + d)
  | 0, _ => Nat.le_refl _
  | d + 1, h => Nat.le_trans (T.nx_mono i d (by omega)) (T.nx_le (i := i + d) (by omega))

def cnt (m : Nat → Bool) : Nat → Nat
  | 0 => 0
  | k + 1 => cnt m k + (if m k = true then 0 else 1)
theorem cnt_add {m : Nat → Bool} {i : Nat} (h : m i = false) : ∀ k, cnt (addM m i) k + (if i < k then 1 else 0) = cnt m k
  | 0 => by simp [cnt]
  | k + 1 => by
    have ih := cnt_add h k
    simp only [cnt]
    rcases Nat.lt_trichotomy i k with hlt | rfl | hgt
    · have : addM m i k = m k := if_neg (by omega)
      have e : (if i < k + 1 then 1 else 0) = 1 := if_pos (by omega)
      rw [this, e]
      rw [if_pos hlt] at ih; omega
    · have : addM m i i = true := if_pos rfl
      have e : (if i < i + 1 then 1 else 0) = 1 := if_pos (by omega)
      rw [this, h, e]
      rw [if_neg (by omega)] at ih
      simp; omega
    · have : addM m i k = m k := if_neg (by omega)
      have e : (if i < k + 1 then 1 else 0) = 0 := if_neg (by omega)
      rw [this, e]
      rw [if_neg (by omega)] at ih; omega
theorem cnt_zero {m : Nat → Bool} : ∀ {k}, cnt m k = 0 → ∀ j, j < k → m j = true
  | k + 1, h, j, hj => by
    simp only [cnt] at h
    rcases Nat.lt_or_ge j k with hlt | hge
    · exact cnt_zero (by omega) j hlt
    · have : j = k := by omega
      subst this
      cases hm : m j with
      | true => rfl
      | false => rw [hm] at h; simp at h

theorem tv_congr {m m' : Nat → Bool} (t : Nat) : ∀ k, (∀ j, j < k → m j = m' j) → tv ops tr S0 m k t = tv ops tr S0 m' k t
  | 0, _ => rfl
  | k + 1, h => by
    simp only [tv]
    rw [tv_congr t k fun j hj => h j (by omega), h k (by omega)]
theorem ov_congr {m m' : Nat → Bool} : ∀ k, (∀ j, j < k → m j = m' j) → ∀ p, ov ops tr S0 m k p = ov ops tr S0 m' k p
  | 0, _, _ => rfl
  | k + 1, h, p => by
    have ih := ov_congr k fun j hj => h j (by omega)
    simp only [ov]
    rw [h k (by omega), ih p, funext ih]

structure Sim (ops : Array Oper) (tr : List Stp) (S0 Sn : St) (m : Nat → Bool) (T : St) : Prop where
  len : T.tmps.length = S0.tmps.length
  tmp : ∀ t, T.tmp t = tv ops tr S0 m ops.size t
  ob : ∀ o, T.ob o = ov ops tr S0 m ops.size o
  objs : T.objs.length ≤ Sn.objs.length

theorem Inv.congr {X : Cx} {D : Nat → Nat → Prop} {E : Env} {S T : St} {tm : List Value} (I : Inv X D E T tm) (h1 : T.tmps = S.tmps) (h2 : ∀ o, T.ob o = S.ob o) (h3 : T.objs.length ≤ S.objs.length) : Inv X D E S tm := by
  have h2' : ∀ o x, S.ob o = some x → T.ob o = some x := fun o x h => (h2 o).trans h
  refine ⟨fun o => (I.ob o).trans (h2 o), fun b k o m h => ?_, I.fr, I.pin, h1 ▸ I.tmps, fun o x h => I.obs o x (h2' o x h), h1 ▸ I.okt, fun o x h => I.oko o x (h2' o x h), fun o x h => I.dob o x (h2' o x h), fun o e xs l d v h => I.dcur o e xs l d v (h2' o _ h),
    fun o h => Nat.lt_of_lt_of_le (I.dlen o h) h3, I.dknown, fun o e xs l d v h => I.dver o e xs l d v (h2' o _ h)⟩
  obtain ⟨q1, q2, x, q3⟩ := I.dom b k o m h
  exact ⟨q1, q2, x, (h2 o).symm.trans q3⟩

theorem Steps'.done (T : Steps' C P rec ops nx0 S0 tr Sn) {m : Nat → Bool} (hm : ∀ j, j < ops.size → m j = true) {X : Cx} {D : Nat → Nat → Prop} {E : Env} {Z : St} {tm : List Value} (hs : Sim ops tr S0 Sn m Z) (I : Inv X D E Z tm) : Inv X D E Sn tm := by
  obtain ⟨h1, h2, h3, _⟩ := T.lex ops.size (Nat.le_refl _)
  rw [T.pn] at h1 h2 h3
  refine I.congr ?_ (fun o => ?_) hs.objs
  · refine List.ext_getElem (hs.len.trans h1.symm) fun t k1 k2 => ?_
    have e1 := hs.tmp t
    have e2 := h2 t
    rw [tv_congr t ops.size (m' := allM) fun j hj => hm j hj, ← e2] at e1
    unfold St.tmp at e1
    rw [List.getD_eq_getElem?_getD, List.getD_eq_getElem?_getD, List.getElem?_eq_getElem k1, List.getElem?_eq_getElem k2] at e1
    simpa using e1
  · rw [hs.ob, h3, ov_congr ops.size (m' := allM) fun j hj => hm j hj]

theorem Inv.drawn {X : Cx} {D : Nat → Nat → Prop} {E : Env} {S : St} {tm : List Value} (I : Inv X D E S tm) (n : Nat) : ∃ X', X'.W = { X.W with drawn := n } ∧ Inv X' D E S tm := by
  let X' : Cx := { X with W := { X.W with drawn := n } }
  have hc : ∀ a, X'.W.cell? a = X.W.cell? a := fun a => rfl
  have hf : ∀ a, X'.W.frozen? a = X.W.frozen? a := fun a => rfl
  have K : Keeps X X' D := ⟨fun b k v h1 h2 => ⟨h1, h2⟩, fun o e xs l d v h _ => ⟨xs, l, d, v, h, rfl, rfl⟩, fun o cs h _ => ⟨cs, h, rfl⟩,
    fun o e xs l d v h _ => ⟨xs, l, d, h, rfl, fun b k v h1 h2 => ⟨Or.inr h1, h2⟩, fun i hi c e' ys hc => ⟨⟨hi, hc⟩, fun _ _ _ _ _ h => h⟩⟩⟩
  exact ⟨X', rfl, I.ob, I.dom, ⟨I.fr.os, I.fr.tape, I.fr.output, I.fr.size, I.fr.block, I.fr.cell, I.fr.frozen⟩, I.pin, I.tmps.keeps K I.okt, fun o x h => (I.obs o x h).keeps K rfl (I.oko o x h) fun b k m hz => ⟨hz, rfl, fun v h => h⟩,
    I.okt, I.oko, I.dob, I.dcur, I.dlen, I.dknown, I.dver⟩

theorem mem_binds {o : Oper} {a : Nat} : a ∈ bindsOf o ↔ ∃ e ∈ o.after, Region.binds .any e = true ∧ e.on = a := by
  unfold bindsOf
  simp only [List.mem_map, List.mem_filter, Array.mem_toList_iff]
  constructor
  · rintro ⟨e, ⟨h1, h2⟩, h3⟩; exact ⟨e, h1, h2, h3⟩
  · rintro ⟨e, h1, h2, h3⟩; exact ⟨e, ⟨h1, h2⟩, h3⟩

theorem any_sound (hC : CtxOk C P) (hE : EntOk C P) (hrec : ∀ en todo S r, rec en todo S = some r → PointOk P en todo S r) {E : Env} (T : Steps' C P rec ops nx0 S0 tr Sn) (hord : orderOk ops (fpsOf tr) = true) :
    ∀ (fuel : Nat) (listed : Array Bool) (X : Cx) (D : Nat → Nat → Prop) (Z : St) (tm : List Value), listed.size = ops.size → CL ops (fun j => listed.getD j false) → cnt (fun j => listed.getD j false) ops.size ≤ fuel →
      Sim ops tr S0 Sn (fun j => listed.getD j false) Z → Inv X D E Z tm → (∀ o, D o 0 → o < nx0 ∨ ∃ j, j < ops.size ∧ listed.getD j false = true ∧ T.nx j ≤ o ∧ o < T.nx (j + 1)) →
      wpAny P .any ops (RegQ E Sn) fuel listed ⟨tm.toArray, []⟩ X.W := by
  obtain ⟨_, hedge, hcl⟩ := orderOk_ok hord
  intro fuel
  have fin : ∀ (listed : Array Bool) (X : Cx) (D : Nat → Nat → Prop) (Z : St) (tm : List Value), Sim ops tr S0 Sn (fun j => listed.getD j false) Z → Inv X D E Z tm → (∀ j, j < ops.size → listed.getD j false = true) →
      RegQ E Sn .normal ⟨tm.toArray, []⟩ X.W := fun listed X D Z tm hs I hm => ⟨rfl, rfl, X, D, rfl, T.done hm hs (by simpa using I)⟩
  have getD_eq : ∀ (listed : Array Bool) (j : Nat), listed.size = ops.size → j < ops.size → (listed.getD j true = false ↔ listed.getD j false = false) := fun listed j h hj => by
    have : listed[j]? = some (listed[j]'(by omega)) := Array.getElem?_eq_getElem _
    rw [Array.getD_eq_getD_getElem?, Array.getD_eq_getD_getElem?, this]; simp
  induction fuel with
  | zero =>
    intro listed X D Z tm hsz _ hc hs I _
    have hall := cnt_zero (m := fun j => listed.getD j false) (k := ops.size) (by omega)
    refine ⟨?_, fin listed X D Z tm hs I hall⟩
    cases hr : Region.ready .any ops listed with
    | nil => rfl
    | cons j l =>
      have hj : j ∈ Region.ready .any ops listed := by rw [hr]; exact List.mem_cons_self ..
      obtain ⟨h1, o, h2, _⟩ := mem_ready.1 hj
      have hlt := (Array.getElem?_eq_some_iff.1 h2).1
      have := hall j hlt
      rw [(getD_eq listed j hsz hlt).1 h1] at this; cases this
  | succ fuel ih =>
    intro listed X D Z tm hsz hclm hc hs I hD
    refine ⟨fun hr => fin listed X D Z tm hs I ?_, fun i hi => ?_⟩
    · intro j
      induction j using Nat.strongRecOn with
      | ind j jh =>
        intro hj
        cases hm : listed.getD j false with
        | true => rfl
        | false =>
          exfalso
          have ho : ops[j]? = some ops[j] := by simp [hj]
          have : j ∈ Region.ready .any ops listed := mem_ready.2 ⟨(getD_eq listed j hsz hj).2 hm, _, ho, fun e he hb => by
            have hlt := hedge j _ ho e.on (mem_binds.2 ⟨e, he, hb, rfl⟩)
            exact jh e.on hlt (by omega)⟩
          rw [hr] at this; cases this
    · obtain ⟨h1, o, ho, hdep⟩ := mem_ready.1 hi
      have hlt := (Array.getElem?_eq_some_iff.1 ho).1
      have hno := (getD_eq listed i hsz hlt).1 h1
      obtain ⟨_, s, ho', hst⟩ := T.get hlt
      rw [ho] at ho'; cases ho'
      obtain ⟨hnx, hstep, hpre, hnx1⟩ := T.step i o s ho hst
      have hmadd : ∀ j, (listed.setIfInBounds i true).getD j false = addM (fun j => listed.getD j false) i j := fun j => by
        unfold addM
        by_cases hji : j = i
        · subst hji
          rw [if_pos rfl, Array.getD_eq_getD_getElem?, Array.getElem?_setIfInBounds_self_of_lt (by omega)]; rfl
        · rw [if_neg hji, Array.getD_eq_getD_getElem?, Array.getElem?_setIfInBounds_ne (Ne.symm hji), ← Array.getD_eq_getD_getElem?]
      have hadd : (fun j => (listed.setIfInBounds i true).getD j false) = addM (fun j => listed.getD j false) i := funext hmadd
      have hcl' : CL ops (addM (fun j => listed.getD j false) i) := by
        intro j oj hoj hmj a ha
        unfold addM at hmj ⊢
        by_cases hai : a = i
        · rw [if_pos hai]
        · rw [if_neg hai]
          by_cases hji : j = i
          · subst hji
            rw [ho] at hoj; cases hoj
            obtain ⟨e, he, hb, rfl⟩ := mem_binds.1 ha
            exact hdep e he hb
          · rw [if_neg hji] at hmj
            exact hclm j oj hoj hmj a ha
      have R : Ready ops tr (fun j => listed.getD j false) i o s := by
        refine ⟨hno, fun j oj sj hj hoj hsj hc => ?_, fun k ok sk hk hok hsk hc => ?_⟩
        · have := hcl _ hcl' j i oj o _ _ hj hoj ho (fps_get hsj) (fps_get hst) hc (if_pos rfl)
          unfold addM at this
          rw [if_neg (by omega)] at this; exact this
        · cases hmk : listed.getD k false with
          | false => rfl
          | true =>
            have := hcl _ hclm i k o ok _ _ hk ho hok (fps_get hst) (fps_get hsk) hc hmk
            have this : listed.getD i false = true := this
            rw [hno] at this; cases this
      obtain ⟨_, lt, lo, _⟩ := T.lex i (by omega)
      have atmp : ∀ t ∈ readsOf ops o, Z.tmp t = (T.pre i).tmp t := fun t ht => by rw [hs.tmp, lt, tv_agree T ho hst R ht]
      have aob : ∀ p ∈ s.l, Z.ob p = (T.pre i).ob p := fun p hp => by rw [hs.ob, lo, ov_agree T ho hst R hp]
      have hfr : ∀ o', s.nx ≤ o' → o' < s.e.nx → ¬ D o' 0 := by
        intro o' q1 q2 q3
        rw [hnx] at q1
        rw [← hnx1] at q2
        rcases hD o' q3 with h | ⟨j, hj, hmj, q4, q5⟩
        · have := T.nx_mono 0 i (by omega)
          rw [Nat.zero_add, T.n0] at this; omega
        · rcases Nat.lt_trichotomy j i with hlt' | heq | hgt
          · have := T.nx_mono (j + 1) (i - (j + 1)) (by omega)
            rw [show j + 1 + (i - (j + 1)) = i by omega] at this; omega
          · subst heq; rw [hno] at hmj; cases hmj
          · have := T.nx_mono (i + 1) (j - (i + 1)) (by omega)
            rw [show i + 1 + (j - (i + 1)) = j by omega] at this; omega
      have go : ∀ v W', Done X D E Z tm s.nx s.e v W' → wpAny P .any ops (RegQ E Sn) fuel (listed.setIfInBounds i true) ((⟨tm.toArray, []⟩ : Act).put o.dst v) W' := by
        intro v W' hd
        obtain ⟨X', D', hw, I', hle, hD'⟩ := hd.inv o.dst
        rw [put_act, ← hw]
        refine ih (listed.setIfInBounds i true) X' D' (Z.apply o.dst s.e) _ (by simpa using hsz) (by rw [hadd]; exact hcl') ?_ ?_ I' fun o' ho' => ?_
        · rw [hadd]
          have := cnt_add (m := fun j => listed.getD j false) hno ops.size
          rw [if_pos hlt] at this; omega
        · rw [hadd]
          refine ⟨by rw [apply_len, hs.len], fun t => ?_, fun p => ?_, ?_⟩
          · rw [apply_tmp, tv_add T ho hst R, hs.len, hs.tmp]
          · rw [apply_ob, ov_add T ho hst R]
            exact obPuts_congr (hs.ob p)
          · rw [apply_objs]
            exact puts_le _ _ _ hs.objs (T.ids_lt ho hst)
        · rcases hD' o' ho' with h | h
          · rcases hD o' h with h | ⟨j, hj, hmj, h⟩
            · exact Or.inl h
            · refine Or.inr ⟨j, hj, ?_, h⟩
              rw [hmadd]; unfold addM
              split
              · rfl
              · exact hmj
          · refine Or.inr ⟨i, hlt, ?_, ?_⟩
            · rw [hmadd]; exact if_pos rfl
            · rw [← hnx, hnx1]; exact h
      unfold wpOp
      rw [ho]
      simp only []
      have hwt : Region.wanted o (yielded ops tm.toArray) = !s.skip := wanted_of I (guard_congr atmp hstep.g)
      rw [hwt]
      cases hsk : s.skip with
      | true =>
        obtain ⟨_, he⟩ := hstep.skip hsk
        simp only [Bool.not_true, Bool.false_eq_true, if_false]
        refine go undef X.W ?_
        rw [he]; exact undef_done I
      | false =>
        simp only [Bool.not_false, if_true]
        exact Or.inl (perf_sound hC hE hrec I (perf_congr atmp aob (hstep.perf hsk)) hfr go)

theorem region_sound (hC : CtxOk C P) (hE : EntOk C P) (hmix : P.follows .mixedOrders = true) (hrec : ∀ en todo S r, rec en todo S = some r → PointOk P en todo S r) {R : Type} {draw : Bool} {id : Nat} {S : St} {K : St → Option R} {r : R}
    (h : evOps C P rec ops S.objs.length ops.toList [] S (fun fps S => ordered draw ops fps (K S)) = some r) {X : Cx} {D : Nat → Nat → Prop} {E : Env} {tm : List Value} (I : Inv X D E S tm) :
    ∃ S', K S' = some r ∧ (Code.region id ops draw).wp P (RegQ E S') ⟨tm.toArray, []⟩ X.W := by
  obtain ⟨tr, S', ht, hk⟩ := trace_of h
  cases draw with
  | false => exact ⟨S', hk, wp_region_list (list_sound hC hE hrec ops.toList tr _ S X D tm ht I fun o ho => I.dlen o ho)⟩
  | true =>
    obtain ⟨hord, hk⟩ := br_none hk
    rw [List.nil_append] at hord
    refine ⟨S', hk, wp_region_any hmix ?_⟩
    obtain ⟨T⟩ := steps_mk ht
    obtain ⟨X', hw, I'⟩ := I.drawn (X.W.drawn + 1)
    rw [← hw]
    have h0 : ∀ j, (Array.replicate ops.size false).getD j false = false := fun j => by
      rw [Array.getD_eq_getD_getElem?]
      by_cases hj : j < ops.size
      · simp [hj]
      · simp [hj]
    have hcnt : ∀ k, cnt (fun j => (Array.replicate ops.size false).getD j false) k ≤ k := by
      intro k
      induction k with
      | zero => exact Nat.le_refl _
      | succ k ih => simp only [cnt]; split <;> omega
    have htv0 : ∀ (m : Nat → Bool), (∀ j, m j = false) → ∀ k t, tv ops tr S m k t = S.tmp t := by
      intro m hm k t
      induction k with
      | zero => rfl
      | succ k ih =>
        simp only [tv, hm, Bool.false_eq_true, false_and, if_false, ih]
        split <;> rfl
    have hov0 : ∀ (m : Nat → Bool), (∀ j, m j = false) → ∀ k p, ov ops tr S m k p = S.ob p := by
      intro m hm k p
      induction k with
      | zero => rfl
      | succ k ih =>
        simp only [ov, hm, Bool.false_eq_true, if_false, ih]
        split <;> rfl
    refine any_sound hC hE hrec T hord ops.size (Array.replicate ops.size false) X' D S tm (by simp) (fun j oj _ h => absurd ((h0 j).symm.trans h) (by simp)) (hcnt _) ⟨rfl, fun t => (htv0 _ h0 _ t).symm, fun p => (hov0 _ h0 _ p).symm, ?_⟩ I' fun o ho => Or.inl (I.dlen o ho)
    have := T.objs_mono ops.size 0 (by omega)
    rw [T.p0, Nat.zero_add, T.pn] at this
    exact this
end
end Go.Evr

namespace Go.Evr

theorem place_some {a : Nat} : ∀ {l : List Nat} {n : Nat}, place a l = some n → l[n]? = some a
  | b :: l, n, h => by
    simp only [place] at h
    split at h
    · rename_i hb; cases h; simp [hb]
    · split at h
      · rename_i k hk; cases h; simpa using place_some hk
      · cases h
theorem place_of {a : Nat} : ∀ {l : List Nat} {n : Nat}, l.Nodup → l[n]? = some a → place a l = some n
  | b :: l, 0, _, h => by simp at h; simp [place, h]
  | b :: l, n + 1, hn, h => by
    simp only [List.nodup_cons] at hn
    simp only [List.getElem?_cons_succ] at h
    have : b ≠ a := fun hb => hn.1 (hb ▸ List.mem_of_getElem? h)
    simp [place, this, place_of hn.2 h]
theorem addNew_pre : ∀ (m l : List Nat) {p a : Nat}, l[p]? = some a → (addNew l m)[p]? = some a
  | [], _, _, _, h => h
  | b :: m, l, p, a, h => by
    simp only [addNew]
    refine addNew_pre m _ ?_
    split
    · exact h
    · rw [List.getElem?_append_left (List.getElem?_eq_some_iff.1 h).1]; exact h

section
variable {X : Cx} {D : Nat → Nat → Prop} {E : Env} {S : St} {tm : List Value} {ls : List Nat}

def renX (X : Cx) (S : St) (ls : List Nat) : Cx where
  own := fun b k => match X.own b k with
    | none => none
    | some (o, m) => match place o ls with
      | some n => some (n, m)
      | none => none
  loc := fun n => X.loc (ls.getD n 0)
  ob := fun n => match ls[n]? with
    | some o => (S.ob o).map (Ob.ren (rf S ls))
    | none => none
  W := X.W

theorem renX_none {b k : Nat} (h : X.own b k = none) : (renX X S ls).own b k = none := by simp only [renX, h]
theorem renX_some {b k o n : Nat} {m : Bool} (h : X.own b k = some (o, m)) (hp : place o ls = some n) : (renX X S ls).own b k = some (n, m) := by simp only [renX, h, hp]
theorem renX_loc {o n : Nat} (hp : place o ls = some n) : (renX X S ls).loc n = X.loc o := by
  have := place_some hp
  simp only [renX]
  rw [List.getD_eq_getElem?_getD, this]; rfl
theorem renX_ob {o n : Nat} (hp : place o ls = some n) : (renX X S ls).ob n = (S.ob o).map (Ob.ren (rf S ls)) := by
  have := place_some hp
  simp only [renX, this]
theorem renX_arr {o n : Nat} {e : Ty} {xs : List e.den} {l d : Bool} {v : Nat} (hp : place o ls = some n) (h : (renX X S ls).ob n = some (.arr e xs l d v)) : ∃ v', S.ob o = some (.arr e xs l d v') ∧ v = 0 ∧ rf S ls o = some (n, v') := by
  rw [renX_ob hp] at h
  cases ho : S.ob o with
  | none => rw [ho] at h; cases h
  | some x =>
    rw [ho] at h
    cases x with
    | box _ => cases h
    | arr e' xs' l' d' v' =>
      simp only [Option.map_some, Ob.ren, Option.some.injEq, Ob.arr.injEq] at h
      obtain ⟨rfl, h2, rfl, rfl, rfl⟩ := h
      cases h2
      exact ⟨v', rfl, rfl, by unfold rf; rw [hp, ho]⟩
theorem renX_box {o n : Nat} {cs : List FV} (hp : place o ls = some n) (h : (renX X S ls).ob n = some (.box cs)) : ∃ cs', S.ob o = some (.box cs') ∧ cs = renL (rf S ls) cs' := by
  rw [renX_ob hp] at h
  cases ho : S.ob o with
  | none => rw [ho] at h; cases h
  | some x =>
    rw [ho] at h
    cases x with
    | arr _ _ _ _ _ => cases h
    | box cs' =>
      simp only [Option.map_some, Ob.ren, Option.some.injEq, Ob.box.injEq] at h
      exact ⟨cs', rfl, h.symm⟩

theorem renId_some {o n : Nat} (h : renId (rf S ls) o = some n) : place o ls = some n := by
  unfold renId rf at h
  cases hp : place o ls with
  | none => rw [hp] at h; cases h
  | some k => rw [hp] at h; exact h
theorem renTag_some {q : Nat × Nat} {p : Option (Nat × Nat)} {t : Tag} (h : renTag (rf S ls) (some (q, p)) = some t) : ∃ n, place q.1 ls = some n ∧ rf S ls q.1 = some (n, q.2) ∧ t = some ((n, 0), p) := by
  simp only [renTag] at h
  cases hr : rf S ls q.1 with
  | none => rw [hr] at h; cases h
  | some w =>
    obtain ⟨n, v⟩ := w
    rw [hr] at h
    simp only [] at h
    split at h
    · rename_i hv; subst hv; cases h
      refine ⟨n, ?_, rfl, rfl⟩
      unfold rf at hr
      cases hp : place q.1 ls with
      | none => rw [hp] at hr; cases hr
      | some k => rw [hp] at hr; rw [(Prod.mk.inj (Option.some.inj hr)).1]
    · cases h

theorem ren_live (hob : ∀ o, X.ob o = S.ob o) {t t' : Tag} (h : renTag (rf S ls) t = some t') (hl : tagLive (renX X S ls).ob t') : tagLive X.ob t := by
  cases t with
  | none => trivial
  | some q =>
    obtain ⟨q, p⟩ := q
    obtain ⟨n, h1, h2, rfl⟩ := renTag_some h
    obtain ⟨e, xs, l, d, h3⟩ := hl
    obtain ⟨v', h4, _, h5⟩ := renX_arr h1 h3
    rw [h2] at h5
    cases h5
    exact ⟨e, xs, l, d, (hob _).trans h4⟩
theorem ren_zone {t t' : Tag} (h : renTag (rf S ls) t = some t') (b k : Nat) (hz : zoneOf X.own t b k) : zoneOf (renX X S ls).own t' b k := by
  rcases hz with hz | ⟨q, rfl, hz⟩
  · exact Or.inl (renX_none hz)
  · obtain ⟨q, p⟩ := q
    obtain ⟨n, h1, h2, rfl⟩ := renTag_some h
    exact Or.inr ⟨_, rfl, renX_some hz h1⟩
theorem ren_path (hob : ∀ o, X.ob o = S.ob o) {t t' : Tag} (h : renTag (rf S ls) t = some t') {e : Ty} {xs : List e.den} {v : Value} (hp : PathOk X t e xs v) : PathOk (renX X S ls) t' e xs v := by
  cases t with
  | none => cases h; trivial
  | some q =>
    obtain ⟨q, p⟩ := q
    obtain ⟨n, h1, h2, rfl⟩ := renTag_some h
    cases p with
    | none => trivial
    | some w =>
      obtain ⟨i, c⟩ := w
      intro e' us l d h3
      obtain ⟨v', h4, _, h5⟩ := renX_arr h1 h3
      rw [h2] at h5
      cases h5
      obtain ⟨b, k, cap, q1, q2⟩ := hp e' us l d ((hob _).trans h4)
      exact ⟨b, k, cap, (renX_loc h1).trans q1, q2⟩

mutual
theorem ren_rel (hob : ∀ o, X.ob o = S.ob o) : ∀ {f : FV} {v : Value}, VRel X f v → VRel (renX X S ls) (f.ren (rf S ls)) v
  | .bad, _, _ => trivial
  | .int _ _, _, h => h
  | .bool _, _, h => h
  | .str _, _, h => h
  | .nsl, _, h => h
  | .nilp, _, h => h
  | .nilb _, _, h => h
  | .isl t e xs, v, h => by
    simp only [FV.ren]
    cases ht : renTag (rf S ls) t with
    | none => trivial
    | some t' => exact ⟨h.1, fun hl => (h.2.1 (ren_live hob ht hl)).zone (ren_zone ht), ren_path hob ht h.2.2⟩
  | .fsl o, v, h => by
    simp only [FV.ren]
    cases ht : renId (rf S ls) o with
    | none => trivial
    | some n =>
      have hp := renId_some ht
      refine ⟨h.1, fun e xs l d ver h1 => ?_⟩
      obtain ⟨v', h2, _⟩ := renX_arr hp h1
      obtain ⟨a, cap, h3, h4⟩ := h.2 _ _ _ _ _ ((hob _).trans h2)
      exact ⟨a, cap, (renX_loc hp).trans h3, h4⟩
  | .osl o lo n, v, h => by
    simp only [FV.ren]
    cases ht : renId (rf S ls) o with
    | none => trivial
    | some n =>
      have hp := renId_some ht
      refine ⟨h.1, fun e xs l d ver h1 => ?_⟩
      obtain ⟨v', h2, _⟩ := renX_arr hp h1
      obtain ⟨a, cap, h3, h4⟩ := h.2 _ _ _ _ _ ((hob _).trans h2)
      exact ⟨a, cap, (renX_loc hp).trans h3, h4⟩
  | .ptr o off, v, h => by
    simp only [FV.ren]
    cases ht : renId (rf S ls) o with
    | none => trivial
    | some n =>
      have hp := renId_some ht
      refine ⟨h.1, fun cs h1 => ?_⟩
      obtain ⟨cs', h2, _⟩ := renX_box hp h1
      obtain ⟨b, k, h3, h4⟩ := h.2 _ ((hob _).trans h2)
      exact ⟨b, k, (renX_loc hp).trans h3, h4⟩
  | .ept o i off, v, h => by
    simp only [FV.ren]
    cases ht : renId (rf S ls) o with
    | none => trivial
    | some n =>
      have hp := renId_some ht
      refine ⟨h.1, fun e xs l d ver h1 => ?_⟩
      obtain ⟨v', h2, _⟩ := renX_arr hp h1
      obtain ⟨b, k, cap, h3, h4⟩ := h.2 _ _ _ _ _ ((hob _).trans h2)
      exact ⟨b, k, cap, (renX_loc hp).trans h3, h4⟩
  | .vpt t cs, v, h => by
    simp only [FV.ren]
    cases ht : renTag (rf S ls) t with
    | none => trivial
    | some t' =>
      obtain ⟨b, k, h1, h2⟩ := h
      refine ⟨b, k, h1, fun hl => ?_⟩
      obtain ⟨us, h3, h4⟩ := h2 (ren_live hob ht hl)
      exact ⟨us, h3.mono fun b k v hz hv => ⟨ren_zone ht b k hz, hv⟩, ren_rels hob h4⟩
  | .clo g a b, v, h => by
    obtain ⟨fs, cs, h1, h2, h3⟩ := h
    exact ⟨fs, cs, h1, ren_rels hob h2, ren_rels hob h3⟩
  | .agg cs, v, h => by
    obtain ⟨us, h1, h2⟩ := h
    exact ⟨us, h1, ren_rels hob h2⟩
  | .tup cs, v, h => by
    obtain ⟨us, h1, h2⟩ := h
    exact ⟨us, h1, ren_rels hob h2⟩
theorem ren_rels (hob : ∀ o, X.ob o = S.ob o) : ∀ {l : List FV} {vs : List Value}, LRel X l vs → LRel (renX X S ls) (renL (rf S ls) l) vs
  | [], _, h => h
  | f :: l, vs, h => by
    obtain ⟨v, us, h1, h2, h3⟩ := h
    exact ⟨v, us, h1, ren_rel hob h2, ren_rels hob h3⟩
end

theorem place_lt {o n : Nat} (h : place o ls = some n) : n < ls.length := (List.getElem?_eq_some_iff.1 (place_some h)).1

mutual
theorem ren_ok : ∀ (f : FV), (f.ren (rf S ls)).ok fun n v => n < ls.length ∧ v = 0
  | .bad => trivial
  | .int _ _ => trivial
  | .bool _ => trivial
  | .str _ => trivial
  | .nsl => trivial
  | .nilp => trivial
  | .nilb _ => trivial
  | .isl t e xs => by
    simp only [FV.ren]
    cases ht : renTag (rf S ls) t with
    | none => trivial
    | some t' =>
      show ∀ q, t' = some q → _
      intro q hq
      cases t with
      | none => cases ht; cases hq
      | some w =>
        obtain ⟨w, p⟩ := w
        obtain ⟨n, h1, h2, rfl⟩ := renTag_some ht
        cases hq
        exact ⟨place_lt h1, rfl⟩
  | .fsl o => by
    simp only [FV.ren]
    cases ht : renId (rf S ls) o with
    | none => trivial
    | some n => exact ⟨place_lt (renId_some ht), rfl⟩
  | .osl o lo n => by
    simp only [FV.ren]
    cases ht : renId (rf S ls) o with
    | none => trivial
    | some n => exact ⟨place_lt (renId_some ht), rfl⟩
  | .ptr o off => by
    simp only [FV.ren]
    cases ht : renId (rf S ls) o with
    | none => trivial
    | some n => exact ⟨place_lt (renId_some ht), rfl⟩
  | .ept o i off => by
    simp only [FV.ren]
    cases ht : renId (rf S ls) o with
    | none => trivial
    | some n => exact ⟨place_lt (renId_some ht), rfl⟩
  | .vpt t cs => by
    simp only [FV.ren]
    cases ht : renTag (rf S ls) t with
    | none => trivial
    | some t' =>
      show (∀ q, t' = some q → _) ∧ _
      refine ⟨fun q hq => ?_, ren_oks cs⟩
      cases t with
      | none => cases ht; cases hq
      | some w =>
        obtain ⟨w, p⟩ := w
        obtain ⟨n, h1, h2, rfl⟩ := renTag_some ht
        cases hq
        exact ⟨place_lt h1, rfl⟩
  | .clo g a b => ⟨ren_oks a, ren_oks b⟩
  | .agg cs => ren_oks cs
  | .tup cs => ren_oks cs
theorem ren_oks : ∀ (l : List FV), okL (fun n v => n < ls.length ∧ v = 0) (renL (rf S ls) l)
  | [] => trivial
  | f :: l => ⟨ren_ok f, ren_oks l⟩
end

theorem keep_rel (L : List Nat) : ∀ {l : List FV} {vs : List Value} (i : Nat), LRel X l vs → LRel X (keep L i l) vs
  | [], _, _, h => h
  | f :: l, vs, i, h => by
    obtain ⟨v, us, h1, h2, h3⟩ := h
    refine ⟨v, us, h1, ?_, keep_rel L (i + 1) h3⟩
    split
    · exact h2
    · trivial

theorem ren_obrel (hob : ∀ o, X.ob o = S.ob o) {o n : Nat} (hp : place o ls = some n) {x : Ob} (h : ObRel X o x) : ObRel (renX X S ls) n (x.ren (rf S ls)) := by
  have z0 : ∀ b k, zoneOf X.own none b k → zoneOf (renX X S ls).own none b k := fun b k hz => ren_zone (t := none) (t' := none) rfl b k hz
  cases x with
  | box cs =>
    obtain ⟨b, k, us, h1, h2, h3⟩ := h
    refine ⟨b, k, us, (renX_loc hp).trans h1, ren_rels hob h2, fun j v hj => ?_⟩
    obtain ⟨q1, q2, q3⟩ := h3 j v hj
    exact ⟨renX_some q1 hp, q2, q3⟩
  | arr e xs l d v =>
    obtain ⟨a, cap, h1, h2, h3⟩ := h
    refine ⟨a, cap, (renX_loc hp).trans h1, h2, h3.imp id ?_⟩
    rintro ⟨b, k, rfl, h4, h5⟩
    refine ⟨b, k, rfl, fun hl => ⟨fun j hj => renX_some ((h4 hl).1 j hj) hp, (h4 hl).2⟩, ?_⟩
    cases l with
    | false =>
      intro i hi
      obtain ⟨cs, q1, q2⟩ := h5 i hi
      exact ⟨cs, q1.zone z0, q2.mono fun b k v hz hv => ⟨z0 b k hz, hv⟩⟩
    | true =>
      cases d with
      | true =>
        obtain ⟨ZR, q1, q2, q3⟩ := h5
        exact ⟨ZR, fun i b' k' hz => renX_some (q1 i b' k' hz) hp, q2, q3⟩
      | false =>
        intro i hi
        obtain ⟨cs, q1, q2⟩ := h5 i hi
        exact ⟨cs, q1.zone z0, q2⟩

theorem norm_sound {L : List Nat} {S' : St} {np : Nat} (h : norm np L S = some S') (I : Inv X D E S tm) (hn : E.np = np) : ∃ X' D', X'.W = X.W ∧ Inv X' D' E S' tm := by
  unfold norm at h
  simp only [] at h
  generalize hl0 : addNew (List.range np) ((keep L 0 S.tmps).flatMap (idsOf 6)) = l0 at h
  generalize hl1 : addNew l0 (l0.flatMap (idsIn S)) = l1 at h
  generalize hl2 : addNew l1 (l1.flatMap (idsIn S)) = ls at h
  split at h
  · rename_i hnd
    cases h
    have hnd := nodupB_iff.1 hnd
    have hpre : ∀ p, p < np → ls[p]? = some p := fun p hp => by
      rw [← hl2]; refine addNew_pre _ _ ?_
      rw [← hl1]; refine addNew_pre _ _ ?_
      rw [← hl0]; refine addNew_pre _ _ ?_
      simp [hp]
    have hobS : ∀ n, (⟨renL (rf S ls) (keep L 0 S.tmps), ls.map fun o => (S.ob o).map (Ob.ren (rf S ls))⟩ : St).ob n = (renX X S ls).ob n := fun n => by
      simp only [St.ob, renX, List.getElem?_map]
      cases ls[n]? <;> rfl
    have hin : ∀ n x, (renX X S ls).ob n = some x → ∃ o y, place o ls = some n ∧ S.ob o = some y ∧ x = y.ren (rf S ls) ∧ n < ls.length := fun n x h => by
      cases ho : ls[n]? with
      | none => simp only [renX, ho] at h; cases h
      | some o =>
        simp only [renX, ho] at h
        cases hy : S.ob o with
        | none => rw [hy] at h; cases h
        | some y =>
          rw [hy] at h
          cases h
          exact ⟨o, y, place_of hnd ho, hy, rfl, (List.getElem?_eq_some_iff.1 ho).1⟩
    refine ⟨renX X S ls, fun n v => n < ls.length ∧ v = 0, rfl, ⟨fun n => (hobS n).symm, fun b k n m ho => ?_, I.fr, fun p hp => ?_, ren_rels I.ob (keep_rel L 0 I.tmps), fun n x hx => ?_, ren_oks _, fun n x hx => ?_, fun n x hx => ?_, fun n e xs l d v hx => ?_, fun n hn => ?_, fun n v hv => ⟨hv.1, rfl⟩, fun n e xs l d v hx v' hv => by have := hv.2; omega⟩⟩
    · cases hw : X.own b k with
      | none => rw [renX_none hw] at ho; cases ho
      | some q =>
        obtain ⟨o, m'⟩ := q
        obtain ⟨q1, q2, x, q3⟩ := I.dom b k o m' hw
        cases hp : place o ls with
        | none => simp only [renX, hw, hp] at ho; cases ho
        | some n' =>
          rw [renX_some hw hp] at ho
          cases ho
          refine ⟨q1, q2, x.ren (rf S ls), (hobS _).trans ?_⟩
          rw [renX_ob hp, q3]; rfl
    · have hp' : p < np := by omega
      have h1 := hpre p hp'
      refine ⟨?_, (List.getElem?_eq_some_iff.1 h1).1, rfl⟩
      rw [renX_loc (place_of hnd h1)]; exact (I.pin p hp).1
    · rw [hobS] at hx
      obtain ⟨o, y, h1, h2, rfl, _⟩ := hin n x hx
      exact ren_obrel I.ob h1 (I.obs o y h2)
    · rw [hobS] at hx
      obtain ⟨o, y, h1, h2, rfl, _⟩ := hin n x hx
      cases y with
      | box cs => exact ren_oks cs
      | arr _ _ _ _ _ => trivial
    · rw [hobS] at hx
      obtain ⟨o, y, h1, h2, rfl, h3⟩ := hin n x hx
      exact ⟨h3, rfl⟩
    · rw [hobS] at hx
      obtain ⟨o, y, h1, h2, h4, h3⟩ := hin n _ hx
      refine ⟨h3, ?_⟩
      cases y with
      | box cs => cases h4
      | arr _ _ _ _ _ => simp only [Ob.ren, Ob.arr.injEq] at h4; exact h4.2.2.2.2
    · show n < (ls.map _).length
      rw [List.length_map]; exact hn.1
  · cases h
end
end Go.Evr

namespace Go.Evr
section
variable {C : Ctx} {P : Program}

theorem finish_sound (hC : CtxOk C P) {en : Entry} {fn : Func} (hf : P.funcs[en.fid]? = some fn) {S : St} {r : en.R} (h : finish C en fn.results S = some r) {X : Cx} {D : Nat → Nat → Prop} {E : Env} {tm : List Value} (I : Inv X D E S tm)
    (hn : E.np = pins en.ps) (hp : PinsOk E.L0 en.ps E.us 0) {todo : List Item} {cs : List Frame} : Ends P en.fid (lone { (base en.fid).at ⟨tm.toArray, []⟩ todo with mode := .returning } cs X.W) cs (Post en r E.W0 E.R0 E.us) := by
  obtain ⟨v, h1, h2⟩ := finish_run (P := P) hC h I hn hp
  exact ⟨v, X.W, _, h2, .refl _ _, rfl, rfl, rfl, rfl, fn, hf, h1⟩

theorem walk_sound (hC : CtxOk C P) (hE : EntOk C P) (hmix : P.follows .mixedOrders = true) (rec : Rec) (hrec : ∀ en todo S r, rec en todo S = some r → PointOk P en todo S r) {en : Entry} {fn : Func} (hf : P.funcs[en.fid]? = some fn) :
    ∀ (n : Nat) (todo : List Item) (S : St) (r : en.R), walk C P rec en fn.results n todo S = some r → WalkOk P en todo S r := by
  intro n
  induction n with
  | zero => intro todo S r h; cases h
  | succ n ih =>
    intro todo S r h X D E tm I hn hp cs
    have loop : ∀ c k, toLoop C rec en c k S = some r → Ends P en.fid (lone ((base en.fid).at ⟨tm.toArray, []⟩ (.code c :: .inLoop c :: k)) cs X.W) cs (Post en r E.W0 E.R0 E.us) := by
      intro c k h
      unfold toLoop at h
      split at h
      · rename_i L _
        split at h
        · rename_i S' hS
          obtain ⟨X', D', hw, I'⟩ := norm_sound hS I hn
          rw [← hw]
          exact hrec en _ S' r h X' D' E tm I' hn hp cs
        · cases h
      · cases h
    match todo, h with
    | [], h =>
      exact Ends.steps (.one step_end) (finish_sound hC hf h I hn hp)
    | .code c :: k, h =>
      cases c with
      | skip => exact Ends.steps (.one step_skip) (ih k S r h X D E tm I hn hp cs)
      | label l => exact Ends.steps (.one step_label) (ih k S r h X D E tm I hn hp cs)
      | region id ops draw =>
        obtain ⟨S', hK, hw⟩ := region_sound (C := C) (P := P) (rec := rec) (ops := ops) hC hE hmix hrec (id := id) (draw := draw) h I
        obtain ⟨e, a', w', ⟨rfl, hd, X', D', hX, I'⟩, harr⟩ := hw (base en.fid) k cs
        refine Ends.steps harr ?_
        subst hX
        have := ih k S' r hK X' D' E a'.tmps.toList I' hn hp cs
        have ha : a' = ⟨a'.tmps.toList.toArray, []⟩ := by cases a'; simp at hd ⊢; exact hd
        rw [← ha] at this
        exact this
      | seq a b => exact Ends.steps (.one step_seq) (ih _ S r h X D E tm I hn hp cs)
      | cond c a b =>
        have hrel := ev_rel I c
        simp only [walk] at h
        cases hc : S.ev c with
        | bool q =>
          rw [hc] at h hrel
          have hq : (⟨tm.toArray, []⟩ : Act).eval c = .bool q := hrel
          refine Ends.steps (.one (step_cond hq)) ?_
          cases c with
          | tmp t =>
            have hb := I.setBool (t := t) (q := q) hc
            cases q with
            | true => exact ih _ _ r h X D E tm hb hn hp cs
            | false => exact ih _ _ r h X D E tm hb hn hp cs
          | _ =>
            cases q with
            | true => exact ih _ _ r h X D E tm I hn hp cs
            | false => exact ih _ _ r h X D E tm I hn hp cs
        | nilb m =>
          rw [hc] at h hrel
          obtain ⟨q, hq, hqm⟩ := hrel
          cases c with
          | tmp t =>
            have hsel : walk C P rec en fn.results n (.code (if q = true then a else b) :: k) (S.set (some t) (.bool q)) = some r := by
              unfold nilbr at h
              simp only [nsame] at h
              by_cases hm : m = 0
              · subst hm
                simp only [beq_self_eq_true, br] at h
                unfold both at h
                split at h
                · rename_i heq
                  cases q with
                  | true => exact h
                  | false => rw [heq] at h; exact h
                · cases h
              · have hq0 : q = false := by
                  cases q with
                  | true => exact absurd (hqm rfl) hm
                  | false => rfl
                subst hq0
                rw [show (m == 0) = false by simpa using hm] at h
                exact h
            have hI : Inv X D E (S.set (some t) (.bool q)) tm := by
              have ht : tm.toArray.getD t undef = .bool q := hq
              have hset : tm.set t (.bool q) = tm := by
                rcases Nat.lt_or_ge t tm.length with hlt | hge
                · have hget : tm[t] = .bool q := by
                    rw [Array.getD_eq_getD_getElem?] at ht
                    simpa [hlt] using ht
                  rw [← hget]; exact List.set_getElem_self hlt
                · exact List.set_eq_of_length_le hge
              have hT := I.tmps.set t (f := .bool q) (v := .bool q) rfl
              rw [hset] at hT
              exact ⟨I.ob, I.dom, I.fr, I.pin, hT, I.obs, okL.set t I.okt trivial, I.oko, I.dob, I.dcur, I.dlen, I.dknown, I.dver⟩
            refine Ends.steps (.one (step_cond hq)) ?_
            cases q with
            | true => exact ih _ _ r hsel X D E tm hI hn hp cs
            | false => exact ih _ _ r hsel X D E tm hI hn hp cs
          | _ => cases h
        | _ => rw [hc] at h; cases h
      | block id c => exact Ends.steps (.one step_block) (ih _ S r h X D E tm I hn hp cs)
      | loop c =>
        exact Ends.steps (.one step_loop) (loop c k h)
      | exit id =>
        simp only [walk] at h
        cases hk : exitTo id k with
        | none => rw [hk] at h; cases h
        | some k' =>
          rw [hk] at h
          exact Ends.steps (.one (step_exit hk)) (ih k' S r h X D E tm I hn hp cs)
      | ret => exact Ends.steps (.one step_ret) (finish_sound hC hf h I hn hp)
      | rangeFunc _ _ _ _ => cases h
      | scope _ => cases h
      | goto _ => cases h
      | refuse _ => cases h
    | .inBlock id :: k, h => exact Ends.steps (.one step_inBlock) (ih k S r h X D E tm I hn hp cs)
    | .inLoop c :: k, h => exact Ends.steps (.one step_inLoop) (loop c k h)
    | .inScope _ :: _, h => cases h
    | .inRegion _ _ :: _, h => cases h
    | .inRangeFunc _ :: _, h => cases h
    | .endRangeFunc _ :: _, h => cases h
    | .beginRound :: _, h => cases h
    | .call _ _ _ _ :: _, h => cases h
    | .extern _ _ :: _, h => cases h
/-- Whatever the evaluator answers, at however many rounds, is true. -/
theorem runs_sound (hC : CtxOk C P) (hE : EntOk C P) (hmix : P.follows .mixedOrders = true) : ∀ (n : Nat) (en : Entry) (todo : List Item) (S : St) (r : en.R), runs C P n en todo S = some r → PointOk P en todo S r
  | 0, _, _, _, _, h => by cases h
  | n + 1, en, todo, S, r, h => by
    unfold runs body at h
    split at h
    · rename_i fn hf
      exact walk_sound hC hE hmix (runs C P n) (runs_sound hC hE hmix n) hf 4000 _ S r h
    · cases h
end

/-! ### However many rounds -/
def Le {α : Type} (a b : Option α) : Prop := ∀ r, a = some r → b = some r
def RecLe (a b : Rec) : Prop := ∀ en todo S, Le (a en todo S) (b en todo S)
structure Cont {α : Type} (F : Rec → Option α) : Prop where
  mono : ∀ a b, RecLe a b → Le (F a) (F b)
  cont : ∀ (ch : Nat → Rec) (sup : Rec), (∀ n, RecLe (ch n) (ch (n + 1))) → (∀ en todo S r, sup en todo S = some r → ∃ n, ch n en todo S = some r) → ∀ r, F sup = some r → ∃ n, F (ch n) = some r

theorem chain_le {ch : Nat → Rec} (h : ∀ n, RecLe (ch n) (ch (n + 1))) (n : Nat) : ∀ d, RecLe (ch n) (ch (n + d))
  | 0 => fun _ _ _ _ h => h
  | d + 1 => fun en todo S r hr => h (n + d) en todo S r (chain_le h n d en todo S r hr)

section
variable {α β : Type}
theorem Cont.const (x : Option α) : Cont fun _ => x := ⟨fun _ _ _ _ h => h, fun _ _ _ _ _ h => ⟨0, h⟩⟩
theorem Cont.app (en : Entry) (todo : List Item) (S : St) : Cont fun rec => rec en todo S := ⟨fun _ _ h => h en todo S, fun _ _ _ h r => h en todo S r⟩
theorem Cont.bd {G : Rec → Option α} {H : α → Rec → Option β} (g : Cont G) (h : ∀ y, Cont (H y)) : Cont fun rec => Evr.bd (G rec) fun y => H y rec := by
  refine ⟨fun a b hab r hr => ?_, fun ch sup hch hs r hr => ?_⟩
  · obtain ⟨y, h1, h2⟩ := bd_some hr
    show Evr.bd (G b) _ = _
    rw [g.mono a b hab y h1]
    exact (h y).mono a b hab r h2
  · obtain ⟨y, h1, h2⟩ := bd_some hr
    obtain ⟨n, k1⟩ := g.cont ch sup hch hs y h1
    obtain ⟨n', k2⟩ := (h y).cont ch sup hch hs r h2
    refine ⟨n + n', ?_⟩
    show Evr.bd (G _) _ = _
    rw [g.mono _ _ (chain_le hch n n') y k1]
    have := (h y).mono _ _ (chain_le hch n' n) r k2
    rw [Nat.add_comm n' n] at this; exact this
theorem Cont.br {A B : Rec → Option α} (b : Bool) (ha : Cont A) (hb : Cont B) : Cont fun rec => Evr.br b (A rec) (B rec) := by cases b <;> assumption
theorem both_some {x y : Option α} {r : α} : both x y = some r ↔ x = some r ∧ y = some r := by
  unfold both
  constructor
  · intro h
    split at h
    · rename_i he; exact ⟨h, he ▸ h⟩
    · cases h
  · rintro ⟨h1, h2⟩; rw [if_pos (h1.trans h2.symm)]; exact h1
theorem Cont.both {A B : Rec → Option α} (ha : Cont A) (hb : Cont B) : Cont fun rec => Evr.both (A rec) (B rec) := by
  refine ⟨fun a b hab r hr => ?_, fun ch sup hch hs r hr => ?_⟩
  · obtain ⟨h1, h2⟩ := both_some.1 hr
    exact both_some.2 ⟨ha.mono a b hab r h1, hb.mono a b hab r h2⟩
  · obtain ⟨h1, h2⟩ := both_some.1 hr
    obtain ⟨n, k1⟩ := ha.cont ch sup hch hs r h1
    obtain ⟨n', k2⟩ := hb.cont ch sup hch hs r h2
    refine ⟨n + n', both_some.2 ⟨ha.mono _ _ (chain_le hch n n') r k1, ?_⟩⟩
    have := hb.mono _ _ (chain_le hch n' n) r k2
    rw [Nat.add_comm n' n] at this; exact this
theorem Cont.gd {A : Rec → Option α} (ha : Cont A) : ∀ gs : List Bool, Cont fun rec => Evr.gd gs (A rec)
  | [] => ha
  | b :: bs => Cont.br b (Cont.gd ha bs) (Cont.const none)
end

section
variable (C : Ctx) (P : Program) {R : Type}
theorem callE_cont (en : Entry) (x : (argT en.ps).den) : Cont fun rec => callE P rec en x := by
  unfold callE
  cases en.hook with
  | some h => exact Cont.const _
  | none =>
    cases codeOf P en with
    | none => exact Cont.const _
    | some q => exact Cont.app _ _ _
theorem evOne_cont (nx : Nat) (o : Oper) (S : St) {K : Rec → Fp → St → Nat → Option R} (hK : ∀ fp S nx, Cont fun rec => K rec fp S nx) : Cont fun rec => evOne C P rec nx o S (K rec) := by
  have evop : ∀ op, Cont fun rec => (match evOp C nx S.ev op S.ob with
      | some (l, e) => Evr.br (Nat.ble nx e.nx) (Evr.gd e.guards (K rec (effFp l e) (S.apply o.dst e) e.nx)) none
      | none => none) := by
    intro op
    cases evOp C nx S.ev op S.ob with
    | none => exact Cont.const _
    | some q => exact Cont.br _ (Cont.gd (hK _ _ _) _) (Cont.const _)
  unfold evOne
  cases ho : o.op with
  | pick c a b =>
    simp only []
    cases S.ev c with
    | bool q => exact Cont.br q (hK _ _ _) (hK _ _ _)
    | _ => exact Cont.const _
  | call c =>
    obtain ⟨cal, args, ats⟩ := c
    cases cal with
    | value f =>
      simp only []
      cases S.ev f with
      | clo g first caps =>
        simp only []
        cases asked C nx g (first ++ args.toList.map S.ev ++ caps) S.ob with
        | none => exact Cont.const _
        | some w =>
          simp only []
          refine Cont.bd (callE_cont P _ _) fun y => ?_
          cases w.2.fin y with
          | none => exact Cont.const _
          | some e => exact Cont.br _ (Cont.gd (hK _ _ _) _) (Cont.const _)
      | _ => exact Cont.const _
    | _ => have := evop o.op; rw [ho] at this; exact this
  | _ => have := evop o.op; rw [ho] at this; exact this
theorem evOps_cont (all : Array Oper) {K : Rec → List Fp → St → Option R} (hK : ∀ acc S, Cont fun rec => K rec acc S) : ∀ (l : List Oper) (nx : Nat) (acc : List Fp) (S : St), Cont fun rec => evOps C P rec all nx l acc S (K rec)
  | [], _, acc, S => by
    simp only [evOps]
    exact hK acc S
  | o :: l, nx, acc, S => by
    simp only [evOps]
    cases o.guard with
    | none => exact evOne_cont C P nx o S fun fp S nx => evOps_cont all hK l nx _ S
    | some w =>
      obtain ⟨j, want⟩ := w
      simp only []
      cases (all[j]?).bind (·.dst) with
      | none => exact Cont.const _
      | some d =>
        simp only []
        cases S.tmp d with
        | bool q =>
          cases want with
          | true => exact Cont.br q (evOne_cont C P nx o _ fun fp S nx => evOps_cont all hK l nx _ S) (evOps_cont all hK l nx _ _)
          | false => exact Cont.br q (evOps_cont all hK l nx _ _) (evOne_cont C P nx o _ fun fp S nx => evOps_cont all hK l nx _ S)
        | _ => exact Cont.const _
theorem ordered_cont (draw : Bool) (ops : Array Oper) (fps : List Fp) {K : Rec → Option R} (hK : Cont K) : Cont fun rec => ordered draw ops fps (K rec) := by
  cases draw with
  | true => exact Cont.br _ hK (Cont.const _)
  | false => exact hK
theorem toLoop_cont (en : Entry) (c : Code) (k : List Item) (S : St) : Cont fun rec => toLoop C rec en c k S := by
  unfold toLoop
  cases liveAt C en.fid c with
  | none => exact Cont.const _
  | some L =>
    simp only []
    cases norm (pins en.ps) L S with
    | none => exact Cont.const _
    | some S' => exact Cont.app _ _ _
theorem walk_cont (en : Entry) (rv : Array ResultVar) : ∀ (n : Nat) (todo : List Item) (S : St), Cont fun rec => walk C P rec en rv n todo S
  | 0, _, _ => by simp only [walk]; exact Cont.const _
  | n + 1, [], S => by simp only [walk]; exact Cont.const _
  | n + 1, .code c :: k, S => by
    cases c with
    | skip => simp only [walk]; exact walk_cont en rv n k S
    | label l => simp only [walk]; exact walk_cont en rv n k S
    | region id ops draw => simp only [walk]; exact evOps_cont C P ops (fun acc S => ordered_cont draw ops acc (walk_cont en rv n k S)) _ _ _ _
    | seq a b => simp only [walk]; exact walk_cont en rv n _ S
    | cond c a b =>
      simp only [walk]
      cases S.ev c with
      | bool q =>
        cases c with
        | tmp t => exact Cont.br q (walk_cont en rv n _ _) (walk_cont en rv n _ _)
        | _ => exact Cont.br q (walk_cont en rv n _ _) (walk_cont en rv n _ _)
      | nilb m =>
        cases c with
        | tmp t => exact Cont.br _ (Cont.both (walk_cont en rv n _ _) (walk_cont en rv n _ _)) (walk_cont en rv n _ _)
        | _ => exact Cont.const _
      | _ => exact Cont.const _
    | block id c => simp only [walk]; exact walk_cont en rv n _ S
    | loop c => simp only [walk]; exact toLoop_cont C en c k S
    | exit id =>
      simp only [walk]
      cases exitTo id k with
      | none => exact Cont.const _
      | some k' => exact walk_cont en rv n k' S
    | ret => simp only [walk]; exact Cont.const _
    | _ => simp only [walk]; exact Cont.const _
  | n + 1, .inBlock id :: k, S => by simp only [walk]; exact walk_cont en rv n k S
  | n + 1, .inLoop c :: k, S => by simp only [walk]; exact toLoop_cont C en c k S
  | n + 1, .inScope _ :: _, S => by simp only [walk]; exact Cont.const _
  | n + 1, .inRegion _ _ :: _, S => by simp only [walk]; exact Cont.const _
  | n + 1, .inRangeFunc _ :: _, S => by simp only [walk]; exact Cont.const _
  | n + 1, .endRangeFunc _ :: _, S => by simp only [walk]; exact Cont.const _
  | n + 1, .beginRound :: _, S => by simp only [walk]; exact Cont.const _
  | n + 1, .call _ _ _ _ :: _, S => by simp only [walk]; exact Cont.const _
  | n + 1, .extern _ _ :: _, S => by simp only [walk]; exact Cont.const _
theorem body_cont (en : Entry) (todo : List Item) (S : St) : Cont fun rec => body C P rec en todo S := by
  unfold body
  cases P.funcs[en.fid]? with
  | none => exact Cont.const _
  | some fn => exact walk_cont C P en fn.results 4000 _ S

theorem runs_le : ∀ n, RecLe (runs C P n) (runs C P (n + 1))
  | 0 => fun _ _ _ _ h => by cases h
  | n + 1 => fun en todo S r h => (body_cont C P en todo S).mono _ _ (runs_le n) r h
theorem MM_some {en : Entry} {todo : List Item} {S : St} {r : en.R} : MM C P en todo S = some r ↔ ∃ n, runs C P n en todo S = some r := by
  unfold MM
  constructor
  · intro h
    split at h
    · rename_i hx
      cases h
      exact Classical.choose_spec hx
    · cases h
  · rintro ⟨n, h⟩
    have hx : ∃ r n, runs C P n en todo S = some r := ⟨r, n, h⟩
    rw [dif_pos hx]
    obtain ⟨n', h'⟩ := Classical.choose_spec hx
    have h1 := chain_le (runs_le C P) n n' en todo S r h
    have h2 := chain_le (runs_le C P) n' n en todo S _ h'
    rw [Nat.add_comm n' n, h1] at h2
    exact h2.symm
theorem MM_eq (en : Entry) (todo : List Item) (S : St) : MM C P en todo S = body C P (MM C P) en todo S := by
  refine Option.ext fun r => ?_
  constructor
  · intro h
    obtain ⟨n, hn⟩ := (MM_some C P).1 h
    cases n with
    | zero => cases hn
    | succ n => exact (body_cont C P en todo S).mono _ _ (fun en todo S r h => (MM_some C P).2 ⟨n, h⟩) r hn
  · intro h
    obtain ⟨n, hn⟩ := (body_cont C P en todo S).cont (runs C P) (MM C P) (runs_le C P) (fun en todo S r h => (MM_some C P).1 h) r h
    exact (MM_some C P).2 ⟨n + 1, hn⟩
end

section
variable {C : Ctx} {P : Program}
theorem fnC_eq {en : Entry} {x : (argT en.ps).den} {r : Option en.R} (hh : en.hook = none) (hc : (codeOf P en).isSome = true)
    (h : body C P (MM C P) en (startOf P en) (entered en x (ntmpsOf P en)) = r) : callE P (MM C P) en x = r := by
  unfold callE
  rw [hh]
  unfold startOf ntmpsOf at h
  cases hco : codeOf P en with
  | none => rw [hco] at hc; cases hc
  | some q => obtain ⟨fn, c⟩ := q; rw [hco] at h; simp only []; rw [MM_eq, h]

/-- What the evaluator says of a call is true. -/
theorem MM_sound (hC : CtxOk C P) (hE : EntOk C P) (hmix : P.follows .mixedOrders = true) {en : Entry} (hm : en ∈ C.es) {x : (argT en.ps).den} {y : en.R} (h : callE P (MM C P) en x = some y) : CallOk P en x y :=
  callE_ok hE (fun en todo S r h => by
    obtain ⟨n, hn⟩ := (MM_some C P).1 h
    exact runs_sound hC hE hmix n en todo S r hn) hm h
end
end Go.Evr

namespace Go.Evr

/-- Numbers are of their kinds, and nothing is longer than Go allows. -/
def DOk : (t : Ty) → t.den → Prop
  | .int k, n => (Lit.int k n).wf = true
  | .str, s => s.size ≤ maxLen
  | .sl e, xs => xs.length ≤ maxLen ∧ ∀ x ∈ xs, DOk e x
  | .pair a b, x => DOk a x.1 ∧ DOk b x.2
  | .st t, x => DOk t x
  | _, _ => True

/-- Kinds whose rows hold cells. -/
def Ty.solid : Ty → Bool
  | .sl e => e.solid && Nat.blt 0 e.cells
  | .pair a b => a.solid && b.solid
  | .st t => t.solid
  | .ref => false
  | _ => true

abbrev ZT : Zone := fun _ _ => True
abbrev ZF : Zone := fun _ _ => False

section
variable {C : Ctx} {P : Program} {H : Type} {enc : TypeId × Value → H} {w : World} {base : Nat} {spare : Nat → Bool} {held : Bool}

theorem cellsOf_ty {t : Nat} {u : Ty} (h : TyS C P t u) : P.cellsOf t = u.cells := by
  obtain ⟨i, z, h1, h2, _⟩ := h.info
  unfold Program.cellsOf
  rw [h1]; exact h2

theorem choose_list {α : Type} {n : Nat} {Q : Nat → α → Prop} (h : ∀ i, i < n → ∃ x, Q i x) : ∃ xs : List α, xs.length = n ∧ ∀ i (hi : i < xs.length), Q i xs[i] := by
  induction n with
  | zero => exact ⟨[], rfl, fun i hi => absurd hi (Nat.not_lt_zero i)⟩
  | succ n ih =>
    obtain ⟨xs, h1, h2⟩ := ih fun i hi => h i (by omega)
    obtain ⟨x, hx⟩ := h n (by omega)
    refine ⟨xs ++ [x], by simp [h1], fun i hi => ?_⟩
    by_cases hl : i < xs.length
    · rw [List.getElem_append_left hl]; exact h2 i hl
    · have : i = n := by simp at hi; omega
      subst this
      rw [List.getElem_append_right (by omega)]
      simpa [h1] using hx

theorem add_at {b k i : Nat} : (⟨b, k, none⟩ : Addr).add i = ⟨b, k + i, none⟩ := by
  unfold Addr.add
  split
  · rename_i h; subst h; rfl
  · rfl

theorem flds_rep (fuel : Nat) (IH : ∀ t u cs x, C.ty t = some u → u.solid = true → DataW.trod enc P w base spare held fuel t cs = some x → ∃ d : u.den, Rep ZT w u d cs ∧ DOk u d) (hC : CtxOk C P) : ∀ (v : Ty) (fs : List Field) (off : Nat) (cs : List Value) (xs : List (DataW H × List MemPlace)),
    Flds C v fs off → v.solid = true → cs.length = off + v.cells → xs.length = fs.length → (∀ (i : Nat) (f : Field), fs[i]? = some f → DataW.trod enc P w base spare held fuel f.type ((cs.drop f.offset).take (P.cellsOf f.type)) = xs[i]?) → ∃ d : v.den, Rep ZT w v d (cs.drop off) ∧ DOk v d
  | .unit, [], off, cs, xs, _, _, hl, _, _ => ⟨(), by
      show cs.drop off = []
      exact List.drop_eq_nil_of_le (by simp [Ty.cells] at hl; omega), trivial⟩
  | .pair a b, f :: fs, off, cs, x :: xs, hf, hs, hl, hx, hm => by
    obtain ⟨h1, h2, _, h3⟩ := hf
    simp only [Ty.solid, Bool.and_eq_true] at hs
    simp only [Ty.cells] at hl
    obtain ⟨da, r1, r2⟩ := IH f.type a _ x h2 hs.1 (hm 0 f rfl)
    obtain ⟨db, r3, r4⟩ := flds_rep fuel IH hC b fs (off + a.cells) cs xs h3 hs.2 (by omega) (by simpa using hx) (fun i f' hf' => by have := hm (i + 1) f' (by simpa using hf'); simpa using this)
    refine ⟨(da, db), ⟨(cs.drop f.offset).take (P.cellsOf f.type), cs.drop (off + a.cells), ?_, r1, r3⟩, r2, r4⟩
    rw [h1, cellsOf_ty (hC _ _ h2), ← List.drop_drop, List.take_append_drop]
  | .pair _ _, _ :: _, _, _, [], _, _, _, hx, _ => by simp at hx
  | .int _, _, _, _, _, hf, _, _, _, _ => hf.elim
  | .bool, _, _, _, _, hf, _, _, _, _ => hf.elim
  | .str, _, _, _, _, hf, _, _, _, _ => hf.elim
  | .sl _, _, _, _, _, hf, _, _, _, _ => hf.elim
  | .st _, _, _, _, _, hf, _, _, _, _ => hf.elim
  | .ref, _, _, _, _, hf, _, _, _, _ => hf.elim
  | .unit, _ :: _, _, _, _, hf, _, _, _, _ => hf.elim
  | .pair _ _, [], _, _, _, hf, _, _, _, _ => hf.elim

/-- What is read of the input, as data. -/
theorem trod_rep (hC : CtxOk C P) : ∀ (fuel : Nat) (t : Nat) (u : Ty) (cs : List Value) (x : DataW H × List MemPlace), C.ty t = some u → u.solid = true → DataW.trod enc P w base spare held fuel t cs = some x → ∃ d : u.den, Rep ZT w u d cs ∧ DOk u d := by
  intro fuel
  induction fuel with
  | zero => intro t u cs x _ _ h; cases h
  | succ fuel ih =>
    intro t u cs x ht hs h
    have hT := hC t u ht
    have hd := hT.desc
    cases u with
    | int k =>
      obtain ⟨n, rfl, _, hw⟩ := DataW.trod_int (show P.underlying t = some (.int k) from hd) h
      exact ⟨n, rfl, hw⟩
    | bool =>
      obtain ⟨b, rfl, _⟩ := DataW.trod_bool (show P.underlying t = some .bool from hd) h
      exact ⟨b, rfl, trivial⟩
    | str =>
      obtain ⟨s, rfl, _, hw⟩ := DataW.trod_string (show P.underlying t = some .string from hd) h
      exact ⟨s, rfl, hw⟩
    | sl e =>
      obtain ⟨te, hu, hte⟩ := hd
      rcases DataW.trod_slice hu h with ⟨rfl, _⟩ | ⟨a, len, cap, elems, rest, n, hn, rfl, _, _, hl, hm, hlen, hel, _, _⟩
      · exact ⟨[], ⟨none, 0, rfl, Nat.le_refl _, fun i hi => absurd hi (Nat.not_lt_zero i)⟩, by simp [DOk, maxLen]⟩
      · simp only [Nat.add_right_cancel_iff] at hn
        subst hn
        simp only [Ty.solid, Bool.and_eq_true] at hs
        have hpos : 0 < e.cells := by simpa [Nat.blt_eq] using hs.2
        have hce := cellsOf_ty (hC te e hte)
        have raw : ∀ i, i < len → ∃ cs, w.cells? base (a.add (i * P.cellsOf te)) (P.cellsOf te) = some cs ∧ DataW.trod enc P w base spare held fuel te cs = some (elems.getD i (.nil, [])) := by
          intro i hi
          have h1 := hel i hi
          have h2 : elems[i]? = some elems[i] := List.getElem?_eq_getElem (by omega)
          rw [h2] at h1
          cases hc : w.cells? base (a.add (i * P.cellsOf te)) (P.cellsOf te) with
          | none => rw [hc] at h1; cases h1
          | some cs =>
            rw [hc] at h1
            refine ⟨cs, rfl, ?_⟩
            rw [List.getD_eq_getElem?_getD, h2]; exact h1
        have spot : 0 < len → a.spot = none := by
          intro h0
          obtain ⟨cs, hc, _⟩ := raw 0 h0
          obtain ⟨_, q1, q2⟩ := World.cells?_some hc
          have := q2 0 (by omega)
          rw [Nat.zero_mul] at this
          have ha : (a.add 0).add 0 = a := rfl
          rw [ha, List.getElem?_eq_getElem (by omega)] at this
          unfold World.cell? at this
          cases hsp : a.spot with
          | none => rfl
          | some s =>
            rw [hsp] at this
            split at this
            · cases this
            · cases this
        have each : ∀ i, i < len → ∃ d : e.den, (∃ b k cs, some a = some ⟨b, k, none⟩ ∧ Rep ZT w e d cs ∧ At ZT w b (k + i * e.cells) cs) ∧ DOk e d := by
          intro i hi
          obtain ⟨cs, hc, h1⟩ := raw i hi
          obtain ⟨d, r1, r2⟩ := ih te e cs _ hte hs.1 h1
          obtain ⟨q0, q1, q2⟩ := World.cells?_some hc
          have hsp := spot (by omega)
          have ha : a = ⟨a.block, a.off, none⟩ := by cases a; simp at hsp; subst hsp; rfl
          refine ⟨d, ⟨a.block, a.off, cs, by rw [← ha], r1, fun j v hj => ⟨trivial, ?_⟩⟩, r2⟩
          have hjl := (List.getElem?_eq_some_iff.1 hj).1
          have := q2 j (by omega)
          rw [hj, ha, add_at, add_at, hce] at this
          exact this
        obtain ⟨xs, k1, k2⟩ := choose_list each
        refine ⟨xs, ⟨some a, cap, by rw [k1], by omega, fun i hi => (k2 i hi).1⟩, by rw [k1]; omega, fun x hx => ?_⟩
        obtain ⟨i, hi, rfl⟩ := List.getElem_of_mem hx
        exact (k2 i hi).2
    | st v =>
      obtain ⟨fs, hu, hf, _⟩ := hd
      obtain ⟨xs, n, hn, _, hl, hxl, hx⟩ := DataW.trod_struct hu h
      simp only [Nat.add_right_cancel_iff] at hn
      subst hn
      have := flds_rep fuel ih hC v fs.toList 0 cs xs hf hs (by rw [hl, cellsOf_ty hT, Nat.zero_add]; rfl) (by simpa using hxl) (fun i f hf => hx i f (by simpa using hf))
      rw [List.drop_zero] at this
      exact this
    | unit => exact hd.elim
    | pair _ _ => exact hd.elim
    | ref => cases hs

/-- An argument of the row. -/
theorem arg_ok (hC : CtxOk C P) {t : Nat} {u : Ty} {r : Reach} {b0 : Nat} {v : Value} {d : DataW H} {ps : List MemPlace} (ht : C.ty t = some u) (hs : u.solid = true) (hval : Value.okWide P w r b0 t v) (hd : DataW.Trod enc P w base spare held t v d ps) :
    ∃ (x : u.den) (vs : List Value), Rep ZT w u x vs ∧ Shape u v vs ∧ DOk u x := by
  obtain ⟨fuel, h⟩ := hd
  obtain ⟨x, h1, h2⟩ := trod_rep hC fuel t u _ _ ht hs h
  refine ⟨x, _, h1, ?_, h2⟩
  have hT := (hC t u ht).desc
  unfold Shape
  cases u with
  | int k => obtain ⟨n, rfl⟩ := WideShapes.okWide_int hT hval; simp [Ty.isSt, Value.cells]
  | bool => obtain ⟨n, rfl⟩ := WideShapes.okWide_bool hT hval; simp [Ty.isSt, Value.cells]
  | str => obtain ⟨n, rfl⟩ := WideShapes.okWide_string hT hval; simp [Ty.isSt, Value.cells]
  | sl e =>
    obtain ⟨te, hu, _⟩ := hT
    obtain ⟨a, n, c, rfl⟩ := WideShapes.okWide_slice hu hval
    simp [Ty.isSt, Value.cells]
  | st w' =>
    obtain ⟨fs, hu, _⟩ := hT
    unfold Value.okWide at hval
    rw [hu] at hval
    obtain ⟨cs, rfl, _⟩ := hval
    simp [Ty.isSt, Value.cells]
  | unit => exact hT.elim
  | pair _ _ => exact hT.elim
  | ref => cases hs

theorem below_of {W W' : World} (h : Frm ZF W W') : RowKit.Below W.heap.size W W' :=
  ⟨h.os, h.tape, h.output, h.size, fun k hk => h.block k hk fun _ hf => hf⟩

/-- A law: its call returns true, and what lies in memory stays. -/
theorem law_calls (hC : CtxOk C P) (hE : EntOk C P) (hmix : P.follows .mixedOrders = true) {id fid : Nat} {ps : List Md} {hook} (hm : (⟨id, fid, ps, [.bool], hook⟩ : Entry) ∈ C.es) {x : (argT ps).den} {y : (resT [.bool] ps).den}
    (h : callE P (MM C P) ⟨id, fid, ps, [.bool], hook⟩ x = some y) (hy : y.1 = true) {W : World} {us : List Value} (ha : ArgsOk ZT W ps x us ZF) {fn : Func} (hf : P.funcs[fid]? = some fn) (hb : fn.body.isSome = true) (hname : (fn.name == "runtime.NumGoroutine") = false) :
    Calls P fid us.toArray W fun e W' => e = .returned (.bool true) ∧ RowKit.Below W.heap.size W W' := by
  have hk := MM_sound hC hE hmix hm h W us ZT ZF ha fun _ _ _ h => h
  obtain ⟨c, hb⟩ := Option.isSome_iff_exists.1 hb
  have hname' : ¬ fn.name = "runtime.NumGoroutine" := by simpa using hname
  have hrun : (callFunc fid us.toArray).run P W = .ok (.enter fid us.toArray) W := by simp [callFunc, hf, hname', hb]
  rcases hk with ⟨_, hk⟩ | ⟨v, W', h1, _⟩
  · refine hk.mono fun e W' hp => ?_
    obtain ⟨v, rfl, vs, rfl, F, v', vs', cs, Z2, Z3, rfl, _, _, _, ho, hs, rfl, _⟩ := hp
    have ho : cs = [.bool y.1] := ho
    subst ho
    unfold Shape at hs
    simp [Ty.isSt] at hs
    subst hs
    rw [hy]
    exact ⟨rfl, below_of F⟩
  · rw [hrun] at h1; cases h1
end
end Go.Evr

namespace Go.Evr

/-! ### The table of kinds, checked -/
def fldsB (C : Ctx) : Ty → List Field → Nat → Bool
  | .unit, [], _ => true
  | .pair a b, f :: fs, off => Nat.beq f.offset off && decide (C.ty f.type = some a) && !(f.name == "_") && fldsB C b fs (off + a.cells)
  | _, _, _ => false
theorem fldsB_ok {C : Ctx} : ∀ {u : Ty} {fs : List Field} {off : Nat}, fldsB C u fs off = true → Flds C u fs off
  | .unit, [], _, _ => trivial
  | .pair a b, f :: fs, off, h => by
    simp only [fldsB, Bool.and_eq_true, decide_eq_true_eq, Bool.not_eq_true'] at h
    exact ⟨Nat.eq_of_beq_eq_true h.1.1.1, h.1.1.2, by simpa using h.1.2, fldsB_ok h.2⟩
  | .unit, _ :: _, _, h => by cases h
  | .pair _ _, [], _, h => by cases h
  | .int _, _, _, h => by cases h
  | .bool, _, _, h => by cases h
  | .str, _, _, h => by cases h
  | .sl _, _, _, h => by cases h
  | .st _, _, _, h => by cases h
  | .ref, _, _, h => by cases h

def zeroOneB : Value → Value → Bool
  | .int k n, .int k' n' => decide (k = k') && decide (n = n')
  | .bool a, .bool b => a == b
  | .string s, .string s' => Nat.beq s.size 0 && Nat.beq s'.size 0
  | .slice none 0 0, .slice none 0 0 => true
  | .pointer none, .pointer none => true
  | _, _ => false
theorem size0 {s : ByteArray} (h : Nat.beq s.size 0 = true) : s = ByteArray.empty := by
  have h := Nat.eq_of_beq_eq_true h
  cases s with
  | mk d =>
    cases d with
    | mk l =>
      cases l with
      | nil => rfl
      | cons a l => simp [ByteArray.size] at h
theorem zeroOneB_ok {a b : Value} (h : zeroOneB a b = true) : a = b := by
  unfold zeroOneB at h
  split at h <;> first | (cases h; done) | rfl | skip
  · simp only [Bool.and_eq_true, decide_eq_true_eq] at h; rw [h.1, h.2]
  · rw [eq_of_beq h]
  · simp only [Bool.and_eq_true] at h; rw [size0 h.1, size0 h.2]
def zeroAllB : List Value → List Value → Bool
  | [], [] => true
  | a :: l, b :: m => zeroOneB a b && zeroAllB l m
  | _, _ => false
theorem zeroAllB_ok : ∀ {l m : List Value}, zeroAllB l m = true → l = m
  | [], [], _ => rfl
  | a :: l, b :: m, h => by
    simp only [zeroAllB, Bool.and_eq_true] at h
    rw [zeroOneB_ok h.1, zeroAllB_ok h.2]
  | [], _ :: _, h => by cases h
  | _ :: _, [], h => by cases h
def zeroB (u : Ty) (z : Value) : Bool := match u, z with
  | .ref, .pointer none => true
  | .ref, .nilFunc => true
  | .ref, _ => false
  | .st w, .agg cs => zeroAllB cs.toList (zeroV w)
  | .st _, _ => false
  | u, z => zeroAllB (zeroV u) [z]
theorem zeroB_ok {u : Ty} {z : Value} (h : zeroB u z = true) : ZeroOk u z := by
  cases u with
  | ref =>
    cases z with
    | pointer a => cases a with
      | none => exact Or.inl rfl
      | some _ => cases h
    | nilFunc => exact Or.inr rfl
    | _ => cases h
  | st w =>
    cases z with
    | agg cs =>
      have := zeroAllB_ok (show zeroAllB cs.toList (zeroV w) = true from h)
      show Value.agg cs = .agg (zeroV w).toArray
      rw [← this]
    | _ => cases h
  | int k => exact zeroAllB_ok (show zeroAllB _ _ = true from h)
  | bool => exact zeroAllB_ok (show zeroAllB _ _ = true from h)
  | str => exact zeroAllB_ok (show zeroAllB _ _ = true from h)
  | sl e => exact zeroAllB_ok (show zeroAllB _ _ = true from h)
  | unit => exact zeroAllB_ok (show zeroAllB _ _ = true from h)
  | pair a b => exact zeroAllB_ok (show zeroAllB _ _ = true from h)

def descB (C : Ctx) (P : Program) (t : Nat) : Ty → Bool
  | .int k => match P.underlying t with
    | some (.int k') => decide (k' = k)
    | _ => false
  | .bool => match P.underlying t with
    | some .bool => true
    | _ => false
  | .str => match P.underlying t with
    | some .string => true
    | _ => false
  | .sl e => match P.underlying t with
    | some (.slice te) => decide (C.ty te = some e)
    | _ => false
  | .st w => match P.underlying t with
    | some (.struct fs) => fldsB C w fs.toList 0 && !P.stoodInHeld t && !P.eqGuardType P.depth t
    | _ => false
  | .ref => match P.underlying t with
    | some d => !(match d with | .struct _ | .array _ _ => true | _ => false)
    | none => false
  | _ => false
theorem descB_ok {C : Ctx} {P : Program} {t : Nat} {u : Ty} (h : descB C P t u = true) : DescOk C P t u := by
  cases u with
  | int k =>
    simp only [descB] at h
    split at h
    · rename_i hu; rw [decide_eq_true_eq] at h; subst h; exact hu
    · cases h
  | bool =>
    simp only [descB] at h
    split at h
    · rename_i hu; exact hu
    · cases h
  | str =>
    simp only [descB] at h
    split at h
    · rename_i hu; exact hu
    · cases h
  | sl e =>
    simp only [descB] at h
    split at h
    · rename_i te hu; exact ⟨te, hu, of_decide_eq_true h⟩
    · cases h
  | st w =>
    simp only [descB] at h
    split at h
    · rename_i fs hu
      simp only [Bool.and_eq_true, Bool.not_eq_true'] at h
      exact ⟨fs, hu, fldsB_ok h.1.1, h.1.2, h.2⟩
    · cases h
  | ref =>
    simp only [descB] at h
    split at h
    · rename_i d hu
      exact ⟨d, hu, by cases d <;> first | rfl | (cases h; done)⟩
    · cases h
  | unit => cases h
  | pair _ _ => cases h

def tyB (C : Ctx) (P : Program) (t : Nat) (u : Ty) : Bool := (match P.info? t with
  | some i => Nat.beq i.size u.cells && (match i.zero with
    | some z => zeroB u z
    | none => false) && Nat.ble i.bytes 16384 && Nat.blt 0 i.bytes
  | none => false) && descB C P t u
theorem tyB_ok {C : Ctx} {P : Program} {t : Nat} {u : Ty} (h : tyB C P t u = true) : TyS C P t u := by
  unfold tyB at h
  simp only [Bool.and_eq_true] at h
  refine ⟨?_, descB_ok h.2⟩
  have h1 := h.1
  split at h1
  · rename_i i hi
    simp only [Bool.and_eq_true] at h1
    obtain ⟨⟨⟨q1, q2⟩, q3⟩, q4⟩ := h1
    split at q2
    · rename_i z hz
      exact ⟨i, z, hi, Nat.eq_of_beq_eq_true q1, hz, zeroB_ok q2, Nat.le_of_ble_eq_true q3, by simpa [Nat.blt_eq] using q4⟩
    · cases q2
  · cases h1

def ctxGo (C : Ctx) (P : Program) : Nat → List (Option Ty) → Bool
  | _, [] => true
  | t, none :: l => ctxGo C P (t + 1) l
  | t, some u :: l => tyB C P t u && ctxGo C P (t + 1) l
theorem ctxGo_ok {C : Ctx} {P : Program} : ∀ {l : List (Option Ty)} {k : Nat}, ctxGo C P k l = true → ∀ j u, l[j]? = some (some u) → TyS C P (k + j) u
  | none :: l, k, h, j, u, hj => by
    cases j with
    | zero => simp at hj
    | succ j =>
      have := ctxGo_ok (show ctxGo C P (k + 1) l = true from h) j u (by simpa using hj)
      rw [show k + (j + 1) = k + 1 + j by omega]; exact this
  | some v :: l, k, h, j, u, hj => by
    simp only [ctxGo, Bool.and_eq_true] at h
    cases j with
    | zero => simp at hj; subst hj; exact tyB_ok h.1
    | succ j =>
      have := ctxGo_ok h.2 j u (by simpa using hj)
      rw [show k + (j + 1) = k + 1 + j by omega]; exact this
  | [], _, _, _, _, hj => by simp at hj
theorem ctx_ok {C : Ctx} {P : Program} (h : ctxGo C P 0 C.tt = true) : CtxOk C P := by
  intro t u ht
  have : C.tt[t]? = some (some u) := by
    unfold Ctx.ty at ht
    split at ht
    · rename_i u' hu; cases ht; exact hu
    · cases ht
  have := ctxGo_ok h t u this
  rwa [Nat.zero_add] at this

/-- The entries that stand for code of their own. -/
def entGo (P : Program) : List Entry → Bool
  | [] => true
  | en :: l => (match en.hook with
    | none => (match P.funcs[en.fid]? with
      | some fn => !(fn.name == "runtime.NumGoroutine")
      | none => true)
    | some _ => true) && entGo P l
theorem entGo_ok {P : Program} : ∀ {l : List Entry}, entGo P l = true → ∀ en ∈ l, en.hook = none → ∀ fn, P.funcs[en.fid]? = some fn → (fn.name == "runtime.NumGoroutine") = false
  | e :: l, h, en, hm, hh, fn, hf => by
    simp only [entGo, Bool.and_eq_true] at h
    rcases List.mem_cons.1 hm with rfl | hm
    · have h1 := h.1
      rw [hh, hf] at h1
      simpa using h1
    · exact entGo_ok h.2 en hm hh fn hf
theorem ent_ok {C : Ctx} {P : Program} (h : entGo P C.es = true) (hk : ∀ en ∈ C.es, ∀ h, en.hook = some h → ∀ x y, h x = some y → CallOk P en x y) : EntOk C P :=
  fun en hm => ⟨hk en hm, entGo_ok h en hm⟩
end Go.Evr

