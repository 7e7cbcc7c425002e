/- Part 5 of the texts behind the proof: Gx20r, Gx21, Gx22, Gx23, Gx24, TwP1, TwK, TwO0, TwO1, TwC2. -/
import Derived.Test.YtnhgfmegaoibeaaDoorG04
import Derived.Test.YtnhgfmegaoibeaaDoorProg
import Derived.WalkKit
import Derived.Shelf.Lay
import Derived.Laws.Rows
set_option linter.unusedSimpArgs false
set_option linter.unusedVariables false
set_option linter.unusedVariables false
namespace Go.GX
open Go.RowKit Go.Shelf Go.Proofs

def OwnWr (st : St) (ρ : Lab) (k : Nat) : Prop := ∃ l he s v, st.hp l = some (he, s) ∧ ρ l = some v ∧ OwnB ρ he v k ∧ he.isLn = false

section
variable {P : Program} {glb : Nat → Option GV} {Bk X0 : Nat → Prop} {w0 : World} {st st' : St} {ρ ρ' : Lab} {a a' : Act} {W W' : World}

theorem Mt.rebase (m : Mt P glb Bk X0 w0 st ρ a W) : Mt P glb (fun k => k < W.heap.size ∧ ¬ OwnWr st ρ k) X0 W st ρ { a with defers := [] } W :=
  ⟨m.size, DefOK.nil, m.tms, m.hps, m.dis, m.x0, fun k hk => hk.1, ⟨rfl, rfl, rfl, Nat.le_refl _, fun _ _ => rfl⟩,
    fun l he s v k h1 h2 h3 => ⟨fun hl hb => hb.2 ⟨l, he, s, v, h1, h2, h3, hl⟩, (m.nb l he s v k h1 h2 h3).2⟩, m.glb, m.dom, m.stamp⟩

theorem OwnWr.xs {k : Nat} (h : OwnWr st ρ k) {X0 : Nat → Prop} : Xs st ρ X0 k := let ⟨l, he, s, v, h1, h2, h3, _⟩ := h; .inr ⟨l, he, s, v, h1, h2, h3⟩

theorem Mt.lend (m : Mt P glb Bk X0 w0 st ρ a W) {L : Nat} (hL : memL L st.dom = false) {e : TypeId} {K : Kd} (hf : K.flat = true) (hn : 1 ≤ K.n) {xs : List K.T} {v : Value} {I : Nat → Prop} (hv : ((Kd.sl e K).sem P).val (fun k => ¬ I k) W xs v) (hI : ∀ k, I k → X0 k) :
    Mt P glb Bk (fun k => X0 k ∧ ownBlk (.ln e K xs) v ≠ some k) w0 (GX.lend st L e K xs) (ρ.put L v) a W ∧ ∀ k, Xs (GX.lend st L e K xs) (ρ.put L v) (fun k => X0 k ∧ ownBlk (.ln e K xs) v ≠ some k) k ↔ Xs st ρ X0 k := by
  have hle := m.le_put hL v
  have hhp : (GX.lend st L e K xs).hp = updf st.hp L (some (.ln e K xs, st.cnt)) := rfl
  have other : ∀ {l he s}, l ≠ L → ((GX.lend st L e K xs).hp l = some (he, s) ↔ st.hp l = some (he, s)) := by
    intro l he s hl
    rw [hhp, updf_other _ _ hl]
  have self : ∀ {he s}, (GX.lend st L e K xs).hp L = some (he, s) → he = .ln e K xs ∧ s = st.cnt := by
    intro he s h
    rw [hhp, updf_same] at h
    cases h; exact ⟨rfl, rfl⟩
  have inI : ∀ {k}, ownBlk (.ln e K xs) v = some k → I k := by
    intro k hk
    obtain ⟨A, c, rfl, _, _, h⟩ := hv
    cases xs with
    | nil => simp [ownBlk] at hk
    | cons x xs =>
      obtain ⟨ad, rfl, hx, _⟩ := h (by simp)
      simp only [ownBlk, Option.some.injEq] at hk
      subst hk
      exact Classical.byContradiction hx
  have oldB : ∀ {l he s u k}, st.hp l = some (he, s) → ρ l = some u → (OwnB (ρ.put L v) he u k ↔ OwnB ρ he u k) := by
    intro l he s u k h1 h2
    obtain ⟨u', hu', hok⟩ := m.hps l he s h1
    rw [h2] at hu'; cases hu'
    exact ⟨fun h => h.back hok hle, fun h => h.le hle⟩
  have hX : ∀ k, Xs (GX.lend st L e K xs) (ρ.put L v) (fun k => X0 k ∧ ownBlk (.ln e K xs) v ≠ some k) k ↔ Xs st ρ X0 k := by
    intro k
    constructor
    · rintro (h | ⟨l, he, s, u, h1, h2, h3⟩)
      · exact .inl h.1
      · by_cases hl : l = L
        · subst hl
          obtain ⟨rfl, _⟩ := self h1
          rw [Lab.put_same] at h2; cases h2
          exact .inl (hI k (inI (ownB_ln.1 h3)))
        · rw [Lab.put_other _ _ hl] at h2
          exact .inr ⟨l, he, s, u, (other hl).1 h1, h2, (oldB ((other hl).1 h1) h2).1 h3⟩
    · rintro (h | ⟨l, he, s, u, h1, h2, h3⟩)
      · by_cases hk : ownBlk (.ln e K xs) v = some k
        · exact .inr ⟨L, .ln e K xs, st.cnt, v, by rw [hhp, updf_same], Lab.put_same _ _ _, .inl hk⟩
        · exact .inl ⟨h, hk⟩
      · have hl : l ≠ L := by intro hh; subst hh; exact m.nolab hL he s h1
        exact .inr ⟨l, he, s, u, (other hl).2 h1, by rw [Lab.put_other _ _ hl]; exact h2, (oldB h1 h2).2 h3⟩
  have ev : Evo (Xs st ρ X0) W (Xs (GX.lend st L e K xs) (ρ.put L v) (fun k => X0 k ∧ ownBlk (.ln e K xs) v ≠ some k)) W := Evo.mono (fun k hk => m.Xlt k ((hX k).1 hk)) (fun k hk => (hX k).1 hk)
  refine ⟨⟨m.size, m.dfr, fun t => (m.tms t).mono hle ev, fun l he s h => ?_, fun l l' he he' s s' u u' k h h' h2 h2' h3 h3' => ?_, fun k hk => m.x0 k hk.1, m.bk, m.bel, fun l he s u k h h2 h3 => ?_, m.glb.evo ev, fun l u hu => ?_, fun l he s h => ?_⟩, hX⟩
  · by_cases hl : l = L
    · subst hl
      obtain ⟨rfl, _⟩ := self h
      refine ⟨v, Lab.put_same _ _ _, hf, ?_⟩
      obtain ⟨A, c, rfl, h1, h2, h3⟩ := hv
      refine ⟨A, c, rfl, h1, h2, fun hne => ?_⟩
      obtain ⟨ad, hA, _, _, hget⟩ := h3 hne
      refine ⟨ad, hA, ?_, fun j x hx => ?_⟩
      · cases xs with
        | nil => exact absurd rfl hne
        | cons x xs =>
          obtain ⟨ecs, k1, k2⟩ := hget 0 x rfl
          have hlen := Kd.cells_length P K k1
          cases ecs with
          | nil => simp at hlen; omega
          | cons u us =>
            have := cells_of_cell? (k2 0 u rfl)
            rwa [add_block] at this
      · obtain ⟨ecs, k1, k2⟩ := hget j x hx
        exact ⟨ecs, Kd.flat_cells P K hf k1, k2⟩
    · obtain ⟨u, hu, hok⟩ := m.hps l he s ((other hl).1 h)
      exact ⟨u, hle l u hu, hok.mono hle ev (fun _ _ => rfl)⟩
  · by_cases hl : l = L <;> by_cases hl' : l' = L
    · rw [hl, hl']
    · subst hl
      obtain ⟨rfl, _⟩ := self h
      rw [Lab.put_same] at h2; cases h2
      rw [Lab.put_other _ _ hl'] at h2'
      exact absurd (hI k (inI (ownB_ln.1 h3))) (m.nb l' he' s' u' k ((other hl').1 h') h2' ((oldB ((other hl').1 h') h2').1 h3')).2
    · subst hl'
      obtain ⟨rfl, _⟩ := self h'
      rw [Lab.put_same] at h2'; cases h2'
      rw [Lab.put_other _ _ hl] at h2
      exact absurd (hI k (inI (ownB_ln.1 h3'))) (m.nb l he s u k ((other hl).1 h) h2 ((oldB ((other hl).1 h) h2).1 h3)).2
    · rw [Lab.put_other _ _ hl] at h2
      rw [Lab.put_other _ _ hl'] at h2'
      exact m.dis l l' he he' s s' u u' k ((other hl).1 h) ((other hl').1 h') h2 h2' ((oldB ((other hl).1 h) h2).1 h3) ((oldB ((other hl').1 h') h2').1 h3')
  · by_cases hl : l = L
    · subst hl
      obtain ⟨rfl, _⟩ := self h
      rw [Lab.put_same] at h2; cases h2
      exact ⟨fun hh => (by cases hh), fun hx => hx.2 (ownB_ln.1 h3)⟩
    · rw [Lab.put_other _ _ hl] at h2
      have := m.nb l he s u k ((other hl).1 h) h2 ((oldB ((other hl).1 h) h2).1 h3)
      exact ⟨this.1, fun hx => this.2 hx.1⟩
  · show memL l (L :: st.dom) = true
    rw [memL_cons]
    by_cases hl : l = L
    · subst hl; simp
    · rw [Lab.put_other _ _ hl] at hu
      rw [m.dom l u hu]; simp
  · show s ≤ st.cnt
    by_cases hl : l = L
    · subst hl
      rw [(self h).2]; exact Nat.le_refl _
    · exact m.stamp l he s ((other hl).1 h)

def layTm (t : Array Value) : List Nat → List Value → Array Value
  | p :: ps, v :: vs => layTm (t.setIfInBounds p v) ps vs
  | _, _ => t

theorem flatPut_one {K : Kd} (m : Mt P glb Bk X0 w0 st ρ a W) {p : Nat} (hp : p < st.n) {x : K.T} {v : Value} {X : Nat → Prop} (hf : K.flat = true) (hv : (K.sem P).val X W x v) : Mt P glb Bk X0 w0 (st.put (some p) (mkv K x)) ρ { a with tmps := a.tmps.setIfInBounds p v } W :=
  m.put (some p) (mkv K x) v (by simpa [dstOK, Nat.blt_eq] using hp) (RepV.of_val K (Kd.flat_val P K hf hv)).1

theorem flatPut_ok {X : Nat → Prop} : ∀ (A : Kd) (st : St) (a : Act) (x : A.T) (ps : List Nat) (vs : List Value) (st1 : St), Mt P glb Bk X0 w0 st ρ a W → flatPut st A x ps = some st1 → (A.sem P).vals X W x vs → (∀ p, p ∈ ps → p < st.n) →
    Mt P glb Bk X0 w0 st1 ρ { a with tmps := layTm a.tmps ps vs } W ∧ st1.hp = st.hp ∧ st1.cnt = st.cnt ∧ st1.n = st.n ∧ st1.dom = st.dom
  | .pair A B, st, a, x, p :: r, vs, st1, m, h, hv, hp => by
    simp only [flatPut] at h
    cases hc : (A.flat && A.arg) with
    | false => rw [hc] at h; cases h
    | true =>
      rw [hc, cond_true] at h
      simp only [Bool.and_eq_true] at hc
      obtain ⟨v, vs', rfl, h1, h2⟩ := hv
      have m1 := flatPut_one m (hp p List.mem_cons_self) hc.1 h1
      obtain ⟨m2, g1, g2, g3, g4⟩ := flatPut_ok B _ _ x.2 r vs' st1 m1 h h2 (fun q hq => hp q (List.mem_cons_of_mem _ hq))
      exact ⟨m2, g1, g2, g3, g4⟩
  | .unit, st, a, x, [], vs, st1, m, h, hv, hp => by
    cases h
    exact ⟨by cases vs <;> exact m, rfl, rfl, rfl, rfl⟩
  | .int k, st, a, x, [p], vs, st1, m, h, hv, hp => by
    cases h
    obtain ⟨v, rfl, h1⟩ := hv
    exact ⟨flatPut_one (K := .int k) (X := X) m (hp p List.mem_cons_self) rfl h1, rfl, rfl, rfl, rfl⟩
  | .bool, st, a, x, [p], vs, st1, m, h, hv, hp => by
    cases h
    obtain ⟨v, rfl, h1⟩ := hv
    exact ⟨flatPut_one (K := .bool) (X := X) m (hp p List.mem_cons_self) rfl h1, rfl, rfl, rfl, rfl⟩
  | .str, st, a, x, [p], vs, st1, m, h, hv, hp => by
    cases h
    obtain ⟨v, rfl, h1⟩ := hv
    exact ⟨flatPut_one (K := .str) (X := X) m (hp p List.mem_cons_self) rfl h1, rfl, rfl, rfl, rfl⟩
  | .agg K, st, a, x, [p], vs, st1, m, h, hv, hp => by
    simp only [flatPut] at h
    cases hc : K.flat with
    | false => rw [hc] at h; cases h
    | true =>
      rw [hc, cond_true] at h
      cases h
      obtain ⟨cs, rfl, h1⟩ := hv
      exact ⟨flatPut_one (K := .agg K) (X := X) m (hp p List.mem_cons_self) hc ⟨cs, rfl, h1⟩, rfl, rfl, rfl, rfl⟩

theorem round_ok (m : Mt P glb Bk X0 w0 st ρ a W) {L : Nat} (hL : memL L st.dom = false) {I : Nat → Prop} (hI : ∀ k, I k → X0 k) {A : Kd} {x : A.T} {ps : List Nat} {vs : List Value} {st1 : St} (h : roundSt st L A x ps = some st1) (hv : (A.sem P).vals (fun k => ¬ I k) W x vs) (hp : ∀ p, p ∈ ps → p < st.n) :
    ∃ ρ1 X1, ρ.le ρ1 ∧ Mt P glb Bk X1 w0 st1 ρ1 { a with tmps := layTm a.tmps ps vs } W ∧ (∀ l, l ≠ L → st1.hp l = st.hp l) ∧ st1.cnt = st.cnt ∧ st1.n = st.n ∧ (∀ k, Xs st1 ρ1 X1 k ↔ Xs st ρ X0 k) ∧
      ((X1 = X0 ∧ st1.hp L = none) ∨ ∃ he v, st1.hp L = some (he, st.cnt) ∧ he.isLn = true ∧ ρ1 L = some v ∧ X1 = fun k => X0 k ∧ ownBlk he v ≠ some k) := by
  have hno : st.hp L = none := by
    cases hq : st.hp L with
    | none => rfl
    | some p => exact absurd hq (m.nolab hL p.1 p.2)
  unfold roundSt at h
  split at h
  · rename_i e K x p
    cases hc : (K.flat && Nat.ble 1 K.n) with
    | false => rw [hc] at h; cases h
    | true =>
      rw [hc, cond_true] at h
      simp only [Bool.and_eq_true] at hc
      cases h
      obtain ⟨v, rfl, h1⟩ := hv
      obtain ⟨m1, hX⟩ := m.lend hL (e := e) hc.1 (Nat.le_of_ble_eq_true hc.2) h1 hI
      have hsl : ∃ A n c, v = .slice A n c := by obtain ⟨A, c, hh, _⟩ := h1; exact ⟨_, _, _, hh⟩
      refine ⟨ρ.put L v, _, m.le_put hL v, m1.put (some p) (.mk false [.own L]) v (by simpa [dstOK, Nat.blt_eq, GX.lend] using hp p List.mem_cons_self) ⟨_, rfl, Lab.put_same _ _ _, hsl⟩, fun l hl => updf_other _ _ hl, rfl, rfl, hX, .inr ⟨.ln e K x, v, updf_same _ _ _, rfl, Lab.put_same _ _ _, rfl⟩⟩
  · obtain ⟨m1, g1, g2, g3, g4⟩ := flatPut_ok _ st a x ps vs st1 m h hv hp
    refine ⟨ρ, X0, ρ.le_refl, m1, fun l _ => by rw [g1], g2, g3, fun k => ?_, .inl ⟨rfl, by rw [g1]; exact hno⟩⟩
    unfold Xs
    rw [g1]

theorem Mt.putLoop (m : Mt P glb Bk X0 w0 st ρ a W) {l : Nat} {r : Loop} (hl : W.heap[l]? = some (.loop r)) (hB : ¬ Bk l) (o : Obj) : Mt P glb Bk X0 w0 st ρ a (W.putObj l o) := by
  have hk : ∀ k, k ≠ l → (W.putObj l o).heap[k]? = W.heap[k]? := fun k h => World.putObj_heap_other h
  have ev : Evo (Xs st ρ X0) W (Xs st ρ X0) (W.putObj l o) :=
    ⟨by simp, fun k hc _ => hk k (by rintro rfl; obtain ⟨_, _, _, hc⟩ := hc; rw [hl] at hc; cases hc), fun _ h _ => h, fun k h => by simpa using m.Xlt k h⟩
  refine ⟨m.size, m.dfr.keep (fun D hD => hk D (by rintro rfl; rw [hl] at hD; cases hD)), fun t => (m.tms t).mono ρ.le_refl ev, fun l' he s h => ?_, m.dis, fun k h => by simpa using m.x0 k h, m.bk,
    ⟨m.bel.os, m.bel.tape, m.bel.output, by simpa using m.bel.size, fun k hB' => (hk k (by rintro rfl; exact hB hB')).trans (m.bel.block k hB')⟩, m.nb, m.glb.evo ev, m.dom, m.stamp⟩
  obtain ⟨v, hv, hok⟩ := m.hps l' he s h
  refine ⟨v, hv, hok.mono ρ.le_refl ev (fun k hk' => hk k ?_)⟩
  rintro rfl
  obtain ⟨cs, t, fr, hc⟩ := hok.cells hk'
  rw [hl] at hc; cases hc

theorem Mt.reguard {Bk' : Nat → Prop} {w0' : World} (m : Mt P glb Bk X0 w0 st ρ a W) (hbk : ∀ k, Bk' k → k < w0'.heap.size) (hbel : Bel Bk' w0' W)
    (hnb : ∀ l he s v k, st.hp l = some (he, s) → ρ l = some v → OwnB ρ he v k → he.isLn = false → ¬ Bk' k) (hd : DefOK Bk' W a.defers) : Mt P glb Bk' X0 w0' st ρ a W :=
  ⟨m.size, hd, m.tms, m.hps, m.dis, m.x0, hbk, hbel, fun l he s v k h1 h2 h3 => ⟨fun hl => hnb l he s v k h1 h2 h3 hl, (m.nb l he s v k h1 h2 h3).2⟩, m.glb, m.dom, m.stamp⟩

theorem DefOK.noBk {Bk Bk' : Nat → Prop} {ds : List Deferred} (h : DefOK Bk W ds) (hk : ∀ k, Bk' k → Bk k) : DefOK Bk' W ds :=
  let ⟨Ds, h1, h2, h3⟩ := h
  ⟨Ds, h1, h2, fun D hD => ⟨(h3 D hD).1, fun hb => (h3 D hD).2 (hk D hb)⟩⟩

theorem Mt.struck {X1 : Nat → Prop} {L : Nat} (m : Mt P glb Bk X1 w0 st ρ a W) (hX : ∀ k, Xs (strike st L) ρ X0 k → Xs st ρ X1 k) (hnb : ∀ l he s v k, l ≠ L → st.hp l = some (he, s) → ρ l = some v → OwnB ρ he v k → ¬ X0 k) (hX0 : ∀ k, X0 k → k < W.heap.size) :
    Mt P glb Bk X0 w0 (strike st L) ρ a W := by
  have hhp : (strike st L).hp = updf st.hp L none := rfl
  have other : ∀ {l he s}, (strike st L).hp l = some (he, s) → l ≠ L ∧ st.hp l = some (he, s) := by
    intro l he s h
    by_cases hl : l = L
    · subst hl; rw [hhp, updf_same] at h; cases h
    · rw [hhp, updf_other _ _ hl] at h; exact ⟨hl, h⟩
  have ev := Evo.mono (W := W) (fun k hk => m.Xlt k (hX k hk)) hX
  refine ⟨m.size, m.dfr, fun t => (m.tms t).mono ρ.le_refl ev, fun l he s h => ?_, fun l l' he he' s s' u u' k h h' => m.dis l l' he he' s s' u u' k (other h).2 (other h').2, hX0, m.bk, m.bel, fun l he s u k h h2 h3 => ?_, m.glb.evo ev, m.dom, fun l he s h => m.stamp l he s (other h).2⟩
  · obtain ⟨u, hu, hok⟩ := m.hps l he s (other h).2
    exact ⟨u, hu, hok.mono ρ.le_refl ev (fun _ _ => rfl)⟩
  · obtain ⟨hl, h1⟩ := other h
    exact ⟨(m.nb l he s u k h1 h2 h3).1, hnb l he s u k hl h1 h2 h3⟩

theorem Mt.retm {tm' : Nat → SV} {tmps' : Array Value} (m : Mt P glb Bk X0 w0 st ρ a W) (hn : tmps'.size = st.n) (h : ∀ t, RepV P ρ (Xs st ρ X0) W (tm' t) (tmps'.getD t undef)) {ds : List Deferred} (hd : DefOK Bk W ds) :
    Mt P glb Bk X0 w0 { st with tm := tm' } ρ { tmps := tmps', defers := ds } W :=
  ⟨hn, hd, h, m.hps, m.dis, m.x0, m.bk, m.bel, m.nb, m.glb, m.dom, m.stamp⟩

theorem Mt.freeX {X1 : Nat → Prop} (m : Mt P glb Bk X1 w0 st ρ a W) (h : ∀ k, X0 k → X1 k) : Mt P glb Bk X0 w0 st ρ a W := by
  have hX : ∀ k, Xs st ρ X0 k → Xs st ρ X1 k := by
    rintro k (hk | hk)
    · exact .inl (h k hk)
    · exact .inr hk
  have ev := Evo.mono (W := W) (fun k hk => m.Xlt k (hX k hk)) hX
  refine ⟨m.size, m.dfr, fun t => (m.tms t).mono ρ.le_refl ev, fun l he s hl => ?_, m.dis, fun k hk => m.x0 k (h k hk), m.bk, m.bel, fun l he s v k h1 h2 h3 => ⟨(m.nb l he s v k h1 h2 h3).1, fun hx => (m.nb l he s v k h1 h2 h3).2 (h k hx)⟩, m.glb.evo ev, m.dom, m.stamp⟩
  obtain ⟨u, hu, hok⟩ := m.hps l he s hl
  exact ⟨u, hu, hok.mono ρ.le_refl ev (fun _ _ => rfl)⟩

theorem Mt.turned {I I' : Nat → Prop} {B : Nat} (m : Mt P glb Bk (fun k => X0 k ∨ I k) w0 st ρ a W) (ht : Turned I W I' W') (hI : ∀ k, I k → B ≤ k) (hB : ∀ k, Bk k → k < B) (hd : DefOK Bk W' a.defers) :
    Mt P glb Bk (fun k => X0 k ∨ I' k) w0 st ρ a W' ∧ Evo (Xs st ρ (fun k => X0 k ∨ I k)) W (Xs st ρ (fun k => X0 k ∨ I' k)) W' := by
  have own : ∀ {l he s v k}, st.hp l = some (he, s) → ρ l = some v → OwnB ρ he v k → k < W.heap.size ∧ ¬ I k := by
    intro l he s v k h1 h2 h3
    obtain ⟨v', hv', hok⟩ := m.hps l he s h1
    rw [h2] at hv'; cases hv'
    exact ⟨(hok.lt h3).2, fun hi => (m.nb l he s v k h1 h2 h3).2 (.inr hi)⟩
  have hx0 : ∀ k, X0 k ∨ I' k → k < W'.heap.size := by
    rintro k (h | h)
    · exact Nat.lt_of_lt_of_le (m.x0 k (.inl h)) ht.size
    · rcases ht.new k h with h | h
      · exact Nat.lt_of_lt_of_le (m.x0 k (.inr h)) ht.size
      · exact h.2
  have ev : Evo (Xs st ρ (fun k => X0 k ∨ I k)) W (Xs st ρ (fun k => X0 k ∨ I' k)) W' := by
    refine ⟨ht.size, fun k hc hx => ?_, fun k hk hlt => ?_, fun k hk => ?_⟩
    · obtain ⟨_, _, _, hc⟩ := hc
      exact ht.keep k (Array.getElem?_eq_some_iff.1 hc).1 (fun hi => hx (.inl (.inr hi)))
    · rcases hk with (hk | hk) | hk
      · exact .inl (.inl hk)
      · rcases ht.new k hk with h | h
        · exact .inl (.inr h)
        · omega
      · exact .inr hk
    · rcases hk with hk | ⟨l, he, s, v, h1, h2, h3⟩
      · exact hx0 k hk
      · exact Nat.lt_of_lt_of_le (own h1 h2 h3).1 ht.size
  refine ⟨⟨m.size, hd, fun t => (m.tms t).mono ρ.le_refl ev, fun l he s hl => ?_, m.dis, hx0, m.bk, ⟨ht.os.trans m.bel.os, ht.tape.trans m.bel.tape, ht.output.trans m.bel.output, Nat.le_trans m.bel.size ht.size, fun k hk => ?_⟩, fun l he s v k h1 h2 h3 => ⟨(m.nb l he s v k h1 h2 h3).1, fun hx => ?_⟩, m.glb.evo ev, m.dom, m.stamp⟩, ev⟩
  · obtain ⟨u, hu, hok⟩ := m.hps l he s hl
    refine ⟨u, hu, hok.mono ρ.le_refl ev (fun k hk => ?_)⟩
    obtain ⟨h1, h2⟩ := own hl hu hk
    exact ht.keep k h1 h2
  · refine (ht.keep k (Nat.lt_of_lt_of_le (m.bk k hk) m.bel.size) (fun hi => ?_)).trans (m.bel.block k hk)
    have := hI k hi
    have := hB k hk
    omega
  · rcases hx with hx | hx
    · exact (m.nb l he s v k h1 h2 h3).2 (.inl hx)
    · obtain ⟨g1, g2⟩ := own h1 h2 h3
      rcases ht.new k hx with h | h
      · exact g2 h
      · omega

theorem foldl_layTm : ∀ (ps : List Nat) (vs : List Value) (t : Array Value), (ps.zip vs).foldl (fun tmps (p : Nat × Value) => tmps.setIfInBounds p.1 p.2) t = layTm t ps vs
  | [], _, _ => by simp [layTm]
  | p :: ps, [], _ => by simp [layTm]
  | p :: ps, v :: vs, t => by rw [List.zip_cons_cons, List.foldl_cons, foldl_layTm ps vs, layTm]

theorem flatPut_len {X : Nat → Prop} : ∀ (A : Kd) (st : St) (x : A.T) (ps : List Nat) (vs : List Value) (st1 : St), flatPut st A x ps = some st1 → (A.sem P).vals X W x vs → vs.length = ps.length
  | .pair A B, st, x, [], vs, st1, h, hv => by cases h
  | .pair A B, st, x, p :: r, vs, st1, h, hv => by
    simp only [flatPut] at h
    cases hc : (A.flat && A.arg) with
    | false => rw [hc] at h; cases h
    | true =>
      rw [hc, cond_true] at h
      obtain ⟨v, vs', rfl, h1, h2⟩ := hv
      simp [flatPut_len B _ x.2 r vs' st1 h h2]
  | .unit, st, x, [], vs, st1, h, hv => by rw [show vs = [] from hv]; rfl
  | .unit, st, x, p :: r, vs, st1, h, hv => by cases h
  | .int k, st, x, ps, vs, st1, h, hv => by
    obtain ⟨v, rfl, _⟩ := hv
    match ps, h with
    | [p], h => rfl
  | .bool, st, x, ps, vs, st1, h, hv => by
    obtain ⟨v, rfl, _⟩ := hv
    match ps, h with
    | [p], h => rfl
  | .str, st, x, ps, vs, st1, h, hv => by
    obtain ⟨v, rfl, _⟩ := hv
    match ps, h with
    | [p], h => rfl
  | .agg K, st, x, ps, vs, st1, h, hv => by
    obtain ⟨v, rfl, _⟩ := hv
    match ps, h with
    | [p], h => rfl
  | .sl _ _, st, x, ps, vs, st1, h, hv => by simp [flatPut] at h
  | .nsl _ _, st, x, ps, vs, st1, h, hv => by simp [flatPut] at h
  | .fn _ _, st, x, ps, vs, st1, h, hv => by simp [flatPut] at h
  | .ptr _ _, st, x, ps, vs, st1, h, hv => by simp [flatPut] at h
  | .seq _, st, x, ps, vs, st1, h, hv => by simp [flatPut] at h

theorem roundSt_len {X : Nat → Prop} {L : Nat} {A : Kd} {x : A.T} {ps : List Nat} {vs : List Value} {st1 : St} (h : roundSt st L A x ps = some st1) (hv : (A.sem P).vals X W x vs) : vs.length = ps.length := by
  unfold roundSt at h
  split at h
  · obtain ⟨v, rfl, _⟩ := hv; rfl
  · exact flatPut_len A st x ps vs st1 h hv
end
end Go.GX
set_option linter.unusedVariables false
namespace Go.GX
open Go.RowKit Go.Shelf Go.Proofs

def Xt.ex : Xt → Exit
  | .norm => .normal
  | .exit i => .exit i
  | .ret => .ret

theorem hp_notlab {c : Nat} {h : Nat → Option (HE × Nat)} {l : Nat} : ∀ {its : Items} {g : its.G}, memL l its.labs = false → its.hp c h g l = h l
  | [], g, _ => rfl
  | .t t K :: r, g, hl => hp_notlab (its := r) hl
  | .row t l0 nn e K :: r, g, hl => by
    simp only [Items.labs, memL_cons, Bool.or_eq_false_iff] at hl
    simp only [Items.hp, hl.1, cond_false]
    exact hp_notlab (its := r) hl.2
  | .cell l0 ty K :: r, g, hl => by
    simp only [Items.labs, memL_cons, Bool.or_eq_false_iff] at hl
    simp only [Items.hp, hl.1, cond_false]
    exact hp_notlab (its := r) hl.2
  | .crow l0 ty m nn e K :: r, g, hl => by
    simp only [Items.labs, memL_cons, Bool.or_eq_false_iff] at hl
    simp only [Items.hp, hl.1, hl.2.1, cond_false]
    exact hp_notlab (its := r) hl.2.2
  | .lrow l0 nn e K :: r, g, hl => by
    simp only [Items.labs, memL_cons, Bool.or_eq_false_iff] at hl
    simp only [Items.hp, hl.1, cond_false]
    exact hp_notlab (its := r) hl.2
  | .mat t l0 vl nn e ag e1 K1 :: r, g, hl => by
    simp only [Items.labs, memL_cons, Bool.or_eq_false_iff] at hl
    simp only [Items.hp, hl.1, hl.2.1, cond_false]
    exact hp_notlab (its := r) hl.2.2
  | .lmat l0 vl nn e ag e1 K1 :: r, g, hl => by
    simp only [Items.labs, memL_cons, Bool.or_eq_false_iff] at hl
    simp only [Items.hp, hl.1, hl.2.1, cond_false]
    exact hp_notlab (its := r) hl.2.2

theorem hp_cases {c : Nat} {h : Nat → Option (HE × Nat)} {l : Nat} {he : HE} {s : Nat} : ∀ {its : Items} {g : its.G}, its.hp c h g l = some (he, s) → s = c ∨ h l = some (he, s)
  | [], g, hl => .inr hl
  | .t t K :: r, g, hl => hp_cases (its := r) hl
  | .row t l0 nn e K :: r, g, hl => by
    simp only [Items.hp] at hl
    cases hb : Nat.beq l l0 with
    | true => rw [hb] at hl; cases hl; exact .inl rfl
    | false => rw [hb] at hl; exact hp_cases (its := r) hl
  | .cell l0 ty K :: r, g, hl => by
    simp only [Items.hp] at hl
    cases hb : Nat.beq l l0 with
    | true => rw [hb] at hl; cases hl; exact .inl rfl
    | false => rw [hb] at hl; exact hp_cases (its := r) hl
  | .crow l0 ty m nn e K :: r, g, hl => by
    simp only [Items.hp] at hl
    cases hb : Nat.beq l l0 with
    | true => rw [hb] at hl; cases hl; exact .inl rfl
    | false =>
      rw [hb, cond_false] at hl
      cases hb2 : Nat.beq l m with
      | true => rw [hb2] at hl; cases hl; exact .inl rfl
      | false => rw [hb2] at hl; exact hp_cases (its := r) hl
  | .lrow l0 nn e K :: r, g, hl => by
    simp only [Items.hp] at hl
    cases hb : Nat.beq l l0 with
    | true => rw [hb] at hl; cases hl; exact .inl rfl
    | false => rw [hb] at hl; exact hp_cases (its := r) hl
  | .mat t l0 vl nn e ag e1 K1 :: r, g, hl => by
    simp only [Items.hp] at hl
    cases hb : Nat.beq l l0 with
    | true => rw [hb] at hl; cases hl; exact .inl rfl
    | false =>
      rw [hb, cond_false] at hl
      cases hb2 : Nat.beq l vl with
      | true => rw [hb2] at hl; cases hl
      | false => rw [hb2] at hl; exact hp_cases (its := r) hl
  | .lmat l0 vl nn e ag e1 K1 :: r, g, hl => by
    simp only [Items.hp] at hl
    cases hb : Nat.beq l l0 with
    | true => rw [hb] at hl; cases hl; exact .inl rfl
    | false =>
      rw [hb, cond_false] at hl
      cases hb2 : Nat.beq l vl with
      | true => rw [hb2] at hl; cases hl
      | false => rw [hb2] at hl; exact hp_cases (its := r) hl

theorem head_tm_off {its : Items} {st0 : St} {wr : List Nat} {g : its.G} (hok : its.ok st0 wr = true) {t : Nat} (ht : memL t wr = false) : (its.head st0 wr g).tm t = st0.tm t := by
  show (match its.tm g t with
      | some v => v
      | none => cond (memL t wr) .any (st0.tm t)) = _
  cases h : its.tm g t with
  | some sv => rw [tm_wr hok h] at ht; cases ht
  | none => simp only [ht, cond_false]

theorem head_frm {its : Items} {st0 : St} {wr : List Nat} (g : its.G) (hok : its.ok st0 wr = true) : Frm st0 (its.head st0 wr g) wr := by
  refine ⟨rfl, Nat.le_succ _, fun t ht => head_tm_off hok ht, fun l he s h hs => ?_⟩
  rcases hp_cases (its := its) (g := g) h with h1 | h1
  · omega
  · exact base_some h1

theorem kept_spec {labs : List Nat} {st0 st' : St} : ∀ {ls : List Nat}, keptOK labs st0 st' ls = true → ∀ l, memL l ls = true → memL l labs = true ∨ sameStamp (st'.hp l) (st0.hp l) = true
  | [], _, l, hl => by cases hl
  | k :: r, h, l, hl => by
    simp only [keptOK, Bool.and_eq_true, Bool.or_eq_true] at h
    rw [memL_cons, Bool.or_eq_true] at hl
    rcases hl with hl | hl
    · have := Nat.eq_of_beq_eq_true hl
      subst this
      exact h.1
    · exact kept_spec h.2 l hl

theorem All_spec : ∀ {its : Items} {p : its.G → Prop}, its.All p → ∀ g, p g
  | [], p, h, g => h
  | it :: r, p, h, g => All_spec (its := r) (h g.1) g.2

theorem exists_least {p : Nat → Prop} : ∀ n, p n → ∃ m, p m ∧ ∀ k, p k → m ≤ k := by
  intro n
  induction n using Nat.strongRecOn with
  | _ n ih =>
    intro hn
    by_cases h : ∃ k, k < n ∧ p k
    · obtain ⟨k, hk, hp⟩ := h
      exact ih k hk hp
    · exact ⟨n, hn, fun k hk => Nat.le_of_not_lt fun hlt => h ⟨k, hlt, hk⟩⟩

noncomputable def least {G : Type} (I : G → Act → World → Prop) (μ : G → Nat) (a : Act) (W : World) : Nat :=
  Classical.epsilon fun m => (∃ g, I g a W ∧ μ g = m) ∧ ∀ k, (∃ g, I g a W ∧ μ g = k) → m ≤ k

theorem least_spec {G : Type} {I : G → Act → World → Prop} {μ : G → Nat} {a : Act} {W : World} {g : G} (h : I g a W) : (∃ g', I g' a W ∧ μ g' = least I μ a W) ∧ ∀ k, (∃ g, I g a W ∧ μ g = k) → least I μ a W ≤ k :=
  Classical.epsilon_spec (exists_least (p := fun n => ∃ g, I g a W ∧ μ g = n) (μ g) ⟨g, h, rfl⟩)

theorem least_le {G : Type} {I : G → Act → World → Prop} {μ : G → Nat} {a : Act} {W : World} {g : G} (h : I g a W) : least I μ a W ≤ μ g := (least_spec h).2 _ ⟨g, h, rfl⟩
theorem least_at {G : Type} {I : G → Act → World → Prop} {μ : G → Nat} {a : Act} {W : World} {g : G} (h : I g a W) : ∃ g', I g' a W ∧ μ g' = least I μ a W := (least_spec h).1

section
variable {P : Program} {glb : Nat → Option GV} {Bk X0 : Nat → Prop} {w0 : World} {st st0 st' : St} {ρ ρ' : Lab} {a : Act} {W W' : World} {S : Stat} {F : Fence} {n : Nat}

def PostX (P : Program) (glb : Nat → Option GV) (Bk X0 : Nat → Prop) (w0 : World) (st : St) (ρ : Lab) (wr : List Nat) (K : Xt → St → Prop) (e : Exit) (a : Act) (W : World) : Prop :=
  ∃ x st' ρ', e = x.ex ∧ K x st' ∧ (Frm st st' wr ∧ ρ.le ρ') ∧ Mt P glb Bk X0 w0 st' ρ' a W

theorem Mt.ahead (m : Mt P glb Bk X0 w0 st0 ρ a W) (its : Items) (wr : List Nat) : Ahead P st0 wr its st0 := by
  have hp : ∀ l v, ρ l = some v → memL l st0.dom = true := m.dom
  refine ⟨rfl, fun t _ => rfl, fun l he s h _ => ⟨s, base_some h⟩, fun t => (m.tms t).uses hp, fun l he s h => ?_⟩
  obtain ⟨v, hv, hok⟩ := m.hps l he s h
  refine ⟨m.dom l v hv, ?_, m.stamp l he s h⟩
  cases he with
  | box own ty cs =>
    obtain ⟨b, arr, _, _, hcs, _⟩ := hok
    exact hcs.uses hp
  | mat nn e ag e1 K1 xs hole vl =>
    obtain ⟨⟨us, hu, _⟩, _⟩ := hok
    exact m.dom vl _ hu
  | _ => trivial

theorem Ahead.next {its : Items} {wr : List Nat} {g : its.G} (h : Ahead P st0 wr its st0) (hok : its.ok st0 wr = true) (hf : Frm (its.head st0 wr g) st' wr) (hk : keptOK its.labs (its.head st0 wr g) st' (its.labs ++ st0.dom) = true) : Ahead P st0 wr its st' := by
  refine ⟨hf.n, fun t ht => (hf.tm t ht).trans (head_tm_off hok ht), fun l he s hb hl => ?_, h.utm, h.uhp⟩
  obtain ⟨hd, _, hs⟩ := h.uhp l he s (base_some hb)
  have hhd : (its.head st0 wr g).hp l = some (he, s) := (hp_notlab hl).trans hb
  rcases kept_spec hk l (by rw [memL_append, hd, Bool.or_true]) with h1 | h1
  · rw [hl] at h1; cases h1
  · rw [hhd] at h1
    cases hq : st'.hp l with
    | none => rw [hq] at h1; cases h1
    | some p =>
      obtain ⟨he', s'⟩ := p
      rw [hq] at h1
      have hss : s' = s := Nat.eq_of_beq_eq_true h1
      subst hss
      have := hf.hp l he' s' hq (by show s' ≤ st0.cnt + 1; omega)
      rw [hhd] at this
      cases this
      exact ⟨s', rfl⟩

theorem Ahead.next0 {its : Items} {wr : List Nat} (h : Ahead P st0 wr its st0) (hf : Frm st0 st' wr) (hk : keptOK its.labs st0 st' (its.labs ++ st0.dom) = true) : Ahead P st0 wr its st' := by
  refine ⟨hf.n, fun t ht => hf.tm t ht, fun l he s hb hl => ?_, h.utm, h.uhp⟩
  obtain ⟨hd, _, hs⟩ := h.uhp l he s (base_some hb)
  have hhd : st0.hp l = some (he, s) := base_some hb
  rcases kept_spec hk l (by rw [memL_append, hd, Bool.or_true]) with h1 | h1
  · rw [hl] at h1; cases h1
  · rw [hhd] at h1
    cases hq : st'.hp l with
    | none => rw [hq] at h1; cases h1
    | some p =>
      obtain ⟨he', s'⟩ := p
      rw [hq] at h1
      have hss : s' = s := Nat.eq_of_beq_eq_true h1
      subst hss
      have := hf.hp l he' s' hq (by show s' ≤ st0.cnt; omega)
      rw [hhd] at this
      cases this
      exact ⟨s', rfl⟩
theorem join_post (hct : CtOK P glb S) {its : Items} (m : Mt P glb Bk X0 w0 st ρ a W) {wr : List Nat} {K : Xt → St → Prop} (hnd : nodupL its.labs = true) (hok : its.ok st wr = true) {I : its.Cur Prop} (h2 : its.All fun g => its.app I g → K .norm (its.head st wr g))
    {e : Exit} {a1 : Act} {W1 : World} (h : PostX P glb Bk X0 w0 st ρ wr (thruK K fun st' => chk (keptOK its.labs st st' (its.labs ++ st.dom)) <| its.get S (its.kept st) st' [] fun g => its.app I g) e a1 W1) : PostX P glb Bk X0 w0 st ρ wr K e a1 W1 := by
  obtain ⟨x, st', ρ', he, hk, hf, m'⟩ := h
  cases x with
  | ret => exact ⟨.ret, st', ρ', he, hk, hf, m'⟩
  | exit i => exact ⟨.exit i, st', ρ', he, hk, hf, m'⟩
  | norm =>
    obtain ⟨hkept, hget⟩ := chk_iff.1 hk
    have hA := m.ahead its wr
    obtain ⟨g, ρh, hI, mh, hold, _⟩ := m'.head hct its wr (hA.next0 hf.1 hkept) hnd hok hget
    exact ⟨.norm, its.head st wr g, ρh, he, All_spec h2 g hI, ⟨head_frm g hok, fun l v hv => by rw [hold l (m.dom l v hv)]; exact hf.2 l v hv⟩, mh⟩

theorem vc_block (an : Nat → Items) (id : Nat) (c : Code) (K : Xt → St → Prop) (hc : ∀ b, c ≠ .loop b) (hc2 : ∀ f ps x y, c ≠ .rangeFunc f ps x y) : vc S an (.block id c) st K = vc S an c st fun x st' => match x with
    | .norm => K .norm st'
    | .exit i => cond (Nat.beq i id) (K .norm st') (K (.exit i) st')
    | .ret => K .ret st' := by
  cases c <;> first | rfl | exact absurd rfl (hc _) | exact absurd rfl (hc2 _ _ _ _)

theorem block_post {id : Nat} {wr : List Nat} {K K' : Xt → St → Prop} {Q : Exit → Act → World → Prop} (hQ : ∀ e a W, PostX P glb Bk X0 w0 st ρ wr K e a W → Q e a W)
    (h1 : ∀ st', K' .norm st' → K .norm st') (h2 : ∀ i st', K' (.exit i) st' → cond (Nat.beq i id) (K .norm st') (K (.exit i) st')) (h3 : ∀ st', K' .ret st' → K .ret st') (e : Exit) (a : Act) (W : World) (h : PostX P glb Bk X0 w0 st ρ wr K' e a W) : Exit.inBlock id Q e a W := by
  obtain ⟨x, st', ρ', rfl, hk, hf, m⟩ := h
  cases x with
  | norm => exact hQ _ _ _ ⟨.norm, st', ρ', rfl, h1 _ hk, hf, m⟩
  | ret => exact hQ _ _ _ ⟨.ret, st', ρ', rfl, h3 _ hk, hf, m⟩
  | exit i =>
    have := h2 i st' hk
    show if i = id then Q .normal a W else Q (.exit i) a W
    by_cases hi : i = id
    · subst hi
      rw [if_pos rfl]
      rw [Nat.beq_refl, cond_true] at this
      exact hQ _ _ _ ⟨.norm, st', ρ', rfl, this, hf, m⟩
    · rw [if_neg hi]
      rw [beq_ne hi, cond_false] at this
      exact hQ _ _ _ ⟨.exit i, st', ρ', rfl, this, hf, m⟩

theorem mem_filterMap_dst {ops : List Oper} {j : Nat} {o : Oper} {d : Nat} (h : ops[j]? = some o) (hd : o.dst = some d) : d ∈ ops.filterMap (·.dst) :=
  List.mem_filterMap.2 ⟨o, List.mem_of_getElem? h, hd⟩

def VcOK (P : Program) (glb : Nat → Option GV) (Bk X0 : Nat → Prop) (w0 : World) (F : Fence) (n : Nat) (S : Stat) (an : Nat → Items) (c : Code) : Prop :=
  ∀ (st : St) (ρ : Lab) (a : Act) (W : World) (K : Xt → St → Prop), Mt P glb Bk X0 w0 st ρ a W → vc S an c st K → c.wpIn F n P (PostX P glb Bk X0 w0 st ρ (codeWrites c) K) a W

theorem loop_ok (hct : CtOK P glb S) (an : Nat → Items) (id : Nat) (body : Code) (ih : VcOK P glb Bk X0 w0 F n S an body) : VcOK P glb Bk X0 w0 F n S an (.block id (.loop body)) := by
  intro st ρ a W K m h
  simp only [vc] at h
  obtain ⟨hc, I, μ, h1, h2⟩ := chk_iff.1 h
  simp only [Bool.and_eq_true] at hc
  obtain ⟨hnd, hok⟩ := hc
  have hA := m.ahead (an id) (codeWrites body)
  refine wpIn_block ?_
  let Inv : (an id).G → Act → World → Prop := fun g a W => (an id).app I g ∧ ∃ ρ', Mt P glb Bk X0 w0 ((an id).head st (codeWrites body) g) ρ' a W ∧ ρ.le ρ'
  refine wpIn_loop (fun a W => ∃ g, Inv g a W) (least Inv ((an id).app μ)) ?_ ?_
  · obtain ⟨g, ρh, hk, mh⟩ := m.head hct (an id) (codeWrites body) hA hnd hok h1
    exact ⟨g, hk, ρh, mh.1, fun l v hv => by rw [mh.2.1 l (m.dom l v hv)]; exact hv⟩
  · rintro a1 W1 ⟨g0, hg0⟩
    obtain ⟨g, ⟨hI, ρg, mg, hleg⟩, hμ⟩ := least_at (μ := (an id).app μ) hg0
    refine wpIn_mono (ih _ ρg a1 W1 _ mg (All_spec h2 g hI)) ?_
    rintro e a2 W2 ⟨xt, st2, ρ2, rfl, hk, hf, m2⟩
    have hfr : Frm st st2 (codeWrites body) ∧ ρ.le ρ2 := ⟨(head_frm g hok).trans hf.1, hleg.trans hf.2⟩
    cases xt with
    | norm =>
      obtain ⟨hkept, hget⟩ := chk_iff.1 hk
      obtain ⟨g', ρ', ⟨hI', hlt⟩, m0, hold', _⟩ := m2.head hct (an id) (codeWrites body) (hA.next hok hf.1 hkept) hnd hok hget
      have m' := And.intro m0 (show ρ.le ρ' from fun l v hv => by rw [hold' l (m.dom l v hv)]; exact hfr.2 l v hv)
      refine ⟨⟨g', hI', ρ', m'⟩, ?_⟩
      rw [← hμ]
      exact Nat.lt_of_le_of_lt (least_le (I := Inv) ⟨hI', ρ', m'⟩) hlt
    | ret => exact ⟨.ret, st2, ρ2, rfl, hk, hfr, m2⟩
    | exit i =>
      show if i = id then _ else _
      by_cases hi : i = id
      · subst hi
        rw [if_pos rfl]
        have hk' : cond (Nat.beq i i) (K .norm st2) (K (.exit i) st2) := hk
        rw [Nat.beq_refl, cond_true] at hk'
        exact ⟨.norm, st2, ρ2, rfl, hk', hfr, m2⟩
      · rw [if_neg hi]
        have hk' : cond (Nat.beq i id) (K .norm st2) (K (.exit i) st2) := hk
        rw [beq_ne hi, cond_false] at hk'
        exact ⟨.exit i, st2, ρ2, rfl, hk', hfr, m2⟩

def VcAll (P : Program) (glb : Nat → Option GV) (S : Stat) (an : Nat → Items) (c : Code) : Prop :=
  ∀ (Bk X0 : Nat → Prop) (w0 : World) (F : Fence) (n : Nat), Wide F P → (F.round = none ∨ noRF c = true) → VcOK P glb Bk X0 w0 F n S an c

theorem seqC_ok {c : SC} {k : (A : Kd) → List A.T → Prop} (h : seqC c k) : ∃ A xs, c = .d (.seq A) xs ∧ k A xs := by
  unfold seqC at h
  split at h
  · exact ⟨_, _, rfl, h⟩
  · exact h.elim

structure RfI (P : Program) (glb : Nat → Option GV) (Bk X0 : Nat → Prop) (w0 : World) (its : Items) (I : its.G → Prop) (st : St) (ρ : Lab) (tmps : Array Value) (W : World) (Ds : List Nat) (l : Nat) (r : Loop) (Ib : Nat → Prop) (W2 : World) : Prop where
  ex : ∃ g ρg, I g ∧ Mt P glb Bk (fun k => X0 k ∨ Ib k) w0 (its.head st [] g) ρg ⟨tmps, []⟩ W2 ∧ ρ.le ρg ∧ Evo (Xs st ρ X0) W (Xs (its.head st [] g) ρg (fun k => X0 k ∨ Ib k)) W2
  lp : W2.heap[l]? = some (.loop r)
  dfr : ∀ D, D ∈ Ds → W2.heap[D]? = some (.deferred (some []))
  low : ∀ k, Ib k → l < k

structure RfX (P : Program) (glb : Nat → Option GV) (Bk X0 : Nat → Prop) (w0 : World) (KX : Xt → St → Prop) (st : St) (ρ : Lab) (tmps : Array Value) (Ds : List Nat) (l : Nat) (rd : Code → Loop) (Ib : Nat → Prop) (W2 : World) : Prop where
  ex : ∃ xt c st' ρ', ((xt = .ret ∧ c = .ret) ∨ ∃ i, xt = .exit i ∧ c = .exit i) ∧ KX xt st' ∧ Frm st st' [] ∧ ρ.le ρ' ∧ Mt P glb Bk (fun k => X0 k ∨ Ib k) w0 st' ρ' ⟨tmps, []⟩ W2 ∧ W2.heap[l]? = some (.loop (rd c))
  dfr : ∀ D, D ∈ Ds → W2.heap[D]? = some (.deferred (some []))
  low : ∀ k, Ib k → l < k

theorem turned_low {Ib I' : Nat → Prop} {l : Nat} (ht : Turned Ib W I' W') (hl : l < W.heap.size) (h : ∀ k, Ib k → l < k) : ∀ k, I' k → l < k := by
  intro k hk
  rcases ht.new k hk with h1 | h1
  · exact h k h1
  · omega

theorem turned_at {Ib I' : Nat → Prop} {l k : Nat} {o : Obj} (ht : Turned Ib W I' W') (h : ∀ k, Ib k → l < k) (hk : k ≤ l) (ho : W.heap[k]? = some o) : W'.heap[k]? = some o :=
  (ht.keep k (Array.getElem?_eq_some_iff.1 ho).1 (fun hi => by have := h k hi; omega)).trans ho

theorem RfI.turned {its : Items} {I : its.G → Prop} {tmps : Array Value} {W0 : World} {Ds : List Nat} {l : Nat} {r : Loop} {Ib I' : Nat → Prop} (h : RfI P glb Bk X0 w0 its I st ρ tmps W0 Ds l r Ib W) (ht : Turned Ib W I' W') (hB : ∀ k, Bk k → k ≤ l) (hD : ∀ D, D ∈ Ds → D ≤ l) :
    RfI P glb Bk X0 w0 its I st ρ tmps W0 Ds l r I' W' := by
  have hlt := (Array.getElem?_eq_some_iff.1 h.lp).1
  obtain ⟨g, ρg, hI, m, hle, hev⟩ := h.ex
  obtain ⟨m', ev'⟩ := m.turned (B := l + 1) ht (fun k hk => h.low k hk) (fun k hk => Nat.lt_succ_of_le (hB k hk)) DefOK.nil
  exact ⟨⟨g, ρg, hI, m', hle, hev.trans ev'⟩, turned_at ht h.low (Nat.le_refl _) h.lp, fun D hDm => turned_at ht h.low (hD D hDm) (h.dfr D hDm), turned_low ht hlt h.low⟩

theorem RfX.turned {KX : Xt → St → Prop} {tmps : Array Value} {Ds : List Nat} {l : Nat} {rd : Code → Loop} {Ib I' : Nat → Prop} (h : RfX P glb Bk X0 w0 KX st ρ tmps Ds l rd Ib W) (ht : Turned Ib W I' W') (hB : ∀ k, Bk k → k ≤ l) (hD : ∀ D, D ∈ Ds → D ≤ l) :
    RfX P glb Bk X0 w0 KX st ρ tmps Ds l rd I' W' := by
  obtain ⟨xt, c, st', ρ', hc, hk, hf, hle, m, hrec⟩ := h.ex
  have hlt := (Array.getElem?_eq_some_iff.1 hrec).1
  obtain ⟨m', ev'⟩ := m.turned (B := l + 1) ht (fun k hk => h.low k hk) (fun k hk => Nat.lt_succ_of_le (hB k hk)) DefOK.nil
  exact ⟨⟨xt, c, st', ρ', hc, hk, hf, hle, m', turned_at ht h.low (Nat.le_refl _) hrec⟩, fun D hDm => turned_at ht h.low (hD D hDm) (h.dfr D hDm), turned_low ht hlt h.low⟩

theorem round_end {Bk0 : Nat → Prop} {w00 : World} {XI X1 Bk2 : Nat → Prop} {sth st3 : St} {ρg ρ3 : Lab} {tmps : Array Value} {ds0 : List Deferred} {a5 : Act} {L l : Nat} {r r2 : Loop} {W2 W4 W5 : World} {o : Obj}
    (m0 : Mt P glb Bk0 X0 w00 st ρ ⟨tmps, ds0⟩ W) (hev : Evo (Xs st ρ X0) W (Xs sth ρg XI) W2) (hle : ρ.le ρ3) (hn : st3.n = st.n)
    (mg : Mt P glb Bk XI w0 sth ρg ⟨tmps, []⟩ W2) (hBk2 : ∀ k, Bk2 k ↔ k < W2.heap.size ∧ ¬ OwnWr sth ρg k)
    (m5 : Mt P glb Bk2 X1 W4 st3 ρ3 a5 W5) (h24 : ∀ k, Bk2 k → k ≠ l → W4.heap[k]? = W2.heap[k]?) (hos : W4.os = W2.os) (htape : W4.tape = W2.tape) (hout : W4.output = W2.output) (hsz : W2.heap.size ≤ W4.heap.size)
    (hl : W4.heap[l]? = some (.loop r)) (hlW2 : W2.heap[l]? = some (.loop r2)) (hl2 : Bk2 l) (hBl : ¬ Bk l) (hX1 : ∀ k, XI k → Xs st3 ρ3 X1 k)
    (hnl : noLn (strike st3 L).look st3.dom = true) :
    Mt P glb Bk XI w0 (backSt st L st3) ρ3 ⟨tmps, []⟩ (W5.putObj l o) ∧ Evo (Xs sth ρg XI) W2 (Xs (backSt st L st3) ρ3 XI) (W5.putObj l o) ∧ (∀ k, Bk2 k → k ≠ l → (W5.putObj l o).heap[k]? = W2.heap[k]?) := by
  have hl5 : W5.heap[l]? = some (.loop r) := (m5.bel.block l hl2).trans hl
  have other : ∀ {l' he s}, (strike st3 L).hp l' = some (he, s) → l' ≠ L ∧ st3.hp l' = some (he, s) := by
    intro l' he s h
    by_cases hl' : l' = L
    · subst hl'; rw [show (strike st3 l').hp = updf st3.hp l' none from rfl, updf_same] at h; cases h
    · rw [show (strike st3 L).hp = updf st3.hp L none from rfl, updf_other _ _ hl'] at h; exact ⟨hl', h⟩
  have nln : ∀ {l' he s}, l' ≠ L → st3.hp l' = some (he, s) → he.isLn = false := by
    intro l' he s hne h
    obtain ⟨v, hv, _⟩ := m5.hps l' he s h
    refine noLn_spec hnl l' (memL_iff.1 (m5.dom l' v hv)) he ?_
    show ((updf st3.hp L none) l').map (·.1) = some he
    rw [updf_other _ _ hne, h]; rfl
  have hBB : ∀ k, Bk k → Bk2 k := fun k hk => (hBk2 k).2 ⟨Nat.lt_of_lt_of_le (mg.bk k hk) mg.bel.size, fun ⟨l', he, s, v, h1, h2, h3, h4⟩ => (mg.nb l' he s v k h1 h2 h3).1 h4 hk⟩
  have hIB : ∀ k, XI k → Bk2 k := fun k hk => (hBk2 k).2 ⟨mg.x0 k hk, fun ⟨l', he, s, v, h1, h2, h3, h4⟩ => (mg.nb l' he s v k h1 h2 h3).2 hk⟩
  have same : ∀ k, Bk2 k → k ≠ l → (W5.putObj l o).heap[k]? = W2.heap[k]? := fun k hk hne =>
    (World.putObj_heap_other hne).trans ((m5.bel.block k hk).trans (h24 k hk hne))
  have hsz5 : W2.heap.size ≤ W5.heap.size := Nat.le_trans hsz m5.bel.size
  have mA : Mt P glb (fun _ => False) X1 W5 st3 ρ3 a5 W5 := m5.reguard (fun _ h => h.elim) ⟨rfl, rfl, rfl, Nat.le_refl _, fun _ _ => rfl⟩ (fun _ _ _ _ _ _ _ _ _ h => h) (m5.dfr.noBk (fun _ h => h.elim))
  have mB := mA.putLoop hl5 (fun h => h) o
  have mC : Mt P glb Bk X1 w0 st3 ρ3 a5 (W5.putObj l o) := by
    refine mB.reguard mg.bk ⟨m5.bel.os.trans (hos.trans mg.bel.os), m5.bel.tape.trans (htape.trans mg.bel.tape), m5.bel.output.trans (hout.trans mg.bel.output), by simpa using Nat.le_trans mg.bel.size hsz5, fun k hk => (same k (hBB k hk) (fun hh => hBl (hh ▸ hk))).trans (mg.bel.block k hk)⟩
      (fun l' he s v k h1 h2 h3 h4 hk => (m5.nb l' he s v k h1 h2 h3).1 h4 (hBB k hk)) ?_
    refine (m5.dfr.keep (W' := W5.putObj l o) (fun D hD => World.putObj_heap_other (fun hh => ?_))).noBk hBB
    subst hh; rw [hl5] at hD; cases hD
  have mD : Mt P glb Bk XI w0 (strike st3 L) ρ3 a5 (W5.putObj l o) := by
    refine mC.struck ?_ (fun l' he s v k hne h1 h2 h3 hX => ?_) (fun k hk => ?_)
    · rintro k (h | ⟨l', he, s, v, h1, h2, h3⟩)
      · exact hX1 k h
      · exact .inr ⟨l', he, s, v, (other h1).2, h2, h3⟩
    · exact (m5.nb l' he s v k h1 h2 h3).1 (nln hne h1) (hIB k hX)
    · have := mg.x0 k hk
      simp only [World.putObj_size]; omega
  have ev : Evo (Xs sth ρg XI) W2 (Xs (strike st3 L) ρ3 XI) (W5.putObj l o) := by
    refine ⟨by simpa using hsz5, fun k hc hx => ?_, fun k hk hlt => ?_, mD.Xlt⟩
    · obtain ⟨cs, t, fr, hc⟩ := hc
      refine same k ((hBk2 k).2 ⟨(Array.getElem?_eq_some_iff.1 hc).1, fun h => hx (h.xs)⟩) ?_
      rintro rfl
      rw [hlW2] at hc; cases hc
    · rcases hk with hk | ⟨l', he, s, v, h1, h2, h3⟩
      · exact .inl hk
      · obtain ⟨hne, h1⟩ := other h1
        have hnb := (m5.nb l' he s v k h1 h2 h3).1 (nln hne h1)
        exact Classical.byContradiction fun hno => hnb ((hBk2 k).2 ⟨hlt, fun h => hno h.xs⟩)
  refine ⟨mD.retm (tm' := st.tm) (tmps' := tmps) (m0.size.trans hn.symm) (fun t => (m0.tms t).mono hle (hev.trans ev)) DefOK.nil, ev, same⟩

theorem sameStamp_some {a b : Option (HE × Nat)} {he : HE} {n : Nat} (h : sameStamp a b = true) (hb : b = some (he, n)) : ∃ he', a = some (he', n) := by
  subst hb
  cases a with
  | none => cases h
  | some p => obtain ⟨he', m⟩ := p; have := Nat.eq_of_beq_eq_true h; subst this; exact ⟨he', rfl⟩

theorem base_frm_back {st : St} {L : Nat} {st1 st2 st3 : St} {its : Items} {g : its.G} {wa wb : List Nat} (hok : its.ok st [] = true) (hoth : ∀ l, l ≠ L → st1.hp l = (its.head st [] g).hp l) (hcnt1 : st1.cnt = (its.head st [] g).cnt) (hn1 : st1.n = (its.head st [] g).n)
    (hf2 : Frm st1 st2 wa) (hf3 : Frm st2 st3 wb) : Frm st (backSt st L st3) [] := by
  have hh := head_frm (st0 := st) (wr := []) g hok
  refine ⟨hf3.n.trans (hf2.n.trans (hn1.trans hh.n)), Nat.le_trans hh.cnt (hcnt1 ▸ Nat.le_trans hf2.cnt hf3.cnt), fun _ _ => rfl, fun l he s h hs => ?_⟩
  have h' : updf st3.hp L none l = some (he, s) := h
  by_cases hl : l = L
  · subst hl; rw [updf_same] at h'; cases h'
  · rw [updf_other _ _ hl] at h'
    have e1 : st.cnt ≤ st1.cnt := by rw [hcnt1]; exact hh.cnt
    have h2 := hf3.hp l he s h' (Nat.le_trans hs (Nat.le_trans e1 hf2.cnt))
    have h1 := hf2.hp l he s h2 (Nat.le_trans hs e1)
    rw [hoth l hl] at h1
    exact hh.hp l he s h1 hs

theorem ahead_back {st : St} {L : Nat} {st1 st2 st3 : St} {its : Items} {g : its.G} {wa wb : List Nat} (hA : Ahead P st [] its st) (hLd : memL L st.dom = false) (hoth : ∀ l, l ≠ L → st1.hp l = (its.head st [] g).hp l) (hcnt1 : st1.cnt = (its.head st [] g).cnt) (hn1 : st1.n = (its.head st [] g).n)
    (hf2 : Frm st1 st2 wa) (hf3 : Frm st2 st3 wb) (hk : keptOK its.labs st1 st3 (its.labs ++ st.dom) = true) : Ahead P st [] its (backSt st L st3) := by
  refine ⟨hf3.n.trans (hf2.n.trans (hn1.trans rfl)), fun _ _ => rfl, fun l he s hb hl => ?_, hA.utm, hA.uhp⟩
  obtain ⟨hd, _, hs⟩ := hA.uhp l he s (base_some hb)
  have hne : l ≠ L := by rintro rfl; rw [hd] at hLd; cases hLd
  have hhd : st1.hp l = some (he, s) := (hoth l hne).trans ((hp_notlab hl).trans hb)
  show ∃ s', updf st3.hp L none l = some (he, s')
  rw [updf_other _ _ hne]
  rcases kept_spec hk l (by rw [memL_append, hd, Bool.or_true]) with h1 | h1
  · rw [hl] at h1; cases h1
  · obtain ⟨he', h3⟩ := sameStamp_some h1 hhd
    have e1 : s ≤ st1.cnt := by rw [hcnt1]; show s ≤ st.cnt + 1; omega
    have h2 := hf2.hp l he' s (hf3.hp l he' s h3 (Nat.le_trans e1 hf2.cnt)) e1
    rw [hhd] at h2; cases h2
    exact ⟨s, h3⟩

theorem rf_ok (hF : Wide F P) (hro : F.round = none) (hS : StatOK P S) (hct : CtOK P glb S) (hg : S.glb = glb) (an : Nat → Items) (id : Nat) (f : Operand) (ps : Array Tmp) (asg body : Code) (iha : VcAll P glb S an asg) (ihb : VcAll P glb S an body) :
    VcOK P glb Bk X0 w0 F n S an (.block id (.rangeFunc f ps asg body)) := by
  intro st ρ a W K m h
  simp only [vc] at h
  obtain ⟨hc, h⟩ := chk_iff.1 h
  simp only [Bool.and_eq_true, Bool.not_eq_true'] at hc
  obtain ⟨⟨⟨⟨⟨⟨hnd, hok⟩, hheap⟩, hnra⟩, hnrb⟩, hps⟩, hL⟩ := hc
  have hpsn : ∀ p, p ∈ ps.toList → p < st.n := fun p hp => by have := List.all_eq_true.1 hps p hp; simpa [Nat.blt_eq] using this
  rw [memL_append, Bool.or_eq_false_iff] at hL
  obtain ⟨c, hk, hv⟩ := oneC_ok h (ev_ok hS hg m 0 f)
  obtain ⟨A, xs, rfl, I, hget, hrounds, hend⟩ := seqC_ok hk
  obtain ⟨u, hu, _, _, hseq⟩ := hv
  cases hu
  have hA := m.ahead (an id) []
  refine wpIn_block (wpIn_rangeFunc fun fn hfn => ?_)
  rw [hro]
  obtain ⟨rec, hrec⟩ : ∃ rec : LoopState → Option Code → Loop, rec = fun st pe => { state := st, pending := pe, fn, tmps := a.tmps, params := ps, assign := asg, body, defers := W.heap.size } := ⟨_, rfl⟩
  obtain ⟨W1, hW1⟩ : ∃ W1, (W.alloc (.deferred (some []))).alloc (.loop (rec .ready none)) = W1 := ⟨_, rfl⟩
  have hL1 : W1.heap[W.heap.size + 1]? = some (.loop (rec .ready none)) := by
    rw [← hW1]; have := World.alloc_heap_new (W.alloc (.deferred (some []))) (.loop (rec .ready none)); rwa [World.size_alloc] at this
  have hK1 : W1.heap[W.heap.size]? = some (.deferred (some [])) := by
    rw [← hW1]; exact (Below.heap_alloc _ _ _ (by simp)).trans (World.alloc_heap_new W _)
  have hb1 : Below W.heap.size W W1 := by
    rw [← hW1]; exact (((Below.refl _ W).alloc (Nat.le_refl _) _).alloc (by simp) _)
  have hsz1 : W1.heap.size = W.heap.size + 2 := by rw [← hW1]; simp
  obtain ⟨l, hl⟩ : ∃ l, l = W.heap.size + 1 := ⟨_, rfl⟩
  rw [← hl] at hL1
  obtain ⟨Ds, hDs, hDnd, hDD⟩ := m.dfr
  have hDlt : ∀ D, D ∈ Ds → D < W.heap.size := fun D hD => (Array.getElem?_eq_some_iff.1 (hDD D hD).1).1
  have hBlt : ∀ k, Bk k → k < W.heap.size := fun k hk => Nat.lt_of_lt_of_le (m.bk k hk) m.bel.size
  have ev1 := m.evoBelow hb1
  have m1 := m.below hb1
  have m1' : Mt P glb Bk X0 w0 st ρ ⟨a.tmps, []⟩ W1 := m1.retm (tm' := st.tm) (tmps' := a.tmps) m1.size m1.tms DefOK.nil
  obtain ⟨gf, fi, cap, hfv, hent, hrun⟩ := hseq _ W1 ev1
  refine ⟨l, [{ target := .collected W.heap.size, args := #[] }], W1, { target := .fn (.func gf) cap, args := fi ++ #[.func (.yield l) #[] #[]] }, W1, gf,
    fi ++ #[.func (.yield l) #[] #[]] ++ cap, W1, ?_, ?_, fun f' _ => hF.fn f', ?_, fun hd => (by rw [hF.depth] at hd; cases hd), ?_⟩
  · rw [← hW1, hrec, hl]; exact run_enterLoop_outer _ _ _ _ _
  · simp only [resolve, hfv]
    simp [go_sem]
  · simp [invoke, go_sem, hent _ _]
  · obtain ⟨Q, hQ⟩ : ∃ Q, Q = Exit.inBlock id (PostX P glb Bk X0 w0 st ρ (codeWrites (.block id (.rangeFunc f ps asg body))) K) := ⟨_, rfl⟩
    rw [← hQ]
    obtain ⟨KX, hKX⟩ : ∃ KX : Xt → St → Prop, KX = fun xt st' => match xt with
      | .norm => False
      | .exit i => cond (Nat.beq i id) (K .norm st') (K (.exit i) st')
      | .ret => K .ret st' := ⟨_, rfl⟩
    have key := hrun 0 l (fun pre Ib W2 => RfI P glb Bk X0 w0 (an id) (fun g => (an id).app (I pre) g) st ρ a.tmps W1 (W.heap.size :: Ds) l (rec .ready none) Ib W2)
      (fun Ib W2 => RfX P glb Bk X0 w0 KX st ρ a.tmps (W.heap.size :: Ds) l (fun c => rec .done (some c)) Ib W2)
      (fun pre Ib W2 I' W3 h ht => h.turned ht (fun k hk => by have := hBlt k hk; omega) (fun D hD => by
        rcases List.mem_cons.1 hD with rfl | hD
        · omega
        · have := hDlt D hD; omega))
      (fun Ib W2 I' W3 h ht => h.turned ht (fun k hk => by have := hBlt k hk; omega) (fun D hD => by
        rcases List.mem_cons.1 hD with rfl | hD
        · omega
        · have := hDlt D hD; omega))
      ?_ ?_
    · refine hF.calls _ _ _ _ _ ((callsIn_wide.1 key).mono ?_)
      have hne : ∀ D, D ∈ W.heap.size :: Ds → D ≠ l ∧ ¬ Bk D := by
        intro D hD
        rcases List.mem_cons.1 hD with rfl | hD
        · exact ⟨by omega, fun hb => by have := hBlt _ hb; omega⟩
        · exact ⟨by have := hDlt D hD; omega, (hDD D hD).2⟩
      have hdef : ∀ (W2 : World) (o : Obj), (∀ D, D ∈ W.heap.size :: Ds → W2.heap[D]? = some (.deferred (some []))) → DefOK Bk (W2.putObj l o) ([{ target := .collected W.heap.size, args := #[] }] ++ a.defers) := by
        intro W2 o hd
        refine ⟨W.heap.size :: Ds, by rw [hDs]; rfl, List.nodup_cons.2 ⟨fun hm => by have := hDlt _ hm; omega, hDnd⟩, fun D hD => ⟨(World.putObj_heap_other (hne D hD).1).trans (hd D hD), (hne D hD).2⟩⟩
      have hBl : ¬ Bk l := fun hb => by have := hBlt _ hb; omega
      have hsub : ∀ t, t ∈ ([] : List Nat) → t ∈ codeWrites (.block id (.rangeFunc f ps asg body)) := fun t ht => by simp at ht
      rintro e W2 ⟨⟨v, rfl⟩, Ib, hJ | hJ⟩
      · obtain ⟨g, ρg, hI, mg, hle, hev⟩ := hJ.ex
        refine ⟨none, _, (by have := run_endLoop (P := P) hJ.lp (by rw [hrec]; simp); rw [hrec] at this; exact this), ?_⟩
        have mE := (mg.freeX (X0 := X0) (fun k hk => .inl hk)).putLoop hJ.lp hBl (.loop { rec .ready none with state := .exhausted })
        have mF := mE.retm (tm' := ((an id).head st [] g).tm) (tmps' := a.tmps) mE.size mE.tms (hdef W2 _ hJ.dfr)
        rw [hQ]
        exact ⟨.norm, (an id).head st [] g, ρg, rfl, All_spec hend g hI, ⟨(head_frm g hok).sub hsub, hle⟩, by rw [hrec] at mF; exact mF⟩
      · obtain ⟨xt, c, st', ρ', hc, hk, hf, hle, mg, hlp⟩ := hJ.ex
        refine ⟨some c, _, (by have := run_endLoop (P := P) hlp (by rw [hrec]; simp); rw [hrec] at this; exact this), ?_⟩
        have mE := (mg.freeX (X0 := X0) (fun k hk => .inl hk)).putLoop hlp hBl (.loop { rec .done (some c) with state := .exhausted })
        have mF := mE.retm (tm' := st'.tm) (tmps' := a.tmps) mE.size mE.tms (hdef W2 _ hJ.dfr)
        rw [hrec] at mF
        rw [hKX] at hk
        rcases hc with ⟨rfl, rfl⟩ | ⟨i, rfl, rfl⟩
        · refine wpIn_ret ?_
          rw [hQ]
          exact ⟨.ret, st', ρ', rfl, hk, ⟨hf.sub hsub, hle⟩, mF⟩
        · refine wpIn_exit ?_
          rw [hQ]
          show if i = id then _ else _
          have hk' : cond (Nat.beq i id) (K .norm st') (K (.exit i) st') := hk
          by_cases hi : i = id
          · subst hi
            rw [if_pos rfl]
            rw [Nat.beq_refl, cond_true] at hk'
            exact ⟨.norm, st', ρ', rfl, hk', ⟨hf.sub hsub, hle⟩, mF⟩
          · rw [if_neg hi]
            rw [beq_ne hi, cond_false] at hk'
            exact ⟨.exit i, st', ρ', rfl, hk', ⟨hf.sub hsub, hle⟩, mF⟩
    ·
      rintro pre x rest Ib W2 vs hxs hJ hlow hWs hvals
      obtain ⟨g, ρg, hIg, mg, hle, hev⟩ := hJ.ex
      obtain ⟨st1, hst1, hvc⟩ := optK_ok (All_spec (hrounds pre x rest hxs) g hIg)
      have mr := mg.rebase
      have hLh : memL (id * 100 + 90) ((an id).head st [] g).dom = false := by show memL _ ((an id).labs ++ st.dom) = false; rw [memL_append, hL.1, hL.2]; rfl
      obtain ⟨ρ1, X1, hle1, m2, hoth, hcnt1, hn1, hX1, hLc⟩ := round_ok mr hLh (I := Ib) (fun k hk => .inr hk) hst1 hvals hpsn
      have hsz := roundSt_len hst1 hvals
      have hy := run_yield (P := P) (args := vs.toArray) hJ.lp (by rw [hrec]; simp [hsz])
      have htm : (((rec .ready none).params.zip vs.toArray).foldl (fun tmps (x : Nat × Value) => tmps.setIfInBounds x.1 x.2) (rec .ready none).tmps) = layTm a.tmps ps.toList vs := by
        rw [hrec, ← foldl_layTm, ← Array.foldl_toList]
        simp
      rw [htm] at hy
      obtain ⟨Bk2, hBk2⟩ : ∃ Bk2 : Nat → Prop, Bk2 = fun k => k < W2.heap.size ∧ ¬ OwnWr ((an id).head st [] g) ρg k := ⟨_, rfl⟩
      rw [← hBk2] at m2
      have hBi : ∀ k, Bk2 k ↔ k < W2.heap.size ∧ ¬ OwnWr ((an id).head st [] g) ρg k := fun k => by rw [hBk2]
      have notCells : ∀ {k : Nat} {o : Obj}, W2.heap[k]? = some o → (∀ cs t fr, o ≠ .cells cs t fr) → Bk2 k := by
        intro k o ho hno
        refine (hBi k).2 ⟨(Array.getElem?_eq_some_iff.1 ho).1, fun ⟨l', he, s, v, h1, h2, h3, _⟩ => ?_⟩
        obtain ⟨v', hv', hok'⟩ := mg.hps l' he s h1
        rw [h2] at hv'; cases hv'
        obtain ⟨cs, t, fr, hc⟩ := hok'.cells h3
        rw [ho] at hc; cases hc; exact hno _ _ _ rfl
      have hBl2 : Bk2 l := notCells hJ.lp (fun _ _ _ h => by cases h)
      have hfnr : rec .ready none = { state := .ready, pending := none, fn, tmps := a.tmps, params := ps, assign := asg, body, defers := W.heap.size } := by rw [hrec]
      refine ⟨fn, _, asg, body, (by rw [hfnr] at hy; exact hy), roundIn_of_wpIn trivial ?_⟩
      refine wpIn_mono (iha _ _ W2 (Fence.wide.inRound l) 0 (Wide.inRound P l) (.inr hnra) st1 ρ1 _ W2 _ m2 hvc) ?_
      rintro e a2 W3 ⟨y, st2, ρ2, rfl, hk2, hf2, m3⟩
      cases y with
      | exit i => exact hk2.elim
      | ret => exact hk2.elim
      | norm =>
      have hl3 : W3.heap[l]? = some (.loop (rec .ready none)) := (m3.bel.block l hBl2).trans hJ.lp
      refine ⟨_, run_beginRound hl3 (by rw [hrec]), ?_⟩
      obtain ⟨W4, hW4⟩ : ∃ W4, W3.putObj l (.loop { rec .ready none with state := .busy }) = W4 := ⟨_, rfl⟩
      rw [hW4]
      have m4 : Mt P glb Bk2 X1 W4 st2 ρ2 a2 W4 := by
        have mA : Mt P glb (fun _ => False) X1 W3 st2 ρ2 a2 W3 := m3.reguard (fun _ h => h.elim) ⟨rfl, rfl, rfl, Nat.le_refl _, fun _ _ => rfl⟩ (fun _ _ _ _ _ _ _ _ _ h => h) (m3.dfr.noBk (fun _ h => h.elim))
        have mB := mA.putLoop hl3 (fun h => h) (.loop { rec .ready none with state := .busy })
        rw [hW4] at mB
        refine mB.reguard (fun k hk => ?_) ⟨rfl, rfl, rfl, Nat.le_refl _, fun _ _ => rfl⟩ (fun l' he s v k h1 h2 h3 h4 => (m3.nb l' he s v k h1 h2 h3).1 h4) ?_
        · have := m3.bk k hk
          have := m3.bel.size
          rw [← hW4, World.putObj_size]; omega
        · refine m3.dfr.keep (fun D hD => ?_)
          rw [← hW4]
          exact World.putObj_heap_other (fun hh => by subst hh; rw [hl3] at hD; cases hD)
      refine wpIn_mono (ihb Bk2 X1 W4 (Fence.wide.inRound l) 0 (Wide.inRound P l) (.inr hnrb) st2 ρ2 a2 W4 _ m4 hk2) ?_
      rintro e a5 W5 ⟨z, st3, ρ3, rfl, hk3, hf3, m5⟩
      obtain ⟨hck, hk3⟩ := chk_iff.1 hk3
      simp only [Bool.and_eq_true] at hck
      obtain ⟨hst, hnl⟩ := hck
      have hl4 : W4.heap[l]? = some (.loop { rec .ready none with state := .busy }) := by
        rw [← hW4]; exact World.putObj_heap_same (Array.getElem?_eq_some_iff.1 hl3).1
      have hl5 : W5.heap[l]? = some (.loop { rec .ready none with state := .busy }) := (m5.bel.block l hBl2).trans hl4
      have h24 : ∀ k, Bk2 k → k ≠ l → W4.heap[k]? = W2.heap[k]? := fun k hk hne => by
        rw [← hW4, World.putObj_heap_other hne]; exact m3.bel.block k hk
      have hX13 : ∀ k, (X0 k ∨ Ib k) → Xs st3 ρ3 X1 k := by
        intro k hk
        rcases hLc with ⟨rfl, _⟩ | ⟨he, v, h1, h2, h3, rfl⟩
        · exact .inl hk
        · by_cases hb : ownBlk he v = some k
          · obtain ⟨he', h4⟩ := sameStamp_some hst h1
            have e1 : ((an id).head st [] g).cnt ≤ st1.cnt := by rw [hcnt1]; exact Nat.le_refl _
            have h5 := hf2.1.hp _ he' _ (hf3.1.hp _ he' _ h4 (Nat.le_trans e1 hf2.1.cnt)) e1
            rw [h1] at h5; cases h5
            exact .inr ⟨_, he, _, v, h4, hf3.2 _ _ (hf2.2 _ _ h3), .inl hb⟩
          · exact .inl ⟨hk, hb⟩
      have hle3 : ρ.le ρ3 := fun l' v hv => hf3.2 _ _ (hf2.2 _ _ (hle1 _ _ (hle _ _ hv)))
      have fin : ∀ (jump : Option Code), (Instr.endRound l jump).run P W5 = .ok (.bool jump.isNone) (W5.putObj l (.loop (rec (if jump.isNone then .ready else .done) jump))) ∧
          Mt P glb Bk (fun k => X0 k ∨ Ib k) w0 (backSt st (id * 100 + 90) st3) ρ3 ⟨a.tmps, []⟩ (W5.putObj l (.loop (rec (if jump.isNone then .ready else .done) jump))) ∧
          Evo (Xs ((an id).head st [] g) ρg (fun k => X0 k ∨ Ib k)) W2 (Xs (backSt st (id * 100 + 90) st3) ρ3 (fun k => X0 k ∨ Ib k)) (W5.putObj l (.loop (rec (if jump.isNone then .ready else .done) jump))) ∧
          (W5.putObj l (.loop (rec (if jump.isNone then .ready else .done) jump))).heap[l]? = some (.loop (rec (if jump.isNone then .ready else .done) jump)) ∧
          (∀ D, D ∈ W.heap.size :: Ds → (W5.putObj l (.loop (rec (if jump.isNone then .ready else .done) jump))).heap[D]? = some (.deferred (some []))) ∧
          Kept (Xs st ρ X0) W1 Ib W2 (W5.putObj l (.loop (rec (if jump.isNone then .ready else .done) jump))) := by
        intro jump
        have hr := run_endRound (P := P) jump hl5
        have hrr : ({ ({ rec .ready none with state := .busy } : Loop) with state := if jump.isNone then .ready else .done, pending := jump } : Loop) = rec (if jump.isNone then .ready else .done) jump := by rw [hrec]
        rw [hrr] at hr
        obtain ⟨mE, ev6, same⟩ := round_end (o := .loop (rec (if jump.isNone then .ready else .done) jump)) m1' hev hle3 (hf3.1.n.trans (hf2.1.n.trans (hn1.trans rfl))) mg hBi m5 h24 (by rw [← hW4]; exact m3.bel.os) (by rw [← hW4]; exact m3.bel.tape) (by rw [← hW4]; exact m3.bel.output) (by rw [← hW4, World.putObj_size]; exact m3.bel.size) hl4 hJ.lp hBl2 (fun hb => by have := hBlt _ hb; omega) hX13 hnl
        have hneD : ∀ D, D ∈ W.heap.size :: Ds → D ≠ l := by
          intro D hD
          rcases List.mem_cons.1 hD with rfl | hD
          · omega
          · have := hDlt D hD; omega
        refine ⟨hr, mE, ev6, World.putObj_heap_same (Array.getElem?_eq_some_iff.1 hl5).1, fun D hD => (same D (notCells (hJ.dfr D hD) (fun _ _ _ h => by cases h)) (hneD D hD)).trans (hJ.dfr D hD), ?_⟩
        have e4 : W4.os = W2.os ∧ W4.tape = W2.tape ∧ W4.output = W2.output := by rw [← hW4]; exact ⟨m3.bel.os, m3.bel.tape, m3.bel.output⟩
        refine ⟨m5.bel.os.trans e4.1, m5.bel.tape.trans e4.2.1, m5.bel.output.trans e4.2.2, ev6.size, fun k hk => same k ((hBi k).2 ⟨mg.x0 k (.inr hk), fun ⟨l', he, s, v, h1, h2, h3, _⟩ => (mg.nb l' he s v k h1 h2 h3).2 (.inr hk)⟩) (by have := hJ.low k hk; omega), fun k hc hlt hx => ?_⟩
        obtain ⟨cs, t, fr, hc⟩ := hc
        refine same k ((hBi k).2 ⟨(Array.getElem?_eq_some_iff.1 hc).1, fun ho => hev.notIn hx hlt ho.xs⟩) ?_
        rintro rfl
        rw [hJ.lp] at hc; cases hc
      have frmB : Frm st (backSt st (id * 100 + 90) st3) [] := base_frm_back (g := g) hok hoth hcnt1 hn1 hf2.1 hf3.1
      cases z with
      | norm =>
        obtain ⟨hkept, hget'⟩ := chk_iff.1 hk3
        obtain ⟨hr, mE, ev6, hlp6, hd6, hK6⟩ := fin none
        refine ⟨_, _, hr, .inl ⟨rfl, ?_, hK6⟩⟩
        obtain ⟨g', ρ', hI', mh', hold', hXh'⟩ := mE.head hct (an id) [] (ahead_back hA hL.2 hoth hcnt1 hn1 hf2.1 hf3.1 hkept) hnd hok hget'
        exact ⟨⟨g', ρ', hI', mh', fun l' v hv => by rw [hold' l' (m.dom l' v hv)]; exact hle3 l' v hv, (hev.trans ev6).trans (Evo.mono mh'.Xlt hXh')⟩, hlp6, hd6, hJ.low⟩
      | exit i =>
        obtain ⟨hr, mE, ev6, hlp6, hd6, hK6⟩ := fin (some (.exit i))
        refine ⟨_, _, hr, .inr ⟨rfl, ⟨⟨.exit i, .exit i, _, ρ3, .inr ⟨i, rfl, rfl⟩, by rw [hKX]; exact hk3, frmB, hle3, mE, hlp6⟩, hd6, hJ.low⟩, hK6⟩⟩
      | ret =>
        obtain ⟨hr, mE, ev6, hlp6, hd6, hK6⟩ := fin (some .ret)
        refine ⟨_, _, hr, .inr ⟨rfl, ⟨⟨.ret, .ret, _, ρ3, .inl ⟨rfl, rfl⟩, by rw [hKX]; exact hk3, frmB, hle3, mE, hlp6⟩, hd6, hJ.low⟩, hK6⟩⟩
    ·
      obtain ⟨g, ρh, hI, mh, hold, hXh⟩ := m1'.head hct (an id) [] hA hnd hok hget
      have mi := mh.freeX (X0 := fun k => X0 k ∨ False) (fun k hk => hk.elim (fun h => h) False.elim)
      refine ⟨⟨g, ρh, hI, mi, fun l v hv => by rw [hold l (m.dom l v hv)]; exact hv, Evo.mono mi.Xlt (fun k hk => hXh k ?_)⟩, hL1, fun D hD => ?_, fun k hk => hk.elim⟩
      · rcases hk with (hk | hk) | hk
        · exact .inl hk
        · exact hk.elim
        · exact .inr hk
      · rcases List.mem_cons.1 hD with rfl | hD
        · exact hK1
        · exact (hb1.block D (hDlt D hD)).trans (hDD D hD).1
theorem oneB_get {v : SV} {k : Bool → Prop} (h : oneB v k) : ∃ b, v = .mk false [.d .bool b] ∧ k b := by
  unfold oneB at h
  split at h
  · exact ⟨_, rfl, h⟩
  · exact h.elim
theorem known_eq {S : Stat} {st : St} {c : Operand} {b : Bool} (h : ev S st 0 c = .mk false [.d .bool b]) : known st c b = st := by
  cases c with
  | tmp t =>
    have h : st.tm t = .mk false [.d .bool b] := h
    have : updf st.tm t (.mk false [.d .bool b]) = st.tm := by
      funext i
      unfold updf
      cases hi : Nat.beq i t with
      | true => rw [Nat.eq_of_beq_eq_true hi]; exact h.symm
      | false => rfl
    exact congrArg (fun f => ({ st with tm := f } : St)) this
  | const => rfl
  | global => rfl
  | func => rfl
theorem rfOr {F : Fence} {x y z : Code} (h : F.round = none ∨ noRF z = true) (hz : noRF z = (noRF x && noRF y)) : (F.round = none ∨ noRF x = true) ∧ (F.round = none ∨ noRF y = true) := by
  rcases h with h | h
  · exact ⟨.inl h, .inl h⟩
  · rw [hz, Bool.and_eq_true] at h
    exact ⟨.inr h.1, .inr h.2⟩

def runR (S : Stat) (id : Nat) (ops : List Oper) (draw : Bool) (st : St) (k : St → Prop) : Prop :=
  match draw with
  | false => vcOps S ops (id * 100) ops 0 st k
  | true => vcAny S ops (id * 100) ops 0 [] st k
theorem vc_ok_all (hS : StatOK P S) (hct : CtOK P glb S) (hg : S.glb = glb) (an : Nat → Items) (c : Code) : VcAll P glb S an c ∧ (∀ b, c = .loop b → VcAll P glb S an b) ∧ ∀ f ps x y, c = .rangeFunc f ps x y → VcAll P glb S an x ∧ VcAll P glb S an y := by
  have no : ∀ {c : Code}, (∀ b, c ≠ .loop b) → (∀ f ps x y, c ≠ .rangeFunc f ps x y) → VcAll P glb S an c → VcAll P glb S an c ∧ (∀ b, c = .loop b → VcAll P glb S an b) ∧ ∀ f ps x y, c = .rangeFunc f ps x y → VcAll P glb S an x ∧ VcAll P glb S an y :=
    fun h1 h2 h => ⟨h, fun b hb => absurd hb (h1 b), fun f ps x y hb => absurd hb (h2 f ps x y)⟩
  induction c with
  | skip => refine no (fun _ h => by cases h) (fun _ _ _ _ h => by cases h) (fun Bk X0 w0 F n hF hrf st ρ a W K m h => wpIn_skip ⟨.norm, st, ρ, rfl, h, ⟨Frm.refl _ _, ρ.le_refl⟩, m⟩)
  | exit id => refine no (fun _ h => by cases h) (fun _ _ _ _ h => by cases h) (fun Bk X0 w0 F n hF hrf st ρ a W K m h => wpIn_exit ⟨.exit id, st, ρ, rfl, h, ⟨Frm.refl _ _, ρ.le_refl⟩, m⟩)
  | ret => refine no (fun _ h => by cases h) (fun _ _ _ _ h => by cases h) (fun Bk X0 w0 F n hF hrf st ρ a W K m h => wpIn_ret ⟨.ret, st, ρ, rfl, h, ⟨Frm.refl _ _, ρ.le_refl⟩, m⟩)
  | region id ops draw =>
    refine no (fun _ h => by cases h) (fun _ _ _ _ h => by cases h) (fun Bk X0 w0 F n hF hrf st ρ a W K m h => ?_)
    have base : ∀ K' : Xt → St → Prop, runR S id ops.toList draw st (K' .norm) → (Code.region id ops draw).wpIn F n P (PostX P glb Bk X0 w0 st ρ (codeWrites (.region id ops draw)) K') a W := by
      intro K' h
      cases draw with
      | false =>
        refine wpIn_region_list ?_
        have := vcOps_ok (F := F) (n := n) hF hS hct hg ops.toList (id * 100) (K' .norm) (PostX P glb Bk X0 w0 st ρ (codeWrites (.region id ops false)) K') st ρ (codeWrites (.region id ops false)) (fun j o d ho hd => mem_filterMap_dst ho hd)
          (fun a W hp => let ⟨st', ρ', h1, h2, h3⟩ := hp; ⟨.norm, st', ρ', rfl, h1, h2, h3⟩) ops.toList 0 st ρ a W (fun j => by rw [Nat.zero_add]) ⟨Frm.refl _ _, ρ.le_refl⟩ m h
        simpa using this
      | true =>
        exact vcAny_ok hF hS hct hg id ops (id * 100) (K' .norm) _ (codeWrites (.region id ops true)) (fun j o d ho hd => mem_filterMap_dst ho hd) m h
          (fun a W hp => let ⟨st', ρ', h1, h2, h3⟩ := hp; ⟨.norm, st', ρ', rfl, h1, h2, h3⟩)
    have hj : joinS S (an (1000000 + id)) st (ops.toList.filterMap (·.dst)) (runR S id ops.toList draw st) (K .norm) := by
      cases draw with
      | false => exact h
      | true => exact h
    generalize an (1000000 + id) = its at hj
    cases its with
    | nil => exact base K hj
    | cons i r =>
      obtain ⟨hc, I, h1, h2⟩ := chk_iff.1 hj
      simp only [Bool.and_eq_true] at hc
      exact wpIn_mono (base (thruK K fun st' => chk (keptOK (Items.labs (i :: r)) st st' (Items.labs (i :: r) ++ st.dom)) <| Items.get S (Items.kept (i :: r) st) st' (i :: r) [] fun g => Items.app (i :: r) I g) h1) (fun e a1 W1 hp => join_post hct m hc.1 hc.2 h2 hp)
  | seq x y ihx ihy =>
    refine no (fun _ h => by cases h) (fun _ _ _ _ h => by cases h) (fun Bk X0 w0 F n hF hrf st ρ a W K m h => ?_)
    refine wpIn_seq (wpIn_mono (ihx.1 Bk X0 w0 F n hF (rfOr hrf rfl).1 st ρ a W _ m h) ?_)
    rintro e a1 W1 ⟨xt, st1, ρ1, rfl, hk, hf, m1⟩
    have hfx : Frm st st1 (codeWrites x ++ codeWrites y) ∧ ρ.le ρ1 := ⟨hf.1.sub (fun t ht => List.mem_append.2 (.inl ht)), hf.2⟩
    cases xt with
    | norm =>
      refine wpIn_mono (ihy.1 Bk X0 w0 F n hF (rfOr hrf rfl).2 st1 ρ1 a1 W1 K m1 hk) ?_
      rintro e a2 W2 ⟨xt2, st2, ρ2, he, hk2, hf2, m2⟩
      exact ⟨xt2, st2, ρ2, he, hk2, ⟨hfx.1.trans (hf2.1.sub (fun t ht => List.mem_append.2 (.inr ht))), hfx.2.trans hf2.2⟩, m2⟩
    | exit i => exact ⟨.exit i, st1, ρ1, rfl, hk, hfx, m1⟩
    | ret => exact ⟨.ret, st1, ρ1, rfl, hk, hfx, m1⟩
  | cond c x y ihx ihy =>
    refine no (fun _ h => by cases h) (fun _ _ _ _ h => by cases h) (fun Bk X0 w0 F n hF hrf st ρ a W K m h => ?_)
    have base : ∀ K' : Xt → St → Prop, (oneB (ev S st 0 c) fun b => cnd b (vc S an x (known st c true) K') (vc S an y (known st c false) K')) → (Code.cond c x y).wpIn F n P (PostX P glb Bk X0 w0 st ρ (codeWrites (.cond c x y)) K') a W := by
      intro K h
      obtain ⟨b, he0, hk⟩ := oneB_get h
      obtain ⟨b', hbb, hv⟩ := oneB_ok (k := fun x => x = b) (by rw [he0]; exact rfl) (ev_ok hS hg m 0 c)
      obtain ⟨k1, k2⟩ := cnd_iff.1 hk
      subst hbb
      replace k1 : b' = true → vc S an x st K := fun hb => by have := k1 hb; rwa [← hb, known_eq he0] at this
      replace k2 : b' = false → vc S an y st K := fun hb => by have := k2 hb; rwa [← hb, known_eq he0] at this
      refine wpIn_cond_split hv (fun hb => ?_) (fun hb => ?_)
      · refine wpIn_mono (ihx.1 Bk X0 w0 F n hF (rfOr hrf rfl).1 st ρ a W K m (k1 hb)) ?_
        rintro e a1 W1 ⟨xt, st1, ρ1, he, hk, hf, m1⟩
        exact ⟨xt, st1, ρ1, he, hk, ⟨hf.1.sub (fun t ht => List.mem_append.2 (.inl ht)), hf.2⟩, m1⟩
      · refine wpIn_mono (ihy.1 Bk X0 w0 F n hF (rfOr hrf rfl).2 st ρ a W K m (k2 hb)) ?_
        rintro e a1 W1 ⟨xt, st1, ρ1, he, hk, hf, m1⟩
        exact ⟨xt, st1, ρ1, he, hk, ⟨hf.1.sub (fun t ht => List.mem_append.2 (.inr ht)), hf.2⟩, m1⟩
    simp only [vc] at h
    generalize an (2000000 + firstR x) = its at h
    cases its with
    | nil => exact base K h
    | cons i r =>
      obtain ⟨hc, I, h1, h2⟩ := chk_iff.1 h
      simp only [Bool.and_eq_true] at hc
      exact wpIn_mono (base _ h1) (fun e a1 W1 hp => join_post hct m hc.1 hc.2 h2 hp)
  | block id c ih =>
    refine no (fun _ h => by cases h) (fun _ _ _ _ h => by cases h) (fun Bk X0 w0 F n hF hrf => ?_)
    by_cases hc : ∃ b, c = .loop b
    · obtain ⟨b, rfl⟩ := hc
      exact loop_ok hct an id b (ih.2.1 b rfl Bk X0 w0 F n hF hrf)
    by_cases hrf2 : ∃ f ps x y, c = .rangeFunc f ps x y
    · obtain ⟨f, ps, x, y, rfl⟩ := hrf2
      have h2 := ih.2.2 f ps x y rfl
      exact rf_ok hF (hrf.resolve_right (by simp [noRF])) hS hct hg an id f ps x y h2.1 h2.2
    · intro st ρ a W K m h
      have hc2 : ∀ f ps x y, c ≠ .rangeFunc f ps x y := fun f ps x y hb => hrf2 ⟨f, ps, x, y, hb⟩
      have hc' : ∀ b, c ≠ .loop b := fun b hb => hc ⟨b, hb⟩
      rw [vc_block an id c K hc' hc2] at h
      refine wpIn_block (wpIn_mono (ih.1 Bk X0 w0 F n hF hrf st ρ a W _ m h) ?_)
      intro e a W hp
      refine block_post (id := id) (K := K) (wr := codeWrites c) ?_ ?_ ?_ ?_ e a W hp
      · exact fun e a W hp => hp
      · exact fun st' hk => hk
      · exact fun i st' hk => hk
      · exact fun st' hk => hk
  | loop c ih => exact ⟨fun Bk X0 w0 F n hF hrf st ρ a W K m h => h.elim, (fun b hb => by cases hb; exact fun Bk X0 w0 F n hF hrf => ih.1 Bk X0 w0 F n hF hrf), (fun f ps x y hb => by cases hb)⟩
  | rangeFunc f ps x y ihx ihy => exact ⟨fun Bk X0 w0 F n hF hrf st ρ a W K m h => h.elim, (fun b hb => by cases hb), (fun f ps x y hb => by cases hb; exact ⟨ihx.1, ihy.1⟩)⟩
  | scope c ih => refine no (fun _ h => by cases h) (fun _ _ _ _ h => by cases h) (fun Bk X0 w0 F n hF hrf st ρ a W K m h => h.elim)
  | label l => refine no (fun _ h => by cases h) (fun _ _ _ _ h => by cases h) (fun Bk X0 w0 F n hF hrf st ρ a W K m h => h.elim)
  | goto l => refine no (fun _ h => by cases h) (fun _ _ _ _ h => by cases h) (fun Bk X0 w0 F n hF hrf st ρ a W K m h => h.elim)
  | refuse s => refine no (fun _ h => by cases h) (fun _ _ _ _ h => by cases h) (fun Bk X0 w0 F n hF hrf st ρ a W K m h => h.elim)

theorem vc_ok (hF : Wide F P) (hrf : F.round = none) (hS : StatOK P S) (hct : CtOK P glb S) (hg : S.glb = glb) (an : Nat → Items) (c : Code) : VcOK P glb Bk X0 w0 F n S an c := (vc_ok_all hS hct hg an c).1 Bk X0 w0 F n hF (.inl hrf)
end
end Go.GX
set_option linter.unusedVariables false
namespace Go.GX
open Go.RowKit Go.Shelf Go.Proofs

theorem argsSV_length : ∀ (K : Kd) (x : K.T), (argsSV K x).length = K.ar
  | .pair A B, x => by simp [argsSV, Kd.ar, argsSV_length B]
  | .unit, _ => rfl
  | .agg K, x => rfl
  | .int k, x => rfl
  | .bool, x => rfl
  | .str, x => rfl
  | .sl e K, x => rfl
  | .nsl e K, x => rfl
  | .fn A R, x => rfl
  | .ptr t K, x => rfl
  | .seq A, x => rfl

theorem tmOf_append (l1 l2 : List SV) : ∀ i, tmOf (l1 ++ l2) i = if i < l1.length then tmOf l1 i else tmOf l2 (i - l1.length) := by
  induction l1 with
  | nil => intro i; simp
  | cons s r ih =>
    intro i
    cases i with
    | zero => simp [tmOf]
    | succ i =>
      simp only [List.cons_append, tmOf, List.length_cons, Nat.succ_lt_succ_iff, Nat.add_sub_add_right]
      exact ih i

theorem tmOf_past : ∀ (l : List SV) (i : Nat), l.length ≤ i → tmOf l i = .any
  | [], i, _ => by cases i <;> rfl
  | s :: r, 0, h => by simp at h
  | s :: r, i + 1, h => tmOf_past r i (by simpa using h)

section
variable {P : Program} {glb : Nat → Option GV} {Bk X0 : Nat → Prop} {w0 : World} {st : St} {ρ : Lab} {a : Act} {W : World} {S : Stat}

def resOne (tmps : Array Value) : ResultVar → Sem Value
  | .tmp t => pure (tmps.getD t undef)
  | .cell c t => do loadVar t (← asAddr (tmps.getD c undef))

theorem resSV_ok (hS : StatOK P S) (m : Mt P glb Bk X0 w0 st ρ a W) (rv : ResultVar) (h : resSV S st rv ≠ .any) : ∃ v, (resOne a.tmps rv).run P W = .ok v W ∧ RepV P ρ (Xs st ρ X0) W (resSV S st rv) v := by
  cases rv with
  | tmp t => exact ⟨_, rfl, m.tms t⟩
  | cell c t =>
    simp only [resSV] at h ⊢
    cases hi : S.ty t with
    | none => rw [hi] at h; exact absurd rfl h
    | some i =>
      rw [hi] at h
      simp only at h ⊢
      have hv := m.tms c
      split at h
      · rename_i sc hsc
        rw [hsc] at hv
        obtain ⟨c', hc', hrc⟩ := hv
        cases hc'
        split at h
        · rename_i cs hcs
          cases hn : Nat.ble i.kd.n cs.length with
          | false => rw [hn] at h; exact absurd rfl h
          | true =>
            have hn := Nat.le_of_ble_eq_true hn
            simp only [cond_true]
            obtain ⟨ad, us, he, hr, hcell⟩ := cellsAt_ok m hcs hrc
            have hlen := hr.length
            have hsz := run_sizeOf hS hi W
            obtain ⟨harg, _, hagg⟩ := hS.ty t i hi
            have hagg := hagg W
            have hr' := hr.take i.kd.n
            cases hb : i.kd.isAgg with
            | true =>
              rw [hb] at hagg
              have hl : (loadCells ad (us.take i.kd.n).length).run P W = .ok (us.take i.kd.n).toArray W := run_loadCells_list W ad _ (fun j v hv => by
                rw [List.getElem?_take] at hv
                split at hv
                · exact hcell j v hv
                · cases hv)
              rw [List.length_take, Nat.min_eq_left (by omega)] at hl
              refine ⟨.agg (us.take i.kd.n).toArray, ?_, _, rfl, hr'⟩
              simp only [resOne, he]
              simp only [asAddr, loadVar, Sem.run_bind, Sem.run_pure, Result.andThen_ok, hagg, if_true, hsz, hl]
            | false =>
              rw [hb] at hagg
              have h1 := kd_n_one harg hb
              rw [h1] at hn hr' ⊢
              cases us with
              | nil => simp at hlen; omega
              | cons u us =>
                cases cs with
                | nil => simp at hn
                | cons c0 cs =>
                  obtain ⟨v0, vs0, hv0, hrc', _⟩ := hr
                  cases hv0
                  have hc0 := hcell 0 u rfl
                  rw [addZero] at hc0
                  refine ⟨u, ?_, c0, rfl, hrc'⟩
                  simp only [resOne, he]
                  simp [asAddr, loadVar, hagg, run_load, hc0]
        · exact absurd rfl h
      · exact absurd rfl h

theorem decArgs_any {d1 : (K : Kd) → SC → Option (K.T × List Nat)} : ∀ (K : Kd) (ss : List SV) (x : K.T) (ls : List Nat), decArgs d1 K ss = some (x, ls) → ∀ s, s ∈ ss → s ≠ .any := by
  have single : ∀ (K : Kd) (ss : List SV) (x : K.T) (ls : List Nat), decArg d1 K ss = some (x, ls) → ∀ s, s ∈ ss → s ≠ .any := by
    intro K ss x ls h s hs
    unfold decArg at h
    split at h
    · rcases List.mem_singleton.1 hs with rfl
      simp
    · cases h
  intro K
  induction K with
  | unit =>
    intro ss x ls h s hs
    cases ss with
    | nil => simp at hs
    | cons s' r => cases s' <;> cases h
  | pair A B ihA ihB =>
    intro ss x ls h s hs
    cases ss with
    | nil => simp at hs
    | cons s' r =>
      cases s' with
      | mk ag cs =>
        rcases List.mem_cons.1 hs with rfl | hs
        · simp
        · simp only [decArgs] at h
          split at h
          · split at h
            · rename_i y l hd
              cases hr : decArgs d1 B r with
              | none => rw [hr] at h; cases h
              | some q => exact ihB r q.1 q.2 hr s hs
            · cases h
          · cases h
      | any => cases h
      | tup l => cases h
  | _ => intro ss x ls h s hs; exact single _ ss x ls h s hs

theorem results_ok (hS : StatOK P S) (m : Mt P glb Bk X0 w0 st ρ a W) : ∀ (rs : List ResultVar), (∀ r, r ∈ rs → resSV S st r ≠ .any) →
    ∃ vs : List Value, (rs.mapM (resOne a.tmps)).run P W = .ok vs W ∧ RepVs P ρ (Xs st ρ X0) W (rs.map (resSV S st)) vs
  | [], _ => ⟨[], rfl, rfl⟩
  | r :: rs, h => by
    obtain ⟨v, h1, h2⟩ := resSV_ok hS m r (h r List.mem_cons_self)
    obtain ⟨vs, h3, h4⟩ := results_ok hS m rs (fun r' hr' => h r' (List.mem_cons_of_mem _ hr'))
    refine ⟨v :: vs, ?_, v, vs, rfl, h2, h4⟩
    rw [List.mapM_cons, Sem.run_bind, h1]
    simp only [Result.andThen_ok, Sem.run_bind, h3, Sem.run_pure]

theorem ret_of_vals {R : Kd} {X : Nat → Prop} {x : R.T} {vs : List Value} (h : (R.sem P).vals X W x vs) (hr : R.retOK = true) : (R.sem P).ret X W x (if h : vs.toArray.size = 1 then vs.toArray[0] else .tuple vs.toArray) := by
  cases R with
  | unit =>
    have h : vs = [] := h
    subst h
    rfl
  | pair A B =>
    obtain ⟨v, vs', rfl, h1, h2⟩ := h
    have hne : vs' ≠ [] := by
      intro hn
      subst hn
      cases B <;> first
        | (simp [Kd.retOK] at hr; done)
        | (obtain ⟨_, _, h, _⟩ := h2; cases h; done)
        | (obtain ⟨_, h, _⟩ := h2; cases h; done)
    have : ¬ (v :: vs').toArray.size = 1 := by
      cases vs' with
      | nil => exact absurd rfl hne
      | cons w r => simp
    rw [dif_neg this]
    exact ⟨v, vs', rfl, h1, h2⟩
  | agg K => obtain ⟨cs, rfl, h1⟩ := h; exact ⟨cs, rfl, h1⟩
  | int k => obtain ⟨v, rfl, h1⟩ := h; exact h1
  | bool => obtain ⟨v, rfl, h1⟩ := h; exact h1
  | str => obtain ⟨v, rfl, h1⟩ := h; exact h1
  | sl e K => obtain ⟨v, rfl, h1⟩ := h; exact h1
  | nsl e K => obtain ⟨v, rfl, h1⟩ := h; exact h1
  | fn A R => obtain ⟨v, rfl, h1⟩ := h; exact h1
  | ptr t K => obtain ⟨v, rfl, h1⟩ := h; exact h1
  | seq A => obtain ⟨v, rfl, h1⟩ := h; exact h1
end

def takeAll (W : World) : List Nat → World
  | [] => W
  | D :: r => takeAll (W.putObj D (.deferred none)) r

theorem takeAll_leaves {F : Fence} {n : Nat} {P : Program} {fn : Func} {tmps : Array Value} {R : Ending → World → Prop} : ∀ (Ds : List Nat) (W : World), Ds.Nodup → (∀ D : Nat, D ∈ Ds → W.heap[D]? = some (Obj.deferred (some []))) →
    (∃ v, (results fn tmps).run P (takeAll W Ds) = .ok v (takeAll W Ds) ∧ R (.returned v) (takeAll W Ds)) → LeavesInM F n P fn tmps R (Ds.map fun D => ({ target := .collected D, args := #[] } : Deferred)) .returning W
  | [], W, _, _, h => h
  | D :: r, W, hn, hD, h => by
    obtain ⟨h1, h2⟩ := List.nodup_cons.1 hn
    refine ⟨by simp, .inl ⟨D, W.putObj D (.deferred none), rfl, run_takeDeferred (hD D List.mem_cons_self), takeAll_leaves r _ h2 (fun E hE => ?_) h⟩⟩
    rw [World.putObj_heap_other (by intro hh; subst hh; exact h1 hE)]
    exact hD E (List.mem_cons_of_mem _ hE)

theorem takeAll_spec : ∀ (Ds : List Nat) (W : World), (takeAll W Ds).heap.size = W.heap.size ∧ (takeAll W Ds).os = W.os ∧ (takeAll W Ds).tape = W.tape ∧ (takeAll W Ds).output = W.output ∧ ∀ k, k ∉ Ds → (takeAll W Ds).heap[k]? = W.heap[k]?
  | [], W => ⟨rfl, rfl, rfl, rfl, fun _ _ => rfl⟩
  | D :: r, W => by
    obtain ⟨h1, h2, h3, h4, h5⟩ := takeAll_spec r (W.putObj D (.deferred none))
    refine ⟨h1.trans (by simp [World.putObj]), h2, h3, h4, fun k hk => ?_⟩
    simp only [List.mem_cons, not_or] at hk
    exact (h5 k hk.2).trans (World.putObj_heap_other hk.1)

theorem decFresh_any {st : St} {R : Kd} {rs : List SV} {x : R.T} (h : decFresh st R rs = some x) : ∀ s, s ∈ rs → s ≠ .any := by
  intro s hs
  unfold decFresh at h
  split at h
  · rcases List.mem_singleton.1 hs with rfl; simp
  · rcases List.mem_singleton.1 hs with rfl; simp
  · cases h

theorem decFresh_ok {P : Program} {glb : Nat → Option GV} {X0 : Nat → Prop} {w0 : World} {st : St} {ρ : Lab} {a : Act} {W : World} (m : Mt P glb (fun k => k < w0.heap.size) X0 w0 st ρ a W) {R : Kd} {rs : List SV} {x : R.T} (h : decFresh st R rs = some x) {vs : List Value} (hv : RepVs P ρ (Xs st ρ X0) W rs vs) :
    (R.sem P).vals (fun k => k < w0.heap.size) W x vs := by
  unfold decFresh at h
  split at h
  · rename_i l
    obtain ⟨v, vs', rfl, ⟨c, hc, hcc⟩, hvs⟩ := hv
    have hvs : vs' = [] := hvs
    subst hvs
    cases hc
    obtain ⟨hρ, _⟩ := hcc
    split at h
    · rename_i nn e K' xs hl
      obtain ⟨s, hs⟩ := look_some hl
      cases hf : K'.flat with
      | false => rw [hf] at h; cases h
      | true =>
        rw [hf, cond_true] at h
        have hval : ∀ e : TypeId, ((Kd.sl e K').sem P).val (fun k => k < w0.heap.size) W xs v := by
          intro e'
          obtain ⟨A, cap, h1, h2, h3, h4⟩ := m.rowElems hs hρ
          refine ⟨A, cap, h1, h2, h3, fun hne => ?_⟩
          obtain ⟨g, rfl, hget⟩ := h4 hne
          have hnb := m.nb l _ s v g hs hρ (by rw [h1]; exact .inl rfl)
          obtain ⟨v2, hv2, hok⟩ := m.hps l _ s hs
          rw [hρ] at hv2; cases hv2
          have hlt := (hok.lt (k := g) (by rw [h1]; exact .inl rfl)).2
          refine ⟨_, rfl, hnb.1 rfl, hlt, fun j y hy => ?_⟩
          obtain ⟨ecs, k1, k2⟩ := hget j y hy
          exact ⟨ecs, Kd.flat_cells P K' hf k1, fun i u hu => by rw [plainAdd, Nat.zero_add]; exact k2 i u hu⟩
        split at h
        · rename_i e2 K
          split at h
          · rename_i hk
            subst hk
            cases h
            exact vals_one (hval e2) rfl
          · cases h
        · rename_i e2 K
          split at h
          · rename_i hk
            subst hk
            split at h
            · rename_i hnn
              cases h
              obtain ⟨v2, hv2, hok⟩ := m.hps l _ s hs
              rw [hρ] at hv2; cases hv2
              obtain ⟨a2, n2, c2, hv3⟩ := hok.2.2 hnn
              refine vals_one (K := .nsl e2 K') ?_ rfl
              show (some xs = none → v = Value.slice none 0 0) ∧ ∀ ys, some xs = some ys → _
              refine ⟨fun hx => (by cases hx), fun ys hy => ?_⟩
              cases hy
              obtain ⟨A, c, g1, g2, g3, g4⟩ := hval e2
              refine ⟨A, c, g1, ?_, g2, g3, g4⟩
              rw [hv3] at g1
              injection g1 with g1
              rw [← g1]
              simp
            · cases h
          · cases h
        · cases h
    · cases h
  · obtain ⟨v, vs', rfl, ⟨c, hc, hcc⟩, hvs⟩ := hv
    have hvs : vs' = [] := hvs
    subst hvs
    cases hc
    have hcc : v = .slice none 0 0 := hcc
    subst hcc
    split at h
    · cases h
      exact ⟨_, rfl, none, 0, rfl, Nat.le_refl _, by unfold maxLen; omega, fun h => absurd rfl h⟩
    · cases h
      exact ⟨_, rfl, fun _ => rfl, fun xs hx => by cases hx⟩
    · cases h
  · cases h

section
variable {P : Program}

theorem toList_nodup {o : Option Nat} : o.toList.Nodup := by cases o <;> simp

theorem mat_fp {W : World} {e e1 : TypeId} {K1 : Kd} {xs : List (List K1.T)} {us : List Value} {v : Value} (mo : MatOK P W e e1 K1 xs none us v) : (v.ownBlock.toList ++ us.flatMap fun u => u.ownBlock.toList).Nodup := by
  rw [List.nodup_append]
  refine ⟨toList_nodup, ?_, ?_⟩
  · have go : ∀ (ws : List Value), (∀ (j j' : Nat) u u' k, j ≠ j' → ws[j]? = some u → ws[j']? = some u' → u.ownBlock = some k → u'.ownBlock ≠ some k) → (ws.flatMap fun u => u.ownBlock.toList).Nodup := by
      intro ws
      induction ws with
      | nil => intro _; simp
      | cons w r ih =>
        intro h
        rw [List.flatMap_cons, List.nodup_append]
        refine ⟨toList_nodup, ih (fun j j' u u' k hne hj hj' => h (j + 1) (j' + 1) u u' k (by omega) (by simpa using hj) (by simpa using hj')), fun k hk k' hk' hkk => ?_⟩
        subst hkk
        obtain ⟨u, hu, hku⟩ := List.mem_flatMap.1 hk'
        obtain ⟨j, hj⟩ := List.getElem?_of_mem hu
        have h1 : w.ownBlock = some k := by simpa using hk
        have h2 : u.ownBlock = some k := by simpa using hku
        exact h 0 (j + 1) w u k (by omega) rfl (by simpa using hj) h1 h2
    exact go us (fun j j' u u' k hne hj hj' => mo.dis j j' u u' k hne hj hj' rfl rfl)
  · intro k hk k' hk' hkk
    subst hkk
    obtain ⟨u, hu, hku⟩ := List.mem_flatMap.1 hk'
    obtain ⟨j, hj⟩ := List.getElem?_of_mem hu
    exact mo.apart j u k hj rfl (by simpa using hku) (by simpa using hk)

def FpOf (st : St) (ρ : Lab) (ls : List Nat) (fp : List Nat) : Prop := ∀ k, k ∈ fp → ∃ l he s u, l ∈ ls ∧ st.hp l = some (he, s) ∧ ρ l = some u ∧ OwnB ρ he u k ∧ he.isLn = false

theorem slOwn_row {W : World} {e : TypeId} {K : Kd} {xs : List K.T} {v : Value} (h : InRow P W e K xs v) (hf : K.flat = true) (hn : 0 < K.n) : slOwn P W e K xs v v.ownBlock.toList := by
  cases K with
  | sl e1 K1 => simp [Kd.flat] at hf
  | agg K =>
    cases K with
    | sl e1 K1 => simp [Kd.flat] at hf
    | _ => exact ⟨h, hf, hn, rfl⟩
  | _ => exact ⟨h, hf, hn, rfl⟩

theorem decSlO_ok {P : Program} {glb : Nat → Option GV} {Bk X0 : Nat → Prop} {w0 : World} {st : St} {ρ : Lab} {a : Act} {W : World} {X : Nat → Prop} (m : Mt P glb Bk X0 w0 st ρ a W) {e : TypeId} {K : Kd} (hok : (Kd.sl e K).ownOK = true) {c : SC} {xs : List K.T} {ls : List Nat} {v : Value} (h : decSlO st.look e K c = some (xs, ls)) (hv : RepC P ρ X W c v) :
    ∃ fp, slOwn P W e K xs v fp ∧ (∃ A n q, v = .slice A n q) ∧ FpOf st ρ ls fp ∧ fp.Nodup := by
  unfold decSlO at h
  split at h
  · cases h
    have hv : v = .slice none 0 0 := hv
    subst hv
    have nilM : ∀ (e1 : TypeId) (K1 : Kd), (K1.flat && Nat.ble 1 K1.n) = true → MatOK P W e e1 K1 [] none [] (.slice none 0 0) := fun e1 K1 h => by
      simp only [Bool.and_eq_true] at h
      exact ⟨h.1, Nat.le_of_ble_eq_true h.2, rfl, ⟨[], World.ownsRow_nil W _ e 1, fun j u hj => by simp at hj⟩, fun j u xr hj => by simp at hj, fun j j' u u' k _ hj => by simp at hj, fun j u k hj => by simp at hj⟩
    refine ⟨[], ?_, ⟨_, _, _, rfl⟩, fun k hk => by simp at hk, List.nodup_nil⟩
    have row : ∀ K : Kd, (K.flat && Nat.ble 1 K.n) = true → slOwn P W e K ([] : List K.T) (.slice none 0 0) [] := fun K h => by
      simp only [Bool.and_eq_true] at h
      exact slOwn_row (v := .slice none 0 0) ⟨[], World.ownsRow_nil W _ e K.n, fun i x hx => by simp at hx⟩ h.1 (Nat.le_of_ble_eq_true h.2)
    cases K with
    | sl e1 K1 => exact ⟨[], nilM e1 K1 hok, rfl⟩
    | agg K =>
      cases K with
      | sl e1 K1 => exact ⟨[], nilM e1 K1 hok, rfl⟩
      | _ => exact row _ hok
    | _ => exact row _ hok
  · rename_i l
    obtain ⟨hρ, hsl⟩ := hv
    split at h
    · rename_i nn e' K' ys hl
      cases hb : (Nat.beq e' e && K'.flat) with
      | false => rw [hb] at h; cases h
      | true =>
        rw [hb, cond_true] at h
        simp only [Bool.and_eq_true] at hb
        obtain rfl := Nat.eq_of_beq_eq_true hb.1
        split at h
        · rename_i hK
          subst hK
          cases h
          obtain ⟨s, hs⟩ := look_some hl
          obtain ⟨v', hv', hok2⟩ := m.hps l _ s hs
          rw [hρ] at hv'; injection hv' with hv'; subst hv'
          obtain ⟨hpos, ⟨fl, ho, hc⟩, _⟩ := hok2
          refine ⟨v.ownBlock.toList, slOwn_row ⟨fl, ho, fun i x hi => Kd.flat_cells P _ hb.2 (hc i x hi)⟩ hb.2 hpos, hsl, fun k hk => ?_, toList_nodup⟩
          exact ⟨l, _, s, v, by simp, hs, hρ, by rw [ownB_row, ownBlk_row]; simpa using hk, rfl⟩
        · cases h
    · rename_i nn e' ag e1 K1 ys vl hl
      cases hb : Nat.beq e' e with
      | false => rw [hb] at h; cases h
      | true =>
        rw [hb, cond_true] at h
        obtain rfl := Nat.eq_of_beq_eq_true hb
        split at h
        · rename_i hK
          subst hK
          cases h
          obtain ⟨us, s, hs, hu, mo, _, _, _⟩ := m.matAt hl hρ
          refine ⟨v.ownBlock.toList ++ us.flatMap fun u => u.ownBlock.toList, ?_, hsl, fun k hk => ?_, mat_fp mo⟩
          · cases ag with
            | false =>
              refine ⟨us, ?_, rfl⟩
              have : ys.map (elX false e1 K1) = ys := List.map_id ys
              have h2 : castL rfl (ys.map (elX false e1 K1)) = ys := this
              rw [h2]; exact mo
            | true =>
              refine ⟨us, ?_, rfl⟩
              have : ys.map (elX true e1 K1) = ys := List.map_id ys
              have h2 : castL rfl (ys.map (elX true e1 K1)) = ys := this
              rw [h2]; exact mo
          · refine ⟨l, _, s, v, by simp, hs, hρ, (mat_own hu).2 ?_, rfl⟩
            rcases List.mem_append.1 hk with hk | hk
            · exact .inl (by simpa using hk)
            · obtain ⟨u, hu', hku⟩ := List.mem_flatMap.1 hk
              obtain ⟨j, hj⟩ := List.getElem?_of_mem hu'
              exact .inr ⟨j, u, rfl, hj, by simpa using hku⟩
        · cases h
    · cases h
  · cases h

theorem FpOf.app {st : St} {ρ : Lab} {l1 l2 f1 f2 : List Nat} (h1 : FpOf st ρ l1 f1) (h2 : FpOf st ρ l2 f2) : FpOf st ρ (l1 ++ l2) (f1 ++ f2) := by
  intro k hk
  rcases List.mem_append.1 hk with hk | hk
  · obtain ⟨l, he, s, u, a, b⟩ := h1 k hk; exact ⟨l, he, s, u, List.mem_append.2 (.inl a), b⟩
  · obtain ⟨l, he, s, u, a, b⟩ := h2 k hk; exact ⟨l, he, s, u, List.mem_append.2 (.inr a), b⟩

theorem FpOf.nodup {P : Program} {glb : Nat → Option GV} {Bk X0 : Nat → Prop} {w0 : World} {st : St} {ρ : Lab} {a : Act} {W : World} (m : Mt P glb Bk X0 w0 st ρ a W) {l1 l2 f1 f2 : List Nat} (h1 : FpOf st ρ l1 f1) (h2 : FpOf st ρ l2 f2) (hn : (l1 ++ l2).Nodup) (n1 : l1.Nodup → f1.Nodup) (n2 : l2.Nodup → f2.Nodup) : (f1 ++ f2).Nodup := by
  obtain ⟨a1, a2, a3⟩ := List.nodup_append.1 hn
  refine List.nodup_append.2 ⟨n1 a1, n2 a2, fun k hk k' hk' hkk => ?_⟩
  subst hkk
  obtain ⟨l, he, s, u, q1, q2, q3, q4, _⟩ := h1 k hk
  obtain ⟨l', he', s', u', p1, p2, p3, p4, _⟩ := h2 k hk'
  have := m.dis l l' he he' s s' u u' k q2 p2 q3 p3 q4 p4
  exact a3 l q1 l' p1 this

theorem flOwn_pair {W : World} {A B : Kd} {x : (Kd.pair A B).T} {c1 c2 : List Value} {f1 f2 : List Nat} (h1 : flOwn P W A x.1 c1 f1) (h2 : flOwn P W B x.2 c2 f2) : flOwn P W (.pair A B) x (c1 ++ c2) (f1 ++ f2) := ⟨c1, c2, f1, f2, rfl, rfl, h1, h2⟩
theorem flOwn_sl {W : World} {e : TypeId} {K : Kd} {xs : List K.T} {v : Value} {fp : List Nat} (h1 : ∃ A n q, v = .slice A n q) (h2 : slOwn P W e K xs v fp) : flOwn P W (.sl e K) xs [v] fp := ⟨v, rfl, h1, h2⟩

theorem decsO_pairEq {S : Stat} {look : Nat → Option HE} {A B : Kd} {cs : List SC} : decsO S look (.pair A B) cs = (match decsO S look A cs with
    | some (x, r, l) => match decsO S look B r with
      | some (y, r', l') => some ((x, y), r', l ++ l')
      | none => none
    | none => none) := rfl

theorem decsO_slEq {S : Stat} {look : Nat → Option HE} {e : TypeId} {K : Kd} {c : SC} {r : List SC} : decsO S look (.sl e K) (c :: r) = (decSlO look e K c).map fun p => (p.1, r, p.2) := rfl

theorem decsO_pair {S : Stat} {look : Nat → Option HE} {A B : Kd} {cs : List SC} {x : (Kd.pair A B).T} {r : List SC} {ls : List Nat} (h : decsO S look (.pair A B) cs = some (x, r, ls)) : ∃ r1 l1 l2, decsO S look A cs = some (x.1, r1, l1) ∧ decsO S look B r1 = some (x.2, r, l2) ∧ ls = l1 ++ l2 := by
  rw [decsO_pairEq] at h
  split at h
  · rename_i x1 r1 l1 h1
    split at h
    · rename_i x2 r2 l2 h2
      have h3 := Option.some.inj h
      have e1 := congrArg Prod.fst h3
      have e2 := congrArg (fun p => p.2.1) h3
      have e3 := congrArg (fun p => p.2.2) h3
      have e1a := congrArg Prod.fst e1
      have e1b := congrArg Prod.snd e1
      simp only at e2 e3 e1a e1b
      rw [← e2, ← e3, ← e1a, ← e1b]
      exact ⟨r1, l1, l2, h1, h2, rfl⟩
    · cases h
  · cases h

theorem decsO_ok {P : Program} {glb : Nat → Option GV} {X0 Bk : Nat → Prop} {w0 : World} {st : St} {ρ : Lab} {a : Act} {W : World} {S : Stat} (m : Mt P glb Bk X0 w0 st ρ a W) (hct : CtOK P glb S) : ∀ (K : Kd) (cs : List SC) (x : K.T) (r : List SC) (ls : List Nat) (us : List Value), K.ownOK = true →
    decsO S st.look K cs = some (x, r, ls) → RepCs P ρ (Xs st ρ X0) W cs us → ∃ v1 v2 fp, us = v1 ++ v2 ∧ flOwn P W K x v1 fp ∧ RepCs P ρ (Xs st ρ X0) W r v2 ∧ FpOf st ρ ls fp ∧ (ls.Nodup → fp.Nodup) := by
  have leaf : ∀ (K : Kd) (cs : List SC) (x : K.T) (r : List SC) (ls : List Nat) (us : List Value), K.flat = true → (match decs (dec1 S st.look fuel) K cs with
      | some (x, r, []) => some (x, r, [])
      | _ => none) = some (x, r, ls) → RepCs P ρ (Xs st ρ X0) W cs us → ∃ v1 v2, us = v1 ++ v2 ∧ (K.sem P).cells (fun _ => False) W x v1 ∧ RepCs P ρ (Xs st ρ X0) W r v2 ∧ ls = [] := by
    intro K cs x r ls us hf h hr
    split at h
    · rename_i y r' hd
      cases h
      obtain ⟨v1, v2, e, h1, h2⟩ := decs_ok (Z := fun _ => false) (dec1_ok m hct fuel) K cs _ _ [] us hd hr (by simp)
      exact ⟨v1, v2, e, Kd.flat_cells P K hf h1, h2, rfl⟩
    · cases h
  intro K
  induction K with
  | pair A B ihA ihB =>
    intro cs x r ls us hok h hr
    simp only [Kd.ownOK, Bool.and_eq_true] at hok
    obtain ⟨r1, l1, l2, h1, h2, rfl⟩ := decsO_pair h
    obtain ⟨v1, v2, f1, e1, a1, b1, d1, n1⟩ := ihA cs x.1 r1 l1 us hok.1 h1 hr
    obtain ⟨v3, v4, f2, e2, a2, b2, d2, n2⟩ := ihB r1 x.2 r l2 v2 hok.2 h2 b1
    exact ⟨v1 ++ v3, v4, f1 ++ f2, by rw [e1, e2, List.append_assoc], flOwn_pair a1 a2, b2, d1.app d2, fun hn => FpOf.nodup m d1 d2 hn n1 n2⟩
  | agg K ih => intro cs x r ls us hok h hr; exact ih cs x r ls us hok h hr
  | sl e K ih =>
    intro cs x r ls us hok h hr
    cases cs with
    | nil => cases h
    | cons c rest =>
      rw [decsO_slEq] at h
      cases hd : decSlO st.look e K c with
      | none => rw [hd] at h; cases h
      | some p =>
        rw [hd] at h
        have h3 := Option.some.inj h
        have e1 := congrArg Prod.fst h3
        have e2 := congrArg (fun p => p.2.1) h3
        have e3 := congrArg (fun p => p.2.2) h3
        simp only at e1 e2 e3
        rw [← e2, ← e3, ← e1]
        obtain ⟨v, vs, rfl, h1, h2⟩ := hr
        obtain ⟨fp, a1, a2, a3, a4⟩ := decSlO_ok m hok (xs := p.1) (ls := p.2) hd h1
        exact ⟨[v], vs, fp, rfl, flOwn_sl a2 a1, h2, a3, fun _ => a4⟩
  | unit =>
    intro cs x r ls us hok h hr
    cases h
    exact ⟨[], us, [], rfl, ⟨rfl, rfl⟩, hr, fun k hk => by simp at hk, fun _ => List.nodup_nil⟩
  | int k =>
    intro cs x r ls us hok h hr
    obtain ⟨v1, v2, e, h1, h2, rfl⟩ := leaf (.int k) cs x r ls us rfl h hr
    exact ⟨v1, v2, [], e, ⟨h1, rfl⟩, h2, fun k hk => by simp at hk, fun _ => List.nodup_nil⟩
  | bool =>
    intro cs x r ls us hok h hr
    obtain ⟨v1, v2, e, h1, h2, rfl⟩ := leaf .bool cs x r ls us rfl h hr
    exact ⟨v1, v2, [], e, ⟨h1, rfl⟩, h2, fun k hk => by simp at hk, fun _ => List.nodup_nil⟩
  | str =>
    intro cs x r ls us hok h hr
    obtain ⟨v1, v2, e, h1, h2, rfl⟩ := leaf .str cs x r ls us rfl h hr
    exact ⟨v1, v2, [], e, ⟨h1, rfl⟩, h2, fun k hk => by simp at hk, fun _ => List.nodup_nil⟩
  | nsl e K ih => intro cs x r ls us hok; cases hok
  | fn A B ihA ihB => intro cs x r ls us hok; cases hok
  | ptr t K ih => intro cs x r ls us hok; cases hok
  | seq A ih => intro cs x r ls us hok; cases hok

theorem valO_of {P : Program} {glb : Nat → Option GV} {X0 Bk : Nat → Prop} {w0 : World} {st : St} {ρ : Lab} {a : Act} {W : World} {S : Stat} (m : Mt P glb Bk X0 w0 st ρ a W) (hct : CtOK P glb S) {K : Kd} {ag : Bool} {cs : List SC} {x : K.T} {ls : List Nat} {v : Value} (hok : K.ownOK = true)
    (hk : (ag == K.isAgg && K.arg) = true) (hd : decsO S st.look K cs = some (x, [], ls)) (hv : RepV P ρ (Xs st ρ X0) W (.mk ag cs) v) : ∃ fp, valOwn P W K x v fp ∧ FpOf st ρ ls fp ∧ (ls.Nodup → fp.Nodup) := by
  simp only [Bool.and_eq_true, beq_iff_eq] at hk
  obtain ⟨ha, harg⟩ := hk
  cases ag with
  | false =>
    obtain ⟨c, rfl, hc⟩ := hv
    obtain ⟨v1, v2, fp, he, h1, h2, h3, h4⟩ := decsO_ok m hct K [c] x [] ls [v] hok hd ⟨v, [], rfl, hc, rfl⟩
    have : v2 = [] := h2
    subst this
    rw [List.append_nil] at he
    subst he
    exact ⟨fp, by unfold valOwn; rw [← ha]; exact h1, h3, h4⟩
  | true =>
    obtain ⟨vs, rfl, hc⟩ := hv
    obtain ⟨v1, v2, fp, he, h1, h2, h3, h4⟩ := decsO_ok m hct K cs x [] ls vs hok hd hc
    have : v2 = [] := h2
    subst this
    rw [List.append_nil] at he
    subst he
    exact ⟨fp, by unfold valOwn; rw [← ha]; exact ⟨vs, rfl, h1⟩, h3, h4⟩

theorem decArgsO_ok {P : Program} {glb : Nat → Option GV} {X0 Bk : Nat → Prop} {w0 : World} {st : St} {ρ : Lab} {a : Act} {W : World} {S : Stat} (m : Mt P glb Bk X0 w0 st ρ a W) (hct : CtOK P glb S) : ∀ (K : Kd) (ss : List SV) (x : K.T) (ls : List Nat) (vs : List Value), K.ownOK = true →
    decArgsO S st.look K ss = some (x, ls) → RepVs P ρ (Xs st ρ X0) W ss vs → (∃ fp, valsOwn P W K x vs fp ∧ FpOf st ρ ls fp ∧ (ls.Nodup → fp.Nodup)) ∧ ∀ s, s ∈ ss → s ≠ .any := by
  have single : ∀ (K : Kd) (ss : List SV) (x : K.T) (ls : List Nat) (vs : List Value), K.ownOK = true → decArgO S st.look K ss = some (x, ls) → RepVs P ρ (Xs st ρ X0) W ss vs →
      (∃ fp, (∃ v, vs = [v] ∧ valOwn P W K x v fp) ∧ FpOf st ρ ls fp ∧ (ls.Nodup → fp.Nodup)) ∧ ∀ s, s ∈ ss → s ≠ .any := by
    intro K ss x ls vs hok h hv
    unfold decArgO at h
    split at h
    · rename_i ag cs
      obtain ⟨v, vs', rfl, h1, h2⟩ := hv
      have : vs' = [] := h2
      subst this
      split at h
      · rename_i hk
        split at h
        · rename_i y l hd
          cases h
          obtain ⟨fp, a1, a2, a3⟩ := valO_of m hct hok hk hd h1
          refine ⟨⟨fp, ⟨v, rfl, a1⟩, a2, a3⟩, fun s hs => ?_⟩
          rcases List.mem_singleton.1 hs with rfl
          simp
        · cases h
      · cases h
    · cases h
  intro K
  induction K with
  | unit =>
    intro ss x ls vs hok h hv
    cases ss with
    | nil =>
      cases h
      exact ⟨⟨[], ⟨hv, rfl⟩, fun k hk => by simp at hk, fun _ => List.nodup_nil⟩, fun s hs => by simp at hs⟩
    | cons s r => cases s <;> cases h
  | pair A B ihA ihB =>
    intro ss x ls vs hok h hv
    simp only [Kd.ownOK, Bool.and_eq_true] at hok
    cases ss with
    | nil => cases h
    | cons s r =>
      cases s with
      | mk ag cs =>
        simp only [decArgsO] at h
        split at h
        · rename_i hk
          split at h
          · rename_i y l hd
            cases hr : decArgsO S st.look B r with
            | none => rw [hr] at h; cases h
            | some q =>
              obtain ⟨y2, l2⟩ := q
              rw [hr] at h
              cases h
              obtain ⟨v, vs', rfl, h1, h2⟩ := hv
              obtain ⟨f1, a1, d1, n1⟩ := valO_of m hct hok.1 hk hd h1
              obtain ⟨⟨f2, a2, d2, n2⟩, hany⟩ := ihB r y2 l2 vs' hok.2 hr h2
              refine ⟨⟨f1 ++ f2, ⟨v, vs', f1, f2, rfl, rfl, a1, a2⟩, d1.app d2, fun hn => FpOf.nodup m d1 d2 hn n1 n2⟩, fun s hs => ?_⟩
              rcases List.mem_cons.1 hs with rfl | hs
              · simp
              · exact hany s hs
          · cases h
        · cases h
      | any => cases h
      | tup l => cases h
  | nsl e K ih => intro ss x ls vs hok; cases hok
  | fn A B ihA ihB => intro ss x ls vs hok; cases hok
  | ptr t K ih => intro ss x ls vs hok; cases hok
  | seq A ih => intro ss x ls vs hok; cases hok
  | _ => intro ss x ls vs hok h hv; exact single _ ss x ls vs hok h hv

theorem decArgsO_any {S : Stat} {look : Nat → Option HE} : ∀ (K : Kd) (ss : List SV) (x : K.T) (ls : List Nat), decArgsO S look K ss = some (x, ls) → ∀ s, s ∈ ss → s ≠ .any := by
  have single : ∀ (K : Kd) (ss : List SV) (x : K.T) (ls : List Nat), decArgO S look K ss = some (x, ls) → ∀ s, s ∈ ss → s ≠ .any := by
    intro K ss x ls h s hs
    unfold decArgO at h
    split at h
    · rcases List.mem_singleton.1 hs with rfl; simp
    · cases h
  intro K
  induction K with
  | unit =>
    intro ss x ls h s hs
    cases ss with
    | nil => simp at hs
    | cons s' r => cases s' <;> cases h
  | pair A B ihA ihB =>
    intro ss x ls h s hs
    cases ss with
    | nil => simp at hs
    | cons s' r =>
      cases s' with
      | mk ag cs =>
        rcases List.mem_cons.1 hs with rfl | hs
        · simp
        · simp only [decArgsO] at h
          split at h
          · split at h
            · rename_i y l hd
              cases hr : decArgsO S look B r with
              | none => rw [hr] at h; cases h
              | some q => exact ihB r q.1 q.2 hr s hs
            · cases h
          · cases h
      | any => cases h
      | tup l => cases h
  | nsl e K ih => intro ss x ls h; cases h
  | fn A B ihA ihB => intro ss x ls h; cases h
  | ptr t K ih => intro ss x ls h; cases h
  | seq A ih => intro ss x ls h; cases h
  | _ => intro ss x ls h s hs; exact single _ ss x ls h s hs

theorem nodupL_nodup : ∀ {ls : List Nat}, nodupL ls = true → ls.Nodup
  | [], _ => List.nodup_nil
  | l :: r, h => by
    simp only [nodupL, Bool.and_eq_true, Bool.not_eq_true'] at h
    refine List.nodup_cons.2 ⟨fun hm => ?_, nodupL_nodup h.2⟩
    rw [memL_mem hm] at h; cases h.1

theorem retO_of_vals {W : World} {R : Kd} {x : R.T} {vs : List Value} {fp : List Nat} (h : valsOwn P W R x vs fp) (hr : R.retOK = true) : retOwn P W R x (if h : vs.toArray.size = 1 then vs.toArray[0] else .tuple vs.toArray) fp := by
  cases R with
  | unit =>
    obtain ⟨rfl, rfl⟩ := h
    exact ⟨rfl, rfl⟩
  | pair A B =>
    have h0 := h
    obtain ⟨v, vs', f1, f2, rfl, rfl, h1, h2⟩ := h
    have hne : vs' ≠ [] := by
      intro hn
      subst hn
      cases B <;> first
        | (simp [Kd.retOK] at hr; done)
        | (obtain ⟨_, _, _, _, h, _⟩ := h2; cases h; done)
        | (obtain ⟨_, h, _⟩ := h2; cases h; done)
    have : ¬ (v :: vs').toArray.size = 1 := by
      cases vs' with
      | nil => exact absurd rfl hne
      | cons w r => simp
    rw [dif_neg this]
    exact ⟨v :: vs', rfl, h0⟩
  | _ => obtain ⟨v, rfl, h1⟩ := h; exact h1

end

theorem Mt.taken {P : Program} {glb : Nat → Option GV} {Bk X0 : Nat → Prop} {w0 : World} {st : St} {ρ : Lab} {a : Act} {W : World} (m : Mt P glb Bk X0 w0 st ρ a W) {Ds : List Nat} (hD : ∀ D : Nat, D ∈ Ds → W.heap[D]? = some (Obj.deferred (some [])) ∧ ¬ Bk D) :
    Mt P glb Bk X0 w0 st ρ { a with defers := [] } (takeAll W Ds) := by
  obtain ⟨h1, h2, h3, h4, h5⟩ := takeAll_spec Ds W
  have notD : ∀ {k cs t fr}, W.heap[k]? = some (Obj.cells cs t fr) → k ∉ Ds := by
    intro k cs t fr hc hk
    rw [(hD k hk).1] at hc; cases hc
  have ev : Evo (Xs st ρ X0) W (Xs st ρ X0) (takeAll W Ds) := ⟨by rw [h1]; exact Nat.le_refl _, fun k hk _ => (let ⟨_, _, _, hc⟩ := hk; h5 k (notD hc)), fun _ h _ => h, fun k hk => by rw [h1]; exact m.Xlt k hk⟩
  refine ⟨m.size, DefOK.nil, fun t => (m.tms t).mono ρ.le_refl ev, fun l he s h => ?_, m.dis, fun k hk => by rw [h1]; exact m.x0 k hk, m.bk, ⟨h2.trans m.bel.os, h3.trans m.bel.tape, h4.trans m.bel.output, by rw [h1]; exact m.bel.size, fun k hk => (h5 k (fun hm => (hD k hm).2 hk)).trans (m.bel.block k hk)⟩, m.nb, m.glb.evo ev, m.dom, m.stamp⟩
  obtain ⟨v, hv, hok⟩ := m.hps l he s h
  refine ⟨v, hv, hok.mono ρ.le_refl ev (fun k hk => ?_)⟩
  obtain ⟨cs, t, fr, hc⟩ := hok.cells hk
  exact h5 k (notD hc)

theorem calls_of_vc {P : Program} {glb : Nat → Option GV} {S : Stat} (hS : StatOK P S) (hct : CtOK P glb S) (hg : S.glb = glb) (an : Nat → Items) {f : FuncId} {fn : Func} {c : Code} (hf : P.funcs[f]? = some fn) (hname : (fn.name == "runtime.NumGoroutine") = false) (hb : fn.body = some c) (ct : Ct)
    {x : ct.A.T} {y : ct.C.T} {Q : ct.R.T → Prop} (hvc : vcFunc S ct.own ct.fresh an fn c ct.A ct.C ct.R x y Q) {X : Nat → Prop} {W : World} {vs cs : List Value} (hX : ∀ k, X k → k < W.heap.size) (hglb : GlbOK P glb X W) (hvs : (ct.A.sem P).vals X W x vs) (hcs : (ct.C.sem P).vals X W y cs) :
    Calls P f (vs ++ cs).toArray W (PostM P ct.own ct.fresh ct.R X W Q) := by
  obtain ⟨hc0, hvc⟩ := chk_iff.1 hvc
  simp only [Bool.and_eq_true] at hc0
  obtain ⟨hn, hret⟩ := hc0
  have hn := Nat.le_of_ble_eq_true hn
  refine callsIn_wide.1 (callsIn_of_wp_marks (F := Fence.wide) (n := 0) hf hb trivial ?_)
  obtain ⟨l1, g1⟩ := RepV.of_vals (P := P) (ρ := fun _ => none) (X := X) (W := W) ct.A hvs
  obtain ⟨l2, g2⟩ := RepV.of_vals (P := P) (ρ := fun _ => none) (X := X) (W := W) ct.C hcs
  have hl1 : vs.length = ct.A.ar := by rw [← l1, argsSV_length]
  have hl2 : cs.length = ct.C.ar := by rw [← l2, argsSV_length]
  have hsz : (vs ++ cs).toArray.size = ct.A.ar + ct.C.ar := by simp [hl1, hl2]

  have hXs : ∀ k, Xs { n := fn.ntmps, tm := tmOf (argsSV ct.A x ++ argsSV ct.C y), hp := fun _ => none, cnt := 0, dom := [] } (fun _ => none) X k → X k := by
    rintro k (h | ⟨l, he, s, v, h, _⟩)
    · exact h
    · cases h
  have m : Mt P glb (fun k => k < W.heap.size) X W { n := fn.ntmps, tm := tmOf (argsSV ct.A x ++ argsSV ct.C y), hp := fun _ => none, cnt := 0, dom := [] } (fun _ => none) { tmps := (vs ++ cs).toArray ++ Array.replicate (fn.ntmps - (vs ++ cs).toArray.size) undef, defers := [] } W := by
    refine ⟨?_, DefOK.nil, fun t => ?_, fun l he s h => (by cases h), fun l l' he he' s s' v v' k h => (by cases h), hX, fun k hk => hk, ⟨rfl, rfl, rfl, Nat.le_refl _, fun _ _ => rfl⟩, fun l he s v k h => (by cases h), ?_, fun l v h => (by cases h), fun l he s h => (by cases h)⟩
    · simp only [Array.size_append, Array.size_replicate, hsz]; omega
    · have hfin : RepV P (fun _ => none) X W (tmOf (argsSV ct.A x ++ argsSV ct.C y) t) (((vs ++ cs).toArray ++ Array.replicate (fn.ntmps - (vs ++ cs).toArray.size) undef).getD t undef) := by
        by_cases ht : t < (vs ++ cs).length
        · have hget : ((vs ++ cs).toArray ++ Array.replicate (fn.ntmps - (vs ++ cs).toArray.size) undef).getD t undef = (vs ++ cs)[t] := by
            rw [Array.getD_eq_getD_getElem?, Array.getElem?_append_left (by simpa using ht), List.getElem?_toArray, List.getElem?_eq_getElem ht]
            rfl
          rw [hget, tmOf_append]
          by_cases h1 : t < vs.length
          · rw [if_pos (by rw [l1]; exact h1)]
            refine g1 t _ ?_
            rw [List.getElem_append_left h1]
            exact List.getElem?_eq_getElem h1
          · rw [if_neg (by rw [l1]; exact h1), l1]
            refine g2 _ _ ?_
            rw [List.getElem_append_right (by omega)]
            exact List.getElem?_eq_getElem _
        · rw [tmOf_past _ t (by simp [l1, l2]; simp at ht; omega)]
          trivial
      exact hfin.mono (Lab.le_refl _) (Evo.mono (fun k hk => hX k (hXs k hk)) hXs)
    · exact hglb.evo (Evo.mono (fun k hk => hX k (hXs k hk)) hXs)
  refine wpIn_mono (vc_ok (Wide.wide P) rfl hS hct hg an c _ _ _ _ _ m hvc) ?_
  rintro e a' W' ⟨xt, st', ρ', rfl, hk, hf', m'⟩
  have fin : decEnd S ct.own ct.fresh st' ct.R (fn.results.toList.map (resSV S st')) Q → LeavesInM Fence.wide 0 P fn a'.tmps (PostM P ct.own ct.fresh ct.R X W Q) a'.defers .returning W' := by
    intro hk
    obtain ⟨Ds, hDs, hnd, hDD⟩ := m'.dfr
    rw [hDs]
    refine takeAll_leaves Ds W' hnd (fun D hD => (hDD D hD).1) ?_
    have m' := m'.taken hDD
    revert m'
    generalize takeAll W' Ds = W'
    intro m'
    have run : ∀ us : List Value, (fn.results.toList.mapM (resOne a'.tmps)).run P W' = .ok us W' → (results fn a'.tmps).run P W' = .ok (if h : us.toArray.size = 1 then us.toArray[0] else .tuple us.toArray) W' := by
      intro us hr
      have hm : fn.results.mapM (resOne a'.tmps) = (do pure (← fn.results.toList.mapM (resOne a'.tmps)).toArray) := by
        rw [Array.mapM_eq_mapM_toList]
        simp
      have hres : results fn a'.tmps = (do
          let vs ← fn.results.mapM (resOne a'.tmps)
          pure (if h : vs.size = 1 then vs[0] else .tuple vs)) := by
        unfold results
        congr 1
      rw [hres, hm]
      simp only [Sem.run_bind, hr, Result.andThen_ok, Sem.run_pure]
    have main : ct.own = false → (∀ rv, rv ∈ fn.results.toList → resSV S st' rv ≠ .any) → (∀ us, RepVs P ρ' (Xs st' ρ' X) W' (fn.results.toList.map (resSV S st')) us → ∃ r, Q r ∧ (ct.R.sem P).vals (frX ct.fresh X W) W' r us) →
        ∃ v, (results fn a'.tmps).run P W' = .ok v W' ∧ PostM P ct.own ct.fresh ct.R X W Q (.returned v) W' := by
      intro hown hany hd
      obtain ⟨us, hr, hrep⟩ := results_ok hS m' fn.results.toList hany
      obtain ⟨r, hQ, hvals⟩ := hd us hrep
      refine ⟨_, run us hr, ?_⟩
      rw [hown]
      exact ⟨r, _, rfl, ret_of_vals hvals hret, ⟨m'.bel.os, m'.bel.tape, m'.bel.output, m'.bel.size, fun k hk => m'.bel.block k hk⟩, hQ⟩
    unfold decEnd at hk
    cases hown : ct.own with
    | true =>
      rw [hown] at hk
      obtain ⟨⟨r, ls⟩, hd, hk2⟩ := optK_ok hk
      obtain ⟨hc, hQ⟩ := chk_iff.1 hk2
      simp only [Bool.and_eq_true] at hc
      have hany := fun us hv => (decArgsO_ok m' hct ct.R _ r ls us hc.2 hd hv).2
      have noany : ∀ rv, rv ∈ fn.results.toList → resSV S st' rv ≠ .any := fun rv hrv => decArgsO_any ct.R _ r ls hd _ (List.mem_map_of_mem hrv)
      obtain ⟨us, hr, hrep⟩ := results_ok hS m' fn.results.toList noany
      obtain ⟨⟨fp, h1, h2, h3⟩, _⟩ := decArgsO_ok m' hct ct.R _ r ls us hc.2 hd hrep
      refine ⟨_, run us hr, r, _, fp, rfl, retO_of_vals h1 hret, h3 (nodupL_nodup hc.1), fun k hk => ?_, ⟨m'.bel.os, m'.bel.tape, m'.bel.output, m'.bel.size, fun k hk => m'.bel.block k hk⟩, hQ⟩
      obtain ⟨l, he, s, u, _, q1, q2, q3, q4⟩ := h2 k hk
      exact Nat.le_of_not_lt ((m'.nb l he s u k q1 q2 q3).1 q4)
    | false =>
    rw [hown] at hk
    rw [hown] at main
    replace main := main rfl
    cases hfr : ct.fresh with
    | true =>
      rw [hfr] at hk
      obtain ⟨r, hd, hQ⟩ := optK_ok hk
      rw [hfr] at main
      exact main (fun rv hrv => decFresh_any hd _ (List.mem_map_of_mem hrv)) (fun us hrep => ⟨r, hQ, decFresh_ok m' hd hrep⟩)
    | false =>
      rw [hfr] at hk
      obtain ⟨⟨r, ls⟩, hd, hQ⟩ := optK_ok hk
      rw [hfr] at main
      refine main (fun rv hrv => decArgs_any ct.R _ r ls hd _ (List.mem_map_of_mem hrv)) (fun us hrep => ⟨r, hQ, ?_⟩)
      have hvals := decArgs_ok (Z := fun l => memL l ls) (dec1_ok m' hct fuel) ct.R _ r ls us hd hrep (fun l hl => memL_mem hl)
      exact (Kd.stands P ct.R).vals (Evo.mono (fun k hk => Nat.lt_of_lt_of_le (hX k hk) m'.bel.size) (fun k hk => .inl hk)) hvals
  cases xt with
  | norm => exact fin hk
  | ret => exact fin hk
  | exit i => exact hk.elim

end Go.GX
set_option linter.unusedVariables false
namespace Go.GX
open Go.RowKit Go.Shelf Go.Proofs

def zeroEq : Value → Value → Bool
  | .int .i8 0, .int .i8 0 | .int .i16 0, .int .i16 0 | .int .i32 0, .int .i32 0 | .int .i64 0, .int .i64 0 => true
  | .int .u8 0, .int .u8 0 | .int .u16 0, .int .u16 0 | .int .u32 0, .int .u32 0 | .int .u64 0, .int .u64 0 => true
  | .bool false, .bool false => true
  | .string s, .string t => Nat.beq s.size 0 && Nat.beq t.size 0
  | .slice none 0 0, .slice none 0 0 => true
  | .nilFunc, .nilFunc => true
  | .pointer none, .pointer none => true
  | _, _ => false

theorem bytes_empty {s : ByteArray} (h : s.size = 0) : s = ByteArray.empty := by
  cases s with
  | mk d =>
    have : d = #[] := Array.eq_empty_of_size_eq_zero h
    subst this
    rfl

theorem zeroEq_eq {a b : Value} (h : zeroEq a b = true) : a = b := by
  unfold zeroEq at h
  split at h <;> first | rfl | skip
  · simp only [Bool.and_eq_true] at h
    rw [bytes_empty (Nat.eq_of_beq_eq_true h.1), bytes_empty (Nat.eq_of_beq_eq_true h.2)]
  · cases h

def zerosEq : List Value → List Value → Bool
  | [], [] => true
  | a :: r, b :: s => zeroEq a b && zerosEq r s
  | _, _ => false

theorem zerosEq_eq : ∀ {a b : List Value}, zerosEq a b = true → a = b
  | [], [], _ => rfl
  | a :: r, b :: s, h => by
    simp only [zerosEq, Bool.and_eq_true] at h
    rw [zeroEq_eq h.1, zerosEq_eq h.2]
  | [], _ :: _, h => by cases h
  | _ :: _, [], h => by cases h

def aggB : Option TypeDesc → Bool → Bool
  | some (.struct _), b => b
  | some (.array _ _), b => b
  | some _, b => !b
  | none, _ => false

def tyB (P : Program) (t : TypeId) (i : TI) : Bool :=
  i.kd.arg && (match P.info? t with
    | some inf => Nat.beq inf.size i.kd.n && Nat.beq inf.bytes i.bytes && (match inf.zero with
      | some z => zerosEq z.cells.toList i.kd.zv
      | none => false)
    | none => false) && aggB (P.underlying t) i.kd.isAgg && (match i.kd with
    | .bool => (match P.underlying t with
      | some .bool => true
      | _ => false)
    | .int k => (match P.underlying t with
      | some (.int k') => decide (k' = k)
      | _ => false)
    | _ => true)

def slB (P : Program) (t e : TypeId) : Bool :=
  match P.underlying t with
  | some (.slice e') => Nat.beq e' e
  | _ => false

def fldB (P : Program) (t f : Nat) (p : Nat × TypeId) : Bool :=
  cond (Nat.beq f 1000000) (match P.underlying t with
  | some (.array n e) => Nat.beq n p.1 && Nat.beq e p.2
  | _ => false) <|
  match P.underlying t with
  | some (.struct fs) => (match fs[f]? with
    | some fd => Nat.beq fd.offset p.1 && Nat.beq fd.type p.2
    | none => false) && fs.toList.all fun fd => (P.info? fd.type).isSome
  | _ => false

def eqfB (P : Program) : Nat → List Field → Bool
  | _, [] => true
  | i, fd :: r => (fd.name != "_") && Nat.beq fd.offset i && (match P.underlying fd.type with
    | some (.int _) => true
    | _ => false) && eqfB P (i + 1) r

def eqB (P : Program) (t n : Nat) : Bool :=
  match P.underlying t with
  | some (.struct fs) => Nat.beq fs.size n && !P.stoodInHeld t && !P.eqGuardType P.depth t && eqfB P 0 fs.toList
  | _ => false

theorem eqfB_spec {P : Program} : ∀ {fs : List Field} {i : Nat}, eqfB P i fs = true → ∀ (j : Nat) fd, fs[j]? = some fd → fd.name ≠ "_" ∧ fd.offset = i + j ∧ ∃ k, P.underlying fd.type = some (.int k)
  | fd0 :: r, i, h, j, fd, hj => by
    simp only [eqfB, Bool.and_eq_true, bne_iff_ne, ne_eq] at h
    obtain ⟨⟨⟨h1, h2⟩, h3⟩, h4⟩ := h
    cases j with
    | zero =>
      simp only [List.getElem?_cons_zero, Option.some.injEq] at hj
      subst hj
      refine ⟨h1, Nat.eq_of_beq_eq_true h2, ?_⟩
      split at h3
      · rename_i k hk; exact ⟨k, hk⟩
      · cases h3
    | succ j =>
      have := eqfB_spec h4 j fd (by simpa using hj)
      rwa [show i + 1 + j = i + (j + 1) by omega] at this

def statB (P : Program) (tyT : List (Nat × TI)) (slT : List (Nat × Nat)) (flT : List ((Nat × Nat) × (Nat × Nat))) (eqT : List (Nat × Nat)) : Bool :=
  P.follows .mixedOrders && eqT.all (fun p => eqB P p.1 p.2) && tyT.all (fun p => tyB P p.1 p.2) && slT.all (fun p => slB P p.1 p.2) && flT.all (fun p => fldB P p.1.1 p.1.2 p.2)

theorem assoc_mem {α : Type} : ∀ {l : List (Nat × α)} {n : Nat} {x : α}, assoc l n = some x → (n, x) ∈ l
  | [], n, x, h => by cases h
  | p :: r, n, x, h => by
    simp only [assoc] at h
    cases hb : Nat.beq p.1 n with
    | true =>
      rw [hb, cond_true] at h
      cases h
      have := Nat.eq_of_beq_eq_true hb
      subst this
      exact List.mem_cons_self
    | false =>
      rw [hb, cond_false] at h
      exact List.mem_cons_of_mem _ (assoc_mem h)

theorem assoc2_mem {α : Type} : ∀ {l : List ((Nat × Nat) × α)} {n m : Nat} {x : α}, assoc2 l n m = some x → ((n, m), x) ∈ l
  | [], n, m, x, h => by cases h
  | p :: r, n, m, x, h => by
    simp only [assoc2] at h
    cases hb : (Nat.beq p.1.1 n && Nat.beq p.1.2 m) with
    | true =>
      rw [hb, cond_true] at h
      cases h
      simp only [Bool.and_eq_true] at hb
      have h1 := Nat.eq_of_beq_eq_true hb.1
      have h2 := Nat.eq_of_beq_eq_true hb.2
      subst h1; subst h2
      exact List.mem_cons_self
    | false =>
      rw [hb, cond_false] at h
      exact List.mem_cons_of_mem _ (assoc2_mem h)

theorem statOK_of {P : Program} {tyT : List (Nat × TI)} {slT : List (Nat × Nat)} {flT : List ((Nat × Nat) × (Nat × Nat))} {eqT : List (Nat × Nat)} {mkT : List (Nat × (Nat × Nat))} {glT : List (Nat × GV)} {ctT : List (Nat × Ct)} {inls lits : List Nat} (h : statB P tyT slT flT eqT = true) : StatOK P (Stat.of tyT slT flT eqT mkT glT ctT inls lits) := by
  simp only [statB, Bool.and_eq_true, List.all_eq_true] at h
  obtain ⟨⟨⟨⟨h0, h4⟩, h1⟩, h2⟩, h3⟩ := h
  refine ⟨h0, fun t i hi => ?_, fun t e he => ?_, fun t n hn => ?_, fun t k b hb => ?_, fun t i hi => ?_, fun t b hb => ?_, fun t f p hp => ?_, fun t p hp => ?_⟩
  · have := h1 (t, i) (assoc_mem hi)
    simp only [tyB, Bool.and_eq_true] at this
    obtain ⟨⟨⟨g1, g2⟩, g3⟩, _⟩ := this
    refine ⟨g1, ?_, fun w => ?_⟩
    · cases hinf : P.info? t with
      | none => rw [hinf] at g2; cases g2
      | some inf =>
        rw [hinf] at g2
        simp only [Bool.and_eq_true] at g2
        obtain ⟨⟨k1, k2⟩, k3⟩ := g2
        cases hz : inf.zero with
        | none => rw [hz] at k3; cases k3
        | some z =>
          rw [hz] at k3
          exact ⟨inf, z, rfl, Nat.eq_of_beq_eq_true k1, Nat.eq_of_beq_eq_true k2, hz, zerosEq_eq k3⟩
    · cases hu : P.underlying t with
      | none => rw [hu] at g3; cases g3
      | some d =>
        rw [hu] at g3
        unfold Go.isAgg
        rw [Sem.run_bind, run_underlying hu w]
        cases d <;> first
          | (have g3' : i.kd.isAgg = true := g3; rw [g3']; rfl)
          | (have g3' : (!i.kd.isAgg) = true := g3; rw [Bool.not_eq_true'] at g3'; rw [g3']; rfl)
  · have := h2 (t, e) (assoc_mem he)
    simp only [slB] at this
    split at this
    · rename_i e' hu
      rw [hu, Nat.eq_of_beq_eq_true this]
    · cases this
  · have := h4 (t, n) (assoc_mem hn)
    simp only [eqB] at this
    split at this
    · rename_i fs hu
      simp only [Bool.and_eq_true, Bool.not_eq_true'] at this
      obtain ⟨⟨⟨g1, g2⟩, g3⟩, g4⟩ := this
      refine ⟨fs, hu, Nat.eq_of_beq_eq_true g1, g2, g3, fun i fd hi => ?_⟩
      have := eqfB_spec g4 i fd (by simpa using hi)
      rwa [Nat.zero_add] at this
    · cases this
  · have := h1 (t, ⟨.int k, b⟩) (assoc_mem hb)
    simp only [tyB, Bool.and_eq_true] at this
    obtain ⟨_, g4⟩ := this
    split at g4
    · rename_i k' hu
      rw [hu, of_decide_eq_true g4]
    · cases g4
  · have := h1 (t, i) (assoc_mem hi)
    simp only [tyB, Bool.and_eq_true] at this
    obtain ⟨⟨_, g3⟩, _⟩ := this
    cases hu : P.underlying t with
    | none => rw [hu] at g3; cases g3
    | some d => rfl
  · have := h1 (t, ⟨.bool, b⟩) (assoc_mem hb)
    simp only [tyB, Bool.and_eq_true] at this
    obtain ⟨_, g4⟩ := this
    split at g4
    · rename_i hu; exact hu
    · cases g4
  · have hp : cond (Nat.blt f 1000000) (assoc2 flT t f) none = some p := hp
    cases hlt : Nat.blt f 1000000 with
    | false => rw [hlt] at hp; cases hp
    | true =>
    rw [hlt, cond_true] at hp
    have hne : Nat.beq f 1000000 = false := by
      cases he : Nat.beq f 1000000 with
      | false => rfl
      | true =>
        have := Nat.eq_of_beq_eq_true he
        subst this
        cases hlt
    have := h3 ((t, f), p) (assoc2_mem hp)
    simp only [fldB, hne, cond_false] at this
    split at this
    · rename_i fs hu
      simp only [Bool.and_eq_true, List.all_eq_true] at this
      obtain ⟨g1, g2⟩ := this
      cases hfd : fs[f]? with
      | none => rw [hfd] at g1; cases g1
      | some fd =>
        rw [hfd] at g1
        simp only [Bool.and_eq_true] at g1
        exact ⟨fs, fd, hu, hfd, Nat.eq_of_beq_eq_true g1.1, Nat.eq_of_beq_eq_true g1.2, fun fd' hfd' => g2 fd' (by simpa using hfd')⟩
    · cases this
  · have := h3 ((t, 1000000), p) (assoc2_mem hp)
    have this : (match P.underlying t with
      | some (.array n e) => Nat.beq n p.1 && Nat.beq e p.2
      | _ => false) = true := this
    split at this
    · rename_i n e hu
      simp only [Bool.and_eq_true] at this
      rw [hu, Nat.eq_of_beq_eq_true this.1, Nat.eq_of_beq_eq_true this.2]
    · cases this
end Go.GX
set_option linter.unusedVariables false
namespace Go.GX
open Go.RowKit Go.Shelf Go.Proofs

def AllOK (P : Program) (glb : Nat → Option GV) (l : List (Nat × Ct)) : Prop := ∀ f c, assoc l f = some c → CallsOK P glb f c
def AllMk (P : Program) (l : List (Nat × (Nat × Nat))) : Prop := ∀ f p, assoc l f = some p → MkOK P f p.1 p.2

theorem assoc_cons {α : Type} {p : Nat → α → Prop} {f : Nat} {c : α} {r : List (Nat × α)} (h : p f c) (hr : ∀ g d, assoc r g = some d → p g d) : ∀ g d, assoc ((f, c) :: r) g = some d → p g d := by
  intro g d hd
  simp only [assoc] at hd
  cases hb : Nat.beq f g with
  | true =>
    rw [hb, cond_true] at hd
    cases hd
    exact Nat.eq_of_beq_eq_true hb ▸ h
  | false =>
    rw [hb, cond_false] at hd
    exact hr g d hd

theorem AllOK.nil {P : Program} {glb : Nat → Option GV} : AllOK P glb [] := fun f c h => by cases h
theorem AllOK.cons {P : Program} {glb : Nat → Option GV} {f : Nat} {c : Ct} {r : List (Nat × Ct)} (h : CallsOK P glb f c) (hr : AllOK P glb r) : AllOK P glb ((f, c) :: r) := assoc_cons h hr
theorem AllMk.nil {P : Program} : AllMk P [] := fun f c h => by cases h
theorem AllMk.cons {P : Program} {f : Nat} {c : Nat × Nat} {r : List (Nat × (Nat × Nat))} (h : MkOK P f c.1 c.2) (hr : AllMk P r) : AllMk P ((f, c) :: r) := assoc_cons h hr

def AllInl (P : Program) (l : List Nat) : Prop := (∀ f, memL f l = true → f < 1000000 → InlOK P f) ∧ ∀ f, memL (f + 1000000) l = true → ClipOK P f
theorem AllInl.nil {P : Program} : AllInl P [] := ⟨fun f h => (by cases h), fun f h => (by cases h)⟩
theorem AllInl.cons {P : Program} {f : Nat} {r : List Nat} (h : InlOK P f) (hf : f < 1000000) (hr : AllInl P r) : AllInl P (f :: r) := by
  refine ⟨fun g hg hlt => ?_, fun g hg => ?_⟩
  · rw [memL_cons, Bool.or_eq_true] at hg
    rcases hg with hg | hg
    · exact Nat.eq_of_beq_eq_true hg ▸ h
    · exact hr.1 g hg hlt
  · rw [memL_cons, Bool.or_eq_true] at hg
    rcases hg with hg | hg
    · have := Nat.eq_of_beq_eq_true hg; omega
    · exact hr.2 g hg
theorem AllInl.clip {P : Program} {f : Nat} {r : List Nat} (h : ClipOK P f) (hr : AllInl P r) : AllInl P ((f + 1000000) :: r) := by
  refine ⟨fun g hg hlt => ?_, fun g hg => ?_⟩
  · rw [memL_cons, Bool.or_eq_true] at hg
    rcases hg with hg | hg
    · have := Nat.eq_of_beq_eq_true hg; omega
    · exact hr.1 g hg hlt
  · rw [memL_cons, Bool.or_eq_true] at hg
    rcases hg with hg | hg
    · have := Nat.eq_of_beq_eq_true hg
      obtain rfl : g = f := by omega
      exact h
    · exact hr.2 g hg
theorem AllInl.inlOK {P : Program} {l : List Nat} (h : AllInl P l) : ∀ f, (memL f l && Nat.blt f 1000000) = true → InlOK P f := by
  intro f hf
  simp only [Bool.and_eq_true, Nat.blt_eq] at hf
  exact h.1 f hf.1 hf.2

theorem ctOK_of {P : Program} {tyT : List (Nat × TI)} {slT : List (Nat × Nat)} {flT : List ((Nat × Nat) × (Nat × Nat))} {eqT : List (Nat × Nat)} {mkT : List (Nat × (Nat × Nat))} {glT : List (Nat × GV)} {ctT : List (Nat × Ct)} {inls lits : List Nat} (hct : AllOK P (assoc glT) ctT) (hmk : AllMk P mkT) (hin : AllInl P inls) : CtOK P (assoc glT) (Stat.of tyT slT flT eqT mkT glT ctT inls lits) := ⟨hct, hmk, hin.inlOK, hin.2⟩

theorem callsOK_mk {P : Program} {tyT : List (Nat × TI)} {slT : List (Nat × Nat)} {flT : List ((Nat × Nat) × (Nat × Nat))} {eqT : List (Nat × Nat)} {mkT : List (Nat × (Nat × Nat))} {glT : List (Nat × GV)} {ctT : List (Nat × Ct)} {inls : List Nat} (lits : List Nat) (hS : statB P tyT slT flT eqT = true) (hmk : AllMk P mkT) (hin : AllInl P inls) (hct : AllOK P (assoc glT) ctT) (an : Nat → Items) {f : FuncId} {fn : Func} {c : Code}
    (hf : P.funcs[f]? = some fn) (hname : (fn.name == "runtime.NumGoroutine") = false) (hb : fn.body = some c) (ct : Ct) (H : ∀ x y Q, ct.wp x y Q → vcFunc (Stat.of tyT slT flT eqT mkT glT ctT inls lits) ct.own ct.fresh an fn c ct.A ct.C ct.R x y Q) : CallsOK P (assoc glT) f ct where
  enters := enters_of hf hname hb
  calls := fun X W x y vs cs hX hg hv hc Q hQ => calls_of_vc (statOK_of hS) ⟨hct, hmk, hin.inlOK, hin.2⟩ rfl an hf hname hb ct (H x y Q hQ) hX hg hv hc
end Go.GX
set_option linter.unusedVariables false
namespace Go.Proofs.Tw
open Go Go.GX Go.Proofs

theorem p105 {n lo hi : Int} {Q : Bool → Prop} (h : f105_wp n (lo, hi, ()) Q) : V105 n lo hi Q := by
  have h : Q (!inB lo hi n) := h
  refine cnd_iff.2 ⟨fun h1 => ?_, fun h1 => ?_⟩
  · have : (!inB lo hi n) = true := by have := of_decide_eq_true h1; simp [inB]; omega
    rwa [this] at h
  · have : (!inB lo hi n) = decide (n > hi) := by
      have := of_decide_eq_false h1
      have h3 : lo ≤ n := by omega
      by_cases h2 : n > hi
      · simp [inB, h2, h3]; try omega
      · simp [inB, h2, h3]; try omega
    rwa [this] at h
theorem p123 {xs : List Int} {f : Int → (Bool → Prop) → Prop} {Q : Int → Prop} (h : f123_wp (xs, f, ()) () Q) : V123 xs f Q := by
  obtain ⟨p, hs, hq⟩ := h
  intro hl
  exact idx_loop hs hq hl
theorem p106 {xs : List Span} {f : Span → (Bool → Prop) → Prop} {Q : Int → Prop} (h : f106_wp (xs, f, ()) () Q) : V106 xs f Q := by
  obtain ⟨p, hs, hq⟩ := h
  intro hl
  exact idx_loop hs hq hl
theorem p107 {xs : List (List Int)} {f : List Int → (Bool → Prop) → Prop} {Q : Int → Prop} (h : f107_wp (xs, f, ()) () Q) : V107 xs f Q := by
  obtain ⟨p, hs, hq⟩ := h
  intro hl
  exact idx_loop hs hq hl
theorem p104 {xs : List Int} {f : Int → (Bool → Prop) → Prop} {Q : Bool → Prop} (h : f104_wp (xs, f, ()) () Q) : V104 xs f Q := by
  obtain ⟨p, hs, hq⟩ := h
  refine ⟨p, hs, ?_⟩
  show Q (decide (idxF p xs ≥ 0))
  rw [idxF_ge]; exact hq
theorem p67 {xs : List Span} {f : Span → (Bool → Prop) → Prop} {Q : Bool → Prop} (h : f67_wp (xs, f, ()) () Q) : V67 xs f Q := by
  obtain ⟨p, hs, hq⟩ := h
  refine ⟨p, hs, ?_⟩
  show Q (decide (idxF p xs ≥ 0))
  rw [idxF_ge]; exact hq
theorem p69 {xs : List (List Int)} {f : List Int → (Bool → Prop) → Prop} {Q : Bool → Prop} (h : f69_wp (xs, f, ()) () Q) : V69 xs f Q := by
  obtain ⟨p, hs, hq⟩ := h
  refine ⟨p, hs, ?_⟩
  show Q (decide (idxF p xs ≥ 0))
  rw [idxF_ge]; exact hq
theorem any_not {α : Type} (p : α → Bool) (xs : List α) : (!(xs.any fun x => !p x)) = xs.all p := by
  induction xs with
  | nil => rfl
  | cons a r ih => simp only [List.any_cons, List.all_cons, Bool.not_or, Bool.not_not, ih]
theorem p66 {lo hi : Int} {xs : List Int} {Q : Bool → Prop} (h : f66_wp (lo, hi, xs, ()) () Q) : V66 lo hi xs Q := by
  refine ⟨fun n => !inB lo hi n, fun x _ Q h => h, ?_⟩
  have h : Q (xs.all (inB lo hi)) := h
  show Q (!(xs.any fun n => !inB lo hi n))
  rw [any_not]; exact h
theorem p65 {s : Span} {Q : Bool → Prop} (h : f65_wp s () Q) : V65 s Q := by
  have h : Q (isCopyF s) := h
  show cnd ([s.1, s.2].all (inB (-100) 100)) (Q (decide (s.1 ≤ s.2))) (Q false)
  refine cnd_iff.2 ⟨fun h1 => ?_, fun h1 => ?_⟩
  · have h1 : (inB (-100) 100 s.1 && inB (-100) 100 s.2) = true := by simpa using h1
    have : isCopyF s = decide (s.1 ≤ s.2) := by simp [isCopyF, h1]
    rwa [← this]
  · have h1 : (inB (-100) 100 s.1 && inB (-100) 100 s.2) = false := by
      rw [← h1]; simp
    have : isCopyF s = false := by simp only [isCopyF, h1, Bool.false_and]
    rwa [← this]
theorem p68 {s : Span} {g : Span → (Bool → Prop) → Prop} {Q : Bool → Prop} (h : f68_wp s (g, ()) Q) : V68 s g Q := h
theorem p70 {f : List Int} {n : Int} {Q : Bool → Prop} (h : f70_wp f (n, ()) Q) : V70 f n Q := by
  have h : Q (!fanF n f) := h
  intro hl
  refine cnd_iff.2 ⟨fun h1 => ?_, fun h1 => ?_⟩
  · have : (!fanF n f) = true := by have : (f.length : Int) ≠ n := by simpa using h1
                                    simp [fanF, this]
    rwa [this] at h
  · have h1 : (f.length : Int) = n := by simpa using h1
    show Q (!f.all (inB 0 10000))
    have : fanF n f = f.all (inB 0 10000) := by simp [fanF, h1]
    rwa [this] at h
theorem p21 {g : Gauge} {fs : Fans} {Q : Int → Prop} (h : f21_wp (g, fs, ()) () Q) : V21 g fs Q := by
  have h : Q (checkF g fs) := h
  intro hl
  show cnd (!([(g.1.length : Int)].all (inB 1 4))) _ _
  have e1 : ([(g.1.length : Int)].all (inB 1 4)) = inB 1 4 g.1.length := by simp
  rw [e1]
  refine cnd_iff.2 ⟨fun h1 => ?_, fun h1 => fun hl2 => cnd_iff.2 ⟨fun h2 => ?_, fun h2 => fun hl3 => cnd_iff.2 ⟨fun h3 => ?_, fun h3 => ?_⟩⟩⟩
  · have : checkF g fs = 4 := by simp only [Bool.not_eq_true'] at h1; simp [checkF, h1]
    rwa [this] at h
  · have h2 : g.2.1.length ≠ g.1.length := by intro e; simp [e] at h2
    have : checkF g fs = 4 := by simp [checkF, h2]
    rwa [this] at h
  · have h3 : g.2.2.length ≠ g.1.length := by intro e; simp [e] at h3
    have : checkF g fs = 4 := by simp [checkF, h3]
    rwa [this] at h
  have h1 : inB 1 4 g.1.length = true := by simpa using h1
  have h2 : (g.2.1.length : Int) = g.1.length := by simpa using h2
  have h3 : (g.2.2.length : Int) = g.1.length := by simpa using h3
  have h2 : g.2.1.length = g.1.length := by omega
  have h3 : g.2.2.length = g.1.length := by omega
  have hA : ¬(inB 1 4 g.1.length = false ∨ g.2.1.length ≠ g.1.length ∨ g.2.2.length ≠ g.1.length) := by simp [h1, h2, h3]
  unfold checkF at h
  rw [if_neg hA] at h
  show cnd (!(g.1.all (inB 0 5))) _ (cnd (!(g.2.1.all (inB 0 100))) _ _)
  refine cnd_iff.2 ⟨fun h4 => ?_, fun h4 => cnd_iff.2 ⟨fun h5 => ?_, fun h5 => ?_⟩⟩
  · rw [if_pos (.inl (by simpa using h4))] at h; exact h
  · rw [if_pos (.inr (.inl (by simpa using h5)))] at h; exact h
  refine ⟨fun s => !isCopyF s, fun x _ Q h => h, cnd_iff.2 ⟨fun h6 => ?_, fun h6 => fun hl4 => cnd_iff.2 ⟨fun h7 => ?_, fun h7 => ?_⟩⟩⟩
  · have h6 : (g.2.2.any fun s => !isCopyF s) = true := h6
    have h6 : g.2.2.all isCopyF = false := by rw [← any_not, h6]; rfl
    rw [if_pos (.inr (.inr h6))] at h; exact h
  · have h6 : (g.2.2.any fun s => !isCopyF s) = false := h6
    have h6 : g.2.2.all isCopyF = true := by rw [← any_not, h6]; rfl
    have hB : ¬(g.1.all (inB 0 5) = false ∨ g.2.1.all (inB 0 100) = false ∨ g.2.2.all isCopyF = false) := by
      have h4 : g.1.all (inB 0 5) = true := by simpa using h4
      have h5 : g.2.1.all (inB 0 100) = true := by simpa using h5
      rw [h4, h5, h6]; simp
    rw [if_neg hB, if_pos (by have := of_decide_eq_true h7; omega)] at h; exact h
  · have h6 : (g.2.2.any fun s => !isCopyF s) = false := h6
    have h6 : g.2.2.all isCopyF = true := by rw [← any_not, h6]; rfl
    have hB : ¬(g.1.all (inB 0 5) = false ∨ g.2.1.all (inB 0 100) = false ∨ g.2.2.all isCopyF = false) := by
      have h4 : g.1.all (inB 0 5) = true := by simpa using h4
      have h5 : g.2.1.all (inB 0 100) = true := by simpa using h5
      rw [h4, h5, h6]; simp
    rw [if_neg hB, if_neg (by have := of_decide_eq_false h7; omega)] at h
    refine ⟨fun f => !fanF g.1.length f, fun x _ Q h => h, cnd_iff.2 ⟨fun h8 => ?_, fun h8 => ?_⟩⟩
    · have h8 : (fs.any fun f => !fanF g.1.length f) = true := h8
      rw [if_pos (by rw [← any_not, h8]; rfl)] at h; exact h
    · have h8 : (fs.any fun f => !fanF g.1.length f) = false := h8
      rw [if_neg (by rw [← any_not, h8]; simp)] at h; exact h
theorem p71 {g : Gauge} {fs : Fans} {Q : (Gauge × Fans) × Int × Unit → Prop} (h : f71_wp (g, fs, ()) () Q) : V71 g fs Q := ⟨checkF g fs, rfl, h⟩
theorem p108 {a b : Span} {Q : Span → Prop} (h : f108_wp (a, b, ()) () Q) : V108 a b Q := h
theorem p109 {s : Span} {off : Int} {Q : Span → Prop} (h : f109_wp (s, off, ()) () Q) : V109 s off Q := by
  obtain ⟨⟨h1, h2, h3, h4, h5, h6⟩, h⟩ := h
  show Q (_, _)
  simp only at h1 h2 h3 h4 h5 h6
  rw [wrapS (by omega) (by omega), wrapS (by omega) (by omega)]
  exact h
theorem VB.fan {g : Gauge} {fs : Fans} (v : VB g fs) {f : Nat} (hf : f < fs.length) : (fs.getD f []).length = g.1.length := v.fl _ (getD_mem hf)
theorem VB.fan_v {g : Gauge} {fs : Fans} (v : VB g fs) {f m : Nat} (hf : f < fs.length) (hm : m < g.1.length) : 0 ≤ (fs.getD f []).getD m 0 ∧ (fs.getD f []).getD m 0 ≤ 10000 := v.fv _ (getD_mem hf) _ (getD_mem (by rw [v.fan hf]; exact hm))
theorem VB.off_v {g : Gauge} {fs : Fans} (v : VB g fs) {m : Nat} (hm : m < g.1.length) : 0 ≤ g.1.getD m 0 ∧ g.1.getD m 0 ≤ 5 := v.off _ (getD_mem hm)
theorem VB.make_v {g : Gauge} {fs : Fans} (v : VB g fs) {m : Nat} (hm : m < g.1.length) : 0 ≤ g.2.1.getD m 0 ∧ g.2.1.getD m 0 ≤ 100 := v.make _ (getD_mem (by rw [v.mkl]; exact hm))
theorem p77 {b : Gauge × Fans} {m f : Int} {Q : Span → Prop} (h : f77_wp (b, m, f, ()) () Q) : V77 b m f Q := by
  obtain ⟨⟨v, h1, h2, h3, h4⟩, h⟩ := h
  simp only at h1 h2 h3 h4 v h
  have hf : f.toNat < b.2.length := by omega
  have hm : m.toNat < b.1.1.length := by omega
  refine ⟨h3, h4, h1, by rw [v.fan hf]; omega, h1, h2, ?_⟩
  have h5 := v.fan_v hf hm
  have h6 := v.off_v hm
  refine ⟨?_, h⟩
  simp only
  omega
theorem patF_bounds {g : Gauge} {fs : Fans} (v : VB g fs) {m : Nat} (hm : m < g.1.length) (f : Nat) (hf : f < fs.length) : -5 ≤ (trulyF g fs m f).1 ∧ (trulyF g fs m f).1 ≤ 10000 ∧ 0 ≤ (trulyF g fs m f).2 ∧ (trulyF g fs m f).2 ≤ 10005 := by
  have h5 := v.fan_v hf hm
  have h6 := v.off_v hm
  simp only [trulyF]
  omega
def patS (g : Gauge) (fs : Fans) (m : Nat) (is : Int → Bool) (k : Nat) : Span :=
  (List.range k).foldl (fun (s : Span) (f : Nat) => if is (f : Int) then meetF s (aroundF (trulyF g fs m f) (g.2.1.getD m 0)) else s) anything
theorem patS_succ (g : Gauge) (fs : Fans) (m : Nat) (is : Int → Bool) (k : Nat) : patS g fs m is (k + 1) = if is (k : Int) then meetF (patS g fs m is k) (aroundF (trulyF g fs m k) (g.2.1.getD m 0)) else patS g fs m is k := by
  simp only [patS, List.range_succ, List.foldl_append, List.foldl_cons, List.foldl_nil]
theorem p72 {b : Gauge × Fans} {m : Int} {is : Int → (Bool → Prop) → Prop} {Q : Span → Prop} (h : f72_wp (b, m, is, ()) () Q) : V72 b m is Q := by
  obtain ⟨p, ⟨v, h1, h2, hs⟩, h⟩ := h
  simp only at h1 h2 v h hs
  have hm : m.toNat < b.1.1.length := by omega
  intro hl
  refine forUp (σ := Int × Int) (n := b.2.length) hl (patS b.1 b.2 m.toNat p) rfl (fun k hk I μ hI hw => ?_) h
  refine hs k hk _ (cnd_iff.2 ⟨fun hp => ?_, fun hp => ?_⟩)
  · refine ⟨trulyF b.1 b.2 m.toNat k, ⟨⟨v, h1, h2, by simp only; omega, by simp only; omega⟩, by simp⟩, h1, by rw [v.mkl]; omega, aroundF (trulyF b.1 b.2 m.toNat k) (b.1.2.1.getD m.toNat 0), ⟨?_, rfl⟩, meetF (patS b.1 b.2 m.toNat p k) (aroundF (trulyF b.1 b.2 m.toNat k) (b.1.2.1.getD m.toNat 0)), rfl, ?_⟩
    · have := patF_bounds v hm k hk
      have := v.make_v hm
      simp only
      omega
    · rw [hw]
      have e := patS_succ b.1 b.2 m.toNat p k
      rw [hp, if_pos rfl] at e
      have hI2 := hI
      rw [e] at hI2
      exact hI2
  · rw [hw]
    have e := patS_succ b.1 b.2 m.toNat p k
    rw [hp, if_neg (by simp)] at e
    have hI2 := hI
    rw [e] at hI2
    exact hI2
theorem p73 {n : Int} {Q : Bool → Prop} (h : f73_wp n () Q) : V73 n Q := h
theorem p78 {b : Gauge × Fans} {is : Int → (Bool → Prop) → Prop} {Q : Bool → Prop} (h : f78_wp (b, is, ()) () Q) : V78 b is Q := by
  obtain ⟨p, ⟨v, hs⟩, h⟩ := h
  simp only at v h hs
  intro hl
  refine forUpG (n := b.1.1.length) hl (fun k => ∀ j, j < k → okSp (patF b.1 b.2 j p) = true) (fun j hj => absurd hj (Nat.not_lt_zero _)) (fun k hk hg I μ hI hw => ?_) (fun hg => ?_)
  · refine ⟨p, ⟨v, by simp only; omega, by simp only; omega, hs⟩, cnd_iff.2 ⟨fun h1 => ?_, fun h1 => ?_⟩⟩
    · have h1 : (patF b.1 b.2 k p).2 < (patF b.1 b.2 k p).1 := of_decide_eq_true h1
      have : twinsF b.1 b.2 p = false := by
        rw [twinsF, List.all_eq_false]
        exact ⟨k, List.mem_range.2 hk, by simp [okSp]; omega⟩
      rwa [this] at h
    · have h1 : ¬ (patF b.1 b.2 k p).2 < (patF b.1 b.2 k p).1 := of_decide_eq_false h1
      rw [hw]
      refine hI fun j hj => ?_
      rcases Nat.lt_succ_iff_lt_or_eq.1 hj with h2 | rfl
      · exact hg j h2
      · simp [okSp]; omega
  · have : twinsF b.1 b.2 p = true := by
      rw [twinsF, List.all_eq_true]
      intro j hj
      exact hg j (List.mem_range.1 hj)
    rwa [this] at h
theorem inB_iff {lo hi n : Int} : inB lo hi n = true ↔ lo ≤ n ∧ n ≤ hi := by simp [inB]
theorem VB.of {g : Gauge} {fs : Fans} (h : checkF g fs = 0) : VB g fs := by
  unfold checkF at h
  split at h
  · cases h
  rename_i hA
  split at h
  · cases h
  rename_i hB
  split at h
  · cases h
  rename_i hC
  split at h
  · cases h
  rename_i hD
  have a1 : inB 1 4 g.1.length = true := by cases e : inB 1 4 g.1.length <;> simp_all
  have a1 := inB_iff.1 a1
  have b1 : g.1.all (inB 0 5) = true := by cases e : g.1.all (inB 0 5) <;> simp_all
  have b2 : g.2.1.all (inB 0 100) = true := by cases e : g.2.1.all (inB 0 100) <;> simp_all
  have b3 : g.2.2.all isCopyF = true := by cases e : g.2.2.all isCopyF <;> simp_all
  have d1 : fs.all (fanF g.1.length) = true := by cases e : fs.all (fanF g.1.length) <;> simp_all
  rw [List.all_eq_true] at b1 b2 b3 d1
  refine ⟨by omega, by omega, ?_, ?_, fun x hx => inB_iff.1 (b1 x hx), fun x hx => inB_iff.1 (b2 x hx), fun x hx => ?_, by omega, fun f hf => ?_, fun f hf x hx => ?_⟩
  · apply Classical.byContradiction; intro e; exact hA (.inr (.inl e))
  · apply Classical.byContradiction; intro e; exact hA (.inr (.inr e))
  · have := b3 x hx
    simp [isCopyF, inB] at this
    omega
  · have := d1 f hf
    simp [fanF] at this
    omega
  · have := d1 f hf
    simp only [fanF, Bool.and_eq_true, List.all_eq_true] at this
    exact inB_iff.1 (this.2 x hx)
theorem p22 {g : Gauge} {fs : Fans} {Q : List Span × Int × Unit → Prop} (h : f22_wp (g, fs, ()) () Q) : V22 g fs Q := by
  have h : Q ((patternF g fs).1, (patternF g fs).2, ()) := h
  show cnd (checkF g fs != 0) (Q ([], checkF g fs, ())) _
  refine cnd_iff.2 ⟨fun h1 => ?_, fun h1 hl => cnd_iff.2 ⟨fun h2 => ?_, fun h2 hl2 => ?_⟩⟩
  · have h1 : checkF g fs ≠ 0 := by simpa using h1
    simpa [patternF, h1] using h
  · have h1 : checkF g fs = 0 := by simpa using h1
    have h2 : fs.length = 0 := by simpa using h2
    simpa [patternF, h1, h2] using h
  have h1 : checkF g fs = 0 := by simpa using h1
  have h2 : fs.length ≠ 0 := by simpa using h2
  have v := VB.of h1
  have hp : patternF g fs = if twinsF g fs (fun _ => true) then ((List.range g.1.length).map fun m => patF g fs m fun _ => true, 0) else ([], 9) := by
    unfold patternF
    rw [if_neg (by simp [h1]), if_neg h2]
  refine forUpGS (σ := List Span) (n := g.1.length) hl2 (fun k => ∀ j, j < k → okSp (patF g fs j fun _ => true) = true) (fun k => (List.range k).map fun m => patF g fs m fun _ => true) (fun j hj => absurd hj (Nat.not_lt_zero _)) rfl (fun k hk hg I μ hI hw => ?_) (fun hg => ?_)
  · refine ⟨fun _ => true, ⟨v, by simp only; omega, by simp only; omega, fun k hk Q h => h⟩, cnd_iff.2 ⟨fun h3 => ?_, fun h3 => ?_⟩⟩
    · have h3 : (patF g fs k fun _ => true).2 < (patF g fs k fun _ => true).1 := of_decide_eq_true h3
      have : twinsF g fs (fun _ => true) = false := by
        rw [twinsF, List.all_eq_false]
        exact ⟨k, List.mem_range.2 hk, by simp [okSp]; omega⟩
      rw [hp, this] at h
      exact h
    · have h3 : ¬ (patF g fs k fun _ => true).2 < (patF g fs k fun _ => true).1 := of_decide_eq_false h3
      have := v.n4
      refine ⟨?_, ?_⟩
      · simp; omega
      rw [hw]
      have e : ((List.range (k + 1)).map fun m => patF g fs m fun _ => true) = ((List.range k).map fun m => patF g fs m fun _ => true) ++ [patF g fs k fun _ => true] := by simp [List.range_succ]
      rw [e] at hI
      refine hI fun j hj => ?_
      rcases Nat.lt_succ_iff_lt_or_eq.1 hj with h2 | rfl
      · exact hg j h2
      · simp [okSp]; omega
  · have : twinsF g fs (fun _ => true) = true := by
      rw [twinsF, List.all_eq_true]
      intro j hj
      exact hg j (List.mem_range.1 hj)
    rw [hp, this] at h
    exact h
end Go.Proofs.Tw
set_option maxRecDepth 100000
namespace Go.Proofs.Tw
open Go Go.GX Go.Proofs Go.RowKit Go.Shelf
theorem belowA (W : World) (o : Obj) : Below W.heap.size W (W.alloc o) := (Below.refl _ _).alloc (Nat.le_refl _) o
theorem mk80 : MkOK Tryd.prog 80 22 113 := by
  refine ⟨enters_of Tryd.func80 (by kernel_rfl) rfl, fun W v => ?_⟩
  cases v <;>
  · go_enter Tryd.func80, Tryd.ntmps80
    go_wp2
    go_ret
    exact ⟨W.heap.size, rfl, Nat.le_refl _, World.alloc_heap_new W _, belowA _ _⟩
theorem mk86 : MkOK Tryd.prog 86 22 116 := by
  refine ⟨enters_of Tryd.func86 (by kernel_rfl) rfl, fun W v => ?_⟩
  cases v <;>
  · go_enter Tryd.func86, Tryd.ntmps86
    go_wp2
    go_ret
    exact ⟨W.heap.size, rfl, Nat.le_refl _, World.alloc_heap_new W _, belowA _ _⟩
theorem mk79 : MkOK Tryd.prog 79 3 110 := by
  refine ⟨enters_of Tryd.func79 (by kernel_rfl) rfl, fun W v => ?_⟩
  cases v <;>
  · go_enter Tryd.func79, Tryd.ntmps79
    go_wp2
    go_ret
    exact ⟨W.heap.size, rfl, Nat.le_refl _, World.alloc_heap_new W _, belowA _ _⟩
theorem mk118 : MkOK Tryd.prog 118 22 125 := by
  refine ⟨enters_of Tryd.func118 (by kernel_rfl) rfl, fun W v => ?_⟩
  cases v <;>
  · go_enter Tryd.func118, Tryd.ntmps118
    go_wp2
    go_ret
    exact ⟨W.heap.size, rfl, Nat.le_refl _, World.alloc_heap_new W _, belowA _ _⟩
theorem mk119 : MkOK Tryd.prog 119 3 126 := by
  refine ⟨enters_of Tryd.func119 (by kernel_rfl) rfl, fun W v => ?_⟩
  cases v <;>
  · go_enter Tryd.func119, Tryd.ntmps119
    go_wp2
    go_ret
    exact ⟨W.heap.size, rfl, Nat.le_refl _, World.alloc_heap_new W _, belowA _ _⟩
theorem u81 : ∃ fs, Tryd.prog.underlying 81 = some (.struct fs) := ⟨_, rfl⟩
theorem s81 : (Tryd.prog.info? 81).map (·.size) = some 1 := by kernel_rfl
theorem frozenA (W : World) (cs : Array Value) (t : TypeId) : (W.alloc (.cells cs t)).frozen? ⟨W.heap.size, 0, none⟩ = false := by
  unfold World.frozen?
  simp only [World.alloc_heap_new W]
  simp
theorem inl97 : InlOK Tryd.prog 97 := by
  refine ⟨enters_of Tryd.func97 (by kernel_rfl) rfl, fun W v hv => ?_⟩
  obtain ⟨fs, hfs⟩ := u81
  have h1 := s81
  cases v with
  | agg cs => cases hv
  | tuple vs => cases hv
  | _ =>
    go_enter Tryd.func97, Tryd.ntmps97
    go_wp2
    first
      | exact bodyPost_ret (v := .agg #[_]) (results_cell_row rfl _ _ W.heap.size 81 _ (0, 0) _ rfl (World.alloc_heap_new W _) hfs rfl h1) rfl ⟨rfl, belowA _ _⟩
      | (rw [run_store _ _ _ _ _ rfl]
         go_wp2
         all_goals first
           | exact bodyPost_ret (v := .agg #[_]) (results_cell_row rfl _ _ W.heap.size 81 _ (0, 0) _ rfl (World.alloc_heap_new W _) hfs rfl h1) rfl ⟨rfl, belowA _ _⟩
           | exact absurd ‹_› (by rw [frozenA]; exact Bool.noConfusion))
theorem clip112 : ClipOK Tryd.prog 112 := by
  refine ⟨enters_of Tryd.func112 (by kernel_rfl) rfl, fun W A n c hn => ?_⟩
  go_enter Tryd.func112, Tryd.ntmps112
  go_wp2
  go_ret
  exact ⟨⟨A, rfl, fun _ => rfl⟩, Below.refl _ _⟩
end Go.Proofs.Tw
set_option maxRecDepth 100000
namespace Go.Proofs.Tw
open Go Go.GX Go.Proofs
theorem st_ok : statB Tryd.prog tyT slT flT eqT = true := by kernel_rfl
theorem mk_ok : AllMk Tryd.prog mkT := .cons mk80 (.cons mk86 .nil)
theorem in_ok : AllInl Tryd.prog inlT := AllInl.cons inl97 (by decide) (AllInl.clip clip112 AllInl.nil)
end Go.Proofs.Tw
set_option maxRecDepth 100000
namespace Go.Proofs.Tw
open Go Go.GX Go.Proofs

theorem ok105 : CallsOK Tryd.prog (assoc glT) 105 f105_ct :=
  callsOK_mk [] st_ok mk_ok in_ok AllOK.nil no_an Tryd.func105 (by kernel_rfl) (by kernel_rfl) f105_ct fun n ⟨lo, hi, _⟩ Q h => (v105 n lo hi Q).mp (p105 h)
theorem ok123 : CallsOK Tryd.prog (assoc glT) 123 f123_ct :=
  callsOK_mk [] st_ok mk_ok in_ok AllOK.nil idx_an Tryd.func123 (by kernel_rfl) (by kernel_rfl) f123_ct fun ⟨xs, f, _⟩ _ Q h => (v123 xs f Q).mp (p123 h)
theorem ok104 : CallsOK Tryd.prog (assoc glT) 104 f104_ct :=
  callsOK_mk [] st_ok mk_ok in_ok (AllOK.cons ok123 AllOK.nil) no_an Tryd.func104 (by kernel_rfl) (by kernel_rfl) f104_ct fun ⟨xs, f, _⟩ _ Q h => (v104 xs f Q).mp (p104 h)
theorem ok106 : CallsOK Tryd.prog (assoc glT) 106 f106_ct :=
  callsOK_mk [] st_ok mk_ok in_ok AllOK.nil idx_an Tryd.func106 (by kernel_rfl) (by kernel_rfl) f106_ct fun ⟨xs, f, _⟩ _ Q h => (v106 xs f Q).mp (p106 h)
theorem ok67 : CallsOK Tryd.prog (assoc glT) 67 f67_ct :=
  callsOK_mk [] st_ok mk_ok in_ok (AllOK.cons ok106 AllOK.nil) no_an Tryd.func67 (by kernel_rfl) (by kernel_rfl) f67_ct fun ⟨xs, f, _⟩ _ Q h => (v67 xs f Q).mp (p67 h)
theorem ok107 : CallsOK Tryd.prog (assoc glT) 107 f107_ct :=
  callsOK_mk [] st_ok mk_ok in_ok AllOK.nil idx_an Tryd.func107 (by kernel_rfl) (by kernel_rfl) f107_ct fun ⟨xs, f, _⟩ _ Q h => (v107 xs f Q).mp (p107 h)
theorem ok69 : CallsOK Tryd.prog (assoc glT) 69 f69_ct :=
  callsOK_mk [] st_ok mk_ok in_ok (AllOK.cons ok107 AllOK.nil) no_an Tryd.func69 (by kernel_rfl) (by kernel_rfl) f69_ct fun ⟨xs, f, _⟩ _ Q h => (v69 xs f Q).mp (p69 h)
theorem ok66 : CallsOK Tryd.prog (assoc glT) 66 f66_ct :=
  callsOK_mk [] st_ok mk_ok in_ok (AllOK.cons ok104 (AllOK.cons ok105 AllOK.nil)) no_an Tryd.func66 (by kernel_rfl) (by kernel_rfl) f66_ct fun ⟨lo, hi, xs, _⟩ _ Q h => (v66 lo hi xs Q).mp (p66 h)
theorem ok65 : CallsOK Tryd.prog (assoc glT) 65 f65_ct :=
  callsOK_mk [] st_ok mk_ok in_ok (AllOK.cons ok66 AllOK.nil) no_an Tryd.func65 (by kernel_rfl) (by kernel_rfl) f65_ct fun s _ Q h => (v65 s Q).mp (p65 h)
theorem ok68 : CallsOK Tryd.prog (assoc glT) 68 f68_ct :=
  callsOK_mk [] st_ok mk_ok in_ok AllOK.nil no_an Tryd.func68 (by kernel_rfl) (by kernel_rfl) f68_ct fun s ⟨g, _⟩ Q h => (v68 s g Q).mp (p68 h)
theorem ok70 : CallsOK Tryd.prog (assoc glT) 70 f70_ct :=
  callsOK_mk [] st_ok mk_ok in_ok (AllOK.cons ok66 AllOK.nil) no_an Tryd.func70 (by kernel_rfl) (by kernel_rfl) f70_ct fun f ⟨n, _⟩ Q h => (v70 f n Q).mp (p70 h)
theorem ok21 : CallsOK Tryd.prog (assoc glT) 21 f21_ct :=
  callsOK_mk [] st_ok mk_ok in_ok (AllOK.cons ok66 (AllOK.cons ok67 (AllOK.cons ok69 (AllOK.cons ok65 (AllOK.cons ok68 (AllOK.cons ok70 AllOK.nil)))))) no_an Tryd.func21 (by kernel_rfl) (by kernel_rfl) f21_ct fun ⟨g, fs, _⟩ _ Q h => (v21 g fs Q).mp (p21 h)
theorem ok71 : CallsOK Tryd.prog (assoc glT) 71 f71_ct :=
  callsOK_mk [] st_ok mk_ok in_ok (AllOK.cons ok21 AllOK.nil) no_an Tryd.func71 (by kernel_rfl) (by kernel_rfl) f71_ct fun ⟨g, fs, _⟩ _ Q h => (v71 g fs Q).mp (p71 h)
theorem ok108 : CallsOK Tryd.prog (assoc glT) 108 f108_ct :=
  callsOK_mk [] st_ok mk_ok in_ok AllOK.nil no_an Tryd.func108 (by kernel_rfl) (by kernel_rfl) f108_ct fun ⟨a, b, _⟩ _ Q h => (v108 a b Q).mp (p108 h)
theorem ok109 : CallsOK Tryd.prog (assoc glT) 109 f109_ct :=
  callsOK_mk [] st_ok mk_ok in_ok AllOK.nil no_an Tryd.func109 (by kernel_rfl) (by kernel_rfl) f109_ct fun ⟨s, off, _⟩ _ Q h => (v109 s off Q).mp (p109 h)
theorem ok77 : CallsOK Tryd.prog (assoc glT) 77 f77_ct :=
  callsOK_mk [] st_ok mk_ok in_ok (AllOK.cons ok109 AllOK.nil) no_an Tryd.func77 (by kernel_rfl) (by kernel_rfl) f77_ct fun ⟨b, m, f, _⟩ _ Q h => (v77 b m f Q).mp (p77 h)
theorem ok72 : CallsOK Tryd.prog (assoc glT) 72 f72_ct :=
  callsOK_mk [] st_ok mk_ok in_ok (AllOK.cons ok77 (AllOK.cons ok109 (AllOK.cons ok108 AllOK.nil))) f72_an Tryd.func72 (by kernel_rfl) (by kernel_rfl) f72_ct fun ⟨b, m, is, _⟩ _ Q h => (v72 b m is Q).mp (p72 h)
theorem ok73 : CallsOK Tryd.prog (assoc glT) 73 f73_ct :=
  callsOK_mk [] st_ok mk_ok in_ok AllOK.nil no_an Tryd.func73 (by kernel_rfl) (by kernel_rfl) f73_ct fun n _ Q h => (v73 n Q).mp (p73 h)
theorem ok78 : CallsOK Tryd.prog (assoc glT) 78 f78_ct :=
  callsOK_mk [] st_ok mk_ok in_ok (AllOK.cons ok72 AllOK.nil) f78_an Tryd.func78 (by kernel_rfl) (by kernel_rfl) f78_ct fun ⟨b, is, _⟩ _ Q h => (v78 b is Q).mp (p78 h)
theorem ok22 : CallsOK Tryd.prog (assoc glT) 22 f22_ct :=
  callsOK_mk [] st_ok mk_ok in_ok (AllOK.cons ok71 (AllOK.cons ok72 (AllOK.cons ok73 AllOK.nil))) f22_an Tryd.func22 (by kernel_rfl) (by kernel_rfl) f22_ct fun ⟨g, fs, _⟩ _ Q h => (v22 g fs Q).mp (p22 h)
end Go.Proofs.Tw
namespace Go.Proofs.Tw
open Go.GX
abbrev arg4 (a b c d : Kd) : Kd := .pair a (.pair b (.pair c (.pair d .unit)))
abbrev kSlip : Kd := .agg (.pair (.int .i64) (.int .i64))
abbrev kSlips : Kd := .sl 62 kSlip
abbrev kFam : Kd := .sl 3 kI
abbrev kFams : Kd := .sl 138 kFam
abbrev kSpss : Kd := .sl 23 kSps
abbrev kNsps : Kd := .nsl 38 kSp
abbrev Fam := List Int
abbrev Slip := Int × Int
abbrev Bench := Gauge × Fans

def hasF (xs : List Int) (n : Int) : Bool := xs.any fun x => n == x
def f124_wp : List Int × Int × Unit → Unit → (Int → Prop) → Prop := fun a _ Q => Q (idxF (fun x => a.2.1 == x) a.1)
def f124_ct : Ct := ⟨arg2 kIs kI, .unit, kI, f124_wp, false, false⟩
def f114_wp : List Int × Int × Unit → Unit → (Bool → Prop) → Prop := fun a _ Q => Q (hasF a.1 a.2.1)
def f114_ct : Ct := ⟨arg2 kIs kI, .unit, .bool, f114_wp, false, false⟩
def f113_wp : Int → List Int × Unit → (Bool → Prop) → Prop := fun n c Q => Q (hasF c.1 n)
def f113_ct : Ct := ⟨kI, arg1 (.ptr 22 kIs), .bool, f113_wp, false, false⟩
def f116_wp : Int → List Int × Unit → (Bool → Prop) → Prop := fun n c Q => Q (!hasF c.1 n)
def f116_ct : Ct := ⟨kI, arg1 (.ptr 22 kIs), .bool, f116_wp, false, false⟩
def f81_wp : List Int → Unit → (List Int → Prop) → Prop := fun xs _ Q => xs.length ≤ 1000000 ∧ Q xs
def f81_ct : Ct := ⟨kIs, .unit, kIs, f81_wp, true, false⟩
def f121_wp : List Int → Unit → (List Int → Prop) → Prop := fun xs _ Q => xs.length ≤ 1000000 ∧ Q xs
def f121_ct : Ct := ⟨kFam, .unit, kFam, f121_wp, true, false⟩
def f122_wp : List Fam × (Fam → (Bool → Prop) → Prop) × Unit → Unit → (Int → Prop) → Prop := fun a _ Q => ∃ p : Fam → Bool, Says a.2.1 p a.1 ∧ Q (idxF p a.1)
def f122_ct : Ct := ⟨arg2 kFams (.fn kFam .bool), .unit, kI, f122_wp, false, false⟩
def f100_wp : List Fam × (Fam → (Bool → Prop) → Prop) × Unit → Unit → (Bool → Prop) → Prop := fun a _ Q => ∃ p : Fam → Bool, Says a.2.1 p a.1 ∧ Q (a.1.any p)
def f100_ct : Ct := ⟨arg2 kFams (.fn kFam .bool), .unit, .bool, f100_wp, false, false⟩

def sOne (g : Gauge) (fs : Fans) (m x y : Nat) : Bool := x == y || decide ((trulyF g fs m x).2 - (trulyF g fs m y).1 ≤ 2 * g.2.1.getD m 0)
def sRow (g : Gauge) (fs : Fans) (m x k : Nat) : Bool := (List.range k).all (sOne g fs m x)
def sMs (g : Gauge) (fs : Fans) (m k : Nat) : Bool := (List.range k).all fun x => sRow g fs m x fs.length
def surelyK (g : Gauge) (fs : Fans) (k : Nat) : Bool := (List.range k).all fun m => sMs g fs m fs.length
def surelyF (g : Gauge) (fs : Fans) : Bool := surelyK g fs g.1.length
def twinsFn (g : Gauge) (fs : Fans) : Bool × Bool × Int :=
  if checkF g fs ≠ 0 then (false, false, checkF g fs) else (surelyF g fs, twinsF g fs fun _ => true, 0)
def f28_wp : Gauge × Fans × Unit → Unit → (Bool × Bool × Int × Unit → Prop) → Prop := fun a _ Q => Q ((twinsFn a.1 a.2.1).1, (twinsFn a.1 a.2.1).2.1, (twinsFn a.1 a.2.1).2.2, ())
def f28_ct : Ct := ⟨arg2 kG kFs, .unit, res3 .bool .bool kI, f28_wp, false, false⟩
def f28_an : Nat → Items
  | 0 => [.t 23 kI, .t 4 .bool]
  | 2 => [.t 28 kI, .t 4 .bool]
  | 4 => [.t 33 kI, .t 4 .bool]
  | _ => []
def leastF (g : Gauge) (fs : Fans) (m : Nat) : Int := (trulyF g fs m 1).1 - (trulyF g fs m 0).2
def mostlyF (g : Gauge) (fs : Fans) (m : Nat) : Int := (trulyF g fs m 1).2 - (trulyF g fs m 0).1
def cSure (g : Gauge) (fs : Fans) (m : Nat) : Bool := decide (leastF g fs m ≥ (g.2.2.getD m (0, 0)).1) && decide (mostlyF g fs m ≤ (g.2.2.getD m (0, 0)).2)
def cMay (g : Gauge) (fs : Fans) (m : Nat) : Bool := decide (leastF g fs m ≤ (g.2.2.getD m (0, 0)).2) && decide (mostlyF g fs m ≥ (g.2.2.getD m (0, 0)).1)
def copyFn (g : Gauge) (fs : Fans) : Bool × Bool × Int :=
  if checkF g fs ≠ 0 then (false, false, checkF g fs) else ((List.range g.1.length).all (cSure g fs), (List.range g.1.length).all (cMay g fs), 0)
def f58_wp : Gauge × List Int × List Int × Unit → Unit → (Bool × Bool × Int × Unit → Prop) → Prop := fun a _ Q => Q ((copyFn a.1 [a.2.1, a.2.2.1]).1, (copyFn a.1 [a.2.1, a.2.2.1]).2.1, (copyFn a.1 [a.2.1, a.2.2.1]).2.2, ())
def f58_ct : Ct := ⟨arg3 kG kFan kFan, .unit, res3 .bool .bool kI, f58_wp, false, false⟩
def f58_an : Nat → Items
  | 0 => [.t 30 kI, .t 6 .bool, .t 7 .bool]
  | _ => []

def fromF (below : Nat) : Nat → List Int → List (List Int)
  | 0, s => [s]
  | k + 1, s =>
    let first := match s.getLast? with
      | some x => (x + 1).toNat
      | none => 0
    ((List.range below).filter fun n => decide (first ≤ n) && decide (n + k < below)).flatMap fun (n : Nat) => fromF below k (s ++ [(n : Int)])
def setsF (below : Nat) : List (List Int) := (List.range (below + 1)).flatMap fun k => fromF below k []
def f79_wp : Int → Unit → (List (List Int) → Prop) → Prop := fun n _ Q => (0 ≤ n ∧ n ≤ 5) ∧ Q (setsF n.toNat)
def f79_ct : Ct := ⟨kI, .unit, .seq kIs, f79_wp, false, false⟩
def backF (xs : List Int) : List (Int × Int) := ((List.range xs.length).map fun (i : Nat) => ((i : Int), xs.getD i 0)).reverse
def f118_wp : List Int → Unit → (List (Int × Int) → Prop) → Prop := fun xs _ Q => Q (backF xs)
def f118_ct : Ct := ⟨kIs, .unit, .seq (.pair kI kI), f118_wp, false, false⟩

def orderStep (f : Fam) (l : List Int) (n : Nat) : List Int := if !hasF l n && (f.getD n 0 == -1 || hasF l (f.getD n 0)) then l ++ [(n : Int)] else l
def orderPass (f : Fam) (l : List Int) : List Int := (List.range f.length).foldl (orderStep f) l
def orderN (f : Fam) : Nat → List Int
  | 0 => []
  | k + 1 => orderPass f (orderN f k)
def orderF (f : Fam) : List Int := orderN f f.length
def okOrd (f : Fam) : Bool := decide ((orderF f).length = f.length)
def f117_wp : Fam → Unit → (List Int × Bool × Unit → Prop) → Prop := fun f _ Q => f.length ≤ 1000 ∧ Q (orderF f, okOrd f, ())
def f117_ct : Ct := ⟨kFam, .unit, res2 kIs .bool, f117_wp, false, false⟩
def f117_an : Nat → Items
  | 0 => [.t 8 kI, .row 2 5001 false 3 kI]
  | 2 => [.t 12 kI, .row 2 5002 false 3 kI]
  | _ => []
def isFamF (l : List Int) (n : Nat) : Bool := decide (l.length = n) && l.all (inB (-1) (n - 1)) && okOrd l
def f88_wp : List Int × Int × Unit → Unit → (Bool → Prop) → Prop := fun a _ Q => (0 ≤ a.2.1 ∧ a.2.1 ≤ 1000) ∧ Q (isFamF a.1 a.2.1.toNat)
def f88_ct : Ct := ⟨arg2 kIs kI, .unit, .bool, f88_wp, false, false⟩
def origF (f : Fam) : Nat := f.countP fun x => x == -1
def f120_wp : Fam → Unit → (Int → Prop) → Prop := fun f _ Q => Q (origF f)
def f120_ct : Ct := ⟨kFam, .unit, kI, f120_wp, false, false⟩
def f120_an : Nat → Items
  | 0 => [.t 7 kI, .t 2 kI]
  | _ => []

def digF (n : Nat) : Nat → Nat → List Int
  | 0, _ => []
  | i + 1, k => digF n i (k / (n + 1)) ++ [((k % (n + 1) : Nat) : Int) - 1]
def famsF (n : Nat) : List Fam := ((List.range ((n + 1) ^ n)).map (digF n n)).filter okOrd
def f119_wp : Int → Unit → (List Fam → Prop) → Prop := fun n _ Q => (0 ≤ n ∧ n ≤ 5) ∧ Q (famsF n.toNat)
def f119_ct : Ct := ⟨kI, .unit, .seq kFam, f119_wp, false, false⟩

structure FOK (fs : Fans) (f : Fam) : Prop where
  len : f.length = fs.length
  rng : ∀ x, x ∈ f → -1 ≤ x ∧ x < f.length

def startF (g : Gauge) (fs : Fans) (m : Nat) (wrong : List Int) (k : Nat) : List Span := (List.range k).map fun (n : Nat) => if hasF wrong n then anything else trulyF g fs m n
def backStep (c : Span) (f : Fam) (l : List Span) (n : Nat) : List Span :=
  if f.getD n 0 ≠ -1 then l.set (f.getD n 0).toNat (meetF (l.getD (f.getD n 0).toNat (0, 0)) ((l.getD n (0, 0)).1 - c.2, (l.getD n (0, 0)).2 - c.1)) else l
def backAll (c : Span) (f : Fam) : List Int → List Span → Option (List Span)
  | [], l => some l
  | n :: r, l => if okSp (l.getD n.toNat (0, 0)) then backAll c f r (backStep c f l n.toNat) else none
def fwdStep (c : Span) (f : Fam) (l : List Span) (n : Int) : List Span :=
  if f.getD n.toNat 0 ≠ -1 then l.set n.toNat (meetF (l.getD n.toNat (0, 0)) ((l.getD (f.getD n.toNat 0).toNat (0, 0)).1 + c.1, (l.getD (f.getD n.toNat 0).toNat (0, 0)).2 + c.2)) else l
def truthF (g : Gauge) (fs : Fans) (m : Nat) (f : Fam) (wrong : List Int) : Option (List Span) :=
  (backAll (g.2.2.getD m (0, 0)) f (orderF f).reverse (startF g fs m wrong f.length)).map fun l => (orderF f).foldl (fwdStep (g.2.2.getD m (0, 0)) f) l
def f90_wp : Bench × Int × Fam × List Int × Unit → Unit → (Option (List Span) → Prop) → Prop := fun a _ Q => (VB a.1.1 a.1.2 ∧ FOK a.1.2 a.2.2.1 ∧ 0 ≤ a.2.1 ∧ a.2.1 < a.1.1.1.length) ∧ Q (truthF a.1.1 a.1.2 a.2.1.toNat a.2.2.1 a.2.2.2.1)
def f90_ct : Ct := ⟨arg4 kB kI kFam kIs, .unit, kNsps, f90_wp, false, false⟩
def f90_an : Nat → Items
  | 0 => [.t 36 kI, .lrow 202 true 38 kSp]
  | 2 => [.lrow 202 true 38 kSp]
  | 4 => [.t 102 kI, .lrow 202 true 38 kSp]
  | _ => []
def rightF (g : Gauge) (fs : Fans) (f : Fam) : Bool := (List.range g.1.length).all fun m => !((truthF g fs m f []).isNone && decide (0 < f.length))
def f89_wp : Bench × Fam × Unit → Unit → (Bool → Prop) → Prop := fun a _ Q => (VB a.1.1 a.1.2 ∧ FOK a.1.2 a.2.1) ∧ Q (rightF a.1.1 a.1.2 a.2.1)
def f89_ct : Ct := ⟨arg2 kB kFam, .unit, .bool, f89_wp, false, false⟩
def f89_an : Nat → Items
  | 0 => [.t 10 kI]
  | _ => []
def canStep (g : Gauge) (fs : Fans) (s : Nat × List Fam) (f : Fam) : Nat × List Fam :=
  if decide (s.1 < origF f) || !rightF g fs f then s else if origF f < s.1 then (origF f, [f]) else (s.1, s.2 ++ [f])
def canF (g : Gauge) (fs : Fans) : List Fam := ((famsF fs.length).foldl (canStep g fs) (fs.length + 1, [])).2
def f95_wp : Bench → Unit → (List Fam → Prop) → Prop := fun b _ Q => VB b.1 b.2 ∧ Q (canF b.1 b.2)
def f95_ct : Ct := ⟨kB, .unit, kFams, f95_wp, false, false⟩
def f95_an : Nat → Items
  | 0 => [.crow 1 136 5001 false 138 kFam, .cell 104 3 kI]
  | _ => []
def familiesFn (g : Gauge) (fs : Fans) : Int × List Int × Int :=
  if checkF g fs ≠ 0 then (0, [], checkF g fs) else ((canF g fs).length, (canF g fs).getD 0 [], 0)
def f54_wp : Gauge × Fans × Unit → Unit → (Int × List Int × Int × Unit → Prop) → Prop := fun a _ Q => Q ((familiesFn a.1 a.2.1).1, (familiesFn a.1 a.2.1).2.1, (familiesFn a.1 a.2.1).2.2, ())
def f54_ct : Ct := ⟨arg2 kG kFs, .unit, res3 kI kIs kI, f54_wp, false, false⟩
def f99_wp : Fam → Int × Unit → (Bool → Prop) → Prop := fun f c Q => (0 ≤ c.1 ∧ c.1 < f.length) ∧ Q (f.getD c.1.toNat 0 == -1)
def f99_ct : Ct := ⟨kFam, arg1 (.ptr 3 kI), .bool, f99_wp, false, false⟩
def f101_wp : Fam → (Fam → (Bool → Prop) → Prop) × Unit → (Bool → Prop) → Prop := fun f c Q => c.1 f fun r => Q (!r)
def f101_ct : Ct := ⟨kFam, arg1 (.ptr 132 (.fn kFam .bool)), .bool, f101_wp, false, false⟩
def mayF (g : Gauge) (fs : Fans) (n : Nat) : Bool := (canF g fs).any fun f => f.getD n 0 == -1
def sureF (g : Gauge) (fs : Fans) (n : Nat) : Bool := (canF g fs).all fun f => f.getD n 0 == -1
def numsF (p : Nat → Bool) (k : Nat) : List Int := ((List.range k).filter p).map fun (n : Nat) => (n : Int)
def originalsFn (g : Gauge) (fs : Fans) : List Int × List Int × Int :=
  if checkF g fs ≠ 0 then ([], [], checkF g fs) else (numsF (sureF g fs) fs.length, numsF (mayF g fs) fs.length, 0)
def f60_wp : Gauge × Fans × Unit → Unit → (List Int × List Int × Int × Unit → Prop) → Prop := fun a _ Q => Q ((originalsFn a.1 a.2.1).1, (originalsFn a.1 a.2.1).2.1, (originalsFn a.1 a.2.1).2.2, ())
def f60_ct : Ct := ⟨arg2 kG kFs, .unit, res3 kIs kIs kI, f60_wp, false, false⟩
def f60_an : Nat → Items
  | 0 => [.t 24 kI, .row 5 5001 false 3 kI, .row 4 5002 false 3 kI]
  | _ => []

def mostStep (g : Gauge) (fs : Fans) (best s : List Int) : List Int := if decide (best.length < s.length) && twinsF g fs (hasF s) then s else best
def mostF (g : Gauge) (fs : Fans) : List Int := (setsF fs.length).foldl (mostStep g fs) []
def mostFn (g : Gauge) (fs : Fans) : List Int × Int := if checkF g fs ≠ 0 then ([], checkF g fs) else (mostF g fs, 0)
def f29_wp : Gauge × Fans × Unit → Unit → (List Int × Int × Unit → Prop) → Prop := fun a _ Q => Q ((mostFn a.1 a.2.1).1, (mostFn a.1 a.2.1).2, ())
def f29_ct : Ct := ⟨arg2 kG kFs, .unit, res2 kIs kI, f29_wp, false, false⟩
def f29_an : Nat → Items
  | 0 => [.cell 1 22 kIs]
  | _ => []
def blameM (k : Nat) (p : Nat → List Int → Bool) (m : Nat) : List Slip := (((setsF k).find? (p m)).getD []).map fun f => ((m : Int), f)
def blameF (n k : Nat) (p : Nat → List Int → Bool) : List Slip := (List.range n).flatMap (blameM k p)
def f84_wp : Bench × (Int × List Int × Unit → (Bool → Prop) → Prop) × Unit → Unit → (List Slip → Prop) → Prop := fun a _ Q =>
  ∃ p : Nat → List Int → Bool, (VB a.1.1 a.1.2 ∧ ∀ m : Nat, m < a.1.1.1.length → ∀ s, s ∈ setsF a.1.2.length → ∀ Q : Bool → Prop, Q (p m s) → a.2.1 (m, s, ()) Q) ∧ Q (blameF a.1.1.1.length a.1.2.length p)
def f84_ct : Ct := ⟨arg2 kB (.fn (arg2 kI kIs) .bool), .unit, kSlips, f84_wp, false, false⟩
def f84_an : Nat → Items
  | 0 => [.t 13 kI, .crow 2 49 5001 false 62 kSlip]
  | 2 => [.crow 2 49 5002 false 62 kSlip]
  | 4 => [.t 28 kI, .crow 2 49 5003 false 62 kSlip]
  | _ => []
def wrongP (g : Gauge) (fs : Fans) (m : Nat) (s : List Int) : Bool := okSp (patF g fs m fun n => !hasF s n)
def f85_wp : Int × List Int × Unit → Bench × Unit → (Bool → Prop) → Prop := fun a c Q => (VB c.1.1 c.1.2 ∧ 0 ≤ a.1 ∧ a.1 < c.1.1.1.length) ∧ Q (wrongP c.1.1 c.1.2 a.1.toNat a.2.1)
def f85_ct : Ct := ⟨arg2 kI kIs, arg1 (.ptr 114 kB), .bool, f85_wp, false, false⟩
def wrongF (g : Gauge) (fs : Fans) : List Slip := blameF g.1.length fs.length (wrongP g fs)
def wrongFn (g : Gauge) (fs : Fans) : List Slip × Int :=
  if checkF g fs ≠ 0 then ([], checkF g fs) else if (wrongF g fs).length = 0 then ([], 6) else (wrongF g fs, 0)
def f34_wp : Gauge × Fans × Unit → Unit → (List Slip × Int × Unit → Prop) → Prop := fun a _ Q => Q ((wrongFn a.1 a.2.1).1, (wrongFn a.1 a.2.1).2, ())
def f34_ct : Ct := ⟨arg2 kG kFs, .unit, res2 kSlips kI, f34_wp, false, false⟩
def blameP (g : Gauge) (fs : Fans) (f : Fam) (m : Nat) (s : List Int) : Bool := decide (f.length = 0) || (truthF g fs m f s).isSome
def f94_wp : Int × List Int × Unit → List Int × Bench × Unit → (Bool → Prop) → Prop := fun a c Q => (VB c.2.1.1 c.2.1.2 ∧ FOK c.2.1.2 c.1 ∧ 0 ≤ a.1 ∧ a.1 < c.2.1.1.1.length) ∧ Q (blameP c.2.1.1 c.2.1.2 c.1 a.1.toNat a.2.1)
def f94_ct : Ct := ⟨arg2 kI kIs, arg2 (.ptr 22 kIs) (.ptr 114 kB), .bool, f94_wp, false, false⟩
def blameFn (g : Gauge) (fs : Fans) (f : Fam) : List Slip × Int :=
  if checkF g fs ≠ 0 then ([], checkF g fs) else if isFamF f fs.length = false then ([], 6) else (blameF g.1.length fs.length (blameP g fs f), 0)
def f41_wp : Gauge × Fans × List Int × Unit → Unit → (List Slip × Int × Unit → Prop) → Prop := fun a _ Q => Q ((blameFn a.1 a.2.1 a.2.2.1).1, (blameFn a.1 a.2.1 a.2.2.1).2, ())
def f41_ct : Ct := ⟨arg3 kG kFs kIs, .unit, res2 kSlips kI, f41_wp, false, false⟩

def truthsF (g : Gauge) (fs : Fans) (f : Fam) : List (List Span) := (List.range fs.length).map fun n => (List.range g.1.length).map fun m => ((truthF g fs m f []).getD []).getD n (0, 0)
def truthFn (g : Gauge) (fs : Fans) (f : Fam) : List (List Span) × Int :=
  if checkF g fs ≠ 0 then ([], checkF g fs) else if isFamF f fs.length = false then ([], 6) else if rightF g fs f = false then ([], 9) else (truthsF g fs f, 0)
def f37_wp : Gauge × Fans × List Int × Unit → Unit → (List (List Span) × Int × Unit → Prop) → Prop := fun a _ Q => Q ((truthFn a.1 a.2.1 a.2.2.1).1, (truthFn a.1 a.2.1 a.2.2.1).2, ())
def f37_ct : Ct := ⟨arg3 kG kFs kIs, .unit, res2 kSpss kI, f37_wp, false, false⟩
def f37_an : Nat → Items
  | 1 => [.t 35 kI, .mat 6 5001 5002 false 23 false 38 kSp]
  | 3 => [.t 44 kI, .lmat 5001 5004 false 23 false 38 kSp]
  | 5 => [.t 52 kI, .lmat 5001 5006 false 23 false 38 kSp]
  | _ => []
def saysF (g : Gauge) (fs : Fans) (l : List Fam) (m : Nat) : List (List Span) := l.map fun f => (truthF g fs m f []).getD []
def stillF (says : List (List Span)) (n : Nat) (found : Int) : Nat := says.countP fun f => decide ((f.getD n (0, 0)).1 ≤ found) && decide (found ≤ (f.getD n (0, 0)).2)
def mostN (says : List (List Span)) (n : Nat) (low : Int) : Nat → Int
  | 0 => 0
  | k + 1 => mxI (mostN says n low k) (stillF says n (low + k))
def mostAt (g : Gauge) (fs : Fans) (l : List Fam) (m n : Nat) : Int := mostN (saysF g fs l m) n (trulyF g fs m n).1 ((trulyF g fs m n).2 - (trulyF g fs m n).1 + 1).toNat
def lookStep (g : Gauge) (fs : Fans) (l : List Fam) (m : Nat) (s : Slip × Int) (n : Nat) : Slip × Int := if mostAt g fs l m n < s.2 then (((m : Int), (n : Int)), mostAt g fs l m n) else s
def lookF (g : Gauge) (fs : Fans) (l : List Fam) : Slip × Int := (List.range g.1.length).foldl (fun s m => (List.range fs.length).foldl (lookStep g fs l m) s) ((0, 0), (l.length : Int))
def lookFn (g : Gauge) (fs : Fans) : Slip × Int × Int :=
  if checkF g fs ≠ 0 then ((0, 0), 0, checkF g fs) else if (lookF g fs (canF g fs)).2 = (canF g fs).length then ((0, 0), 0, 7) else ((lookF g fs (canF g fs)).1, (lookF g fs (canF g fs)).2, 0)
def f43_wp : Gauge × Fans × Unit → Unit → (Slip × Int × Int × Unit → Prop) → Prop := fun a _ Q => Q ((lookFn a.1 a.2.1).1, (lookFn a.1 a.2.1).2.1, (lookFn a.1 a.2.1).2.2, ())
def f43_ct : Ct := ⟨arg2 kG kFs, .unit, res3 kSlip kI kI, f43_wp, false, false⟩
def f43_an : Nat → Items
  | 0 => [.t 37 kI, .cell 1 62 kSlip, .t 5 kI]
  | 2 => [.t 43 kI, .row 10 5001 false 23 kSps]
  | 4 => [.t 57 kI, .cell 1 62 kSlip, .t 5 kI]
  | 6 => [.t 16 kI, .t 14 kI]
  | 8 => [.t 74 kI, .t 17 kI]
  | _ => []
end Go.Proofs.Tw
