/- Part 4 of the texts behind the proof: Gx14, Gx15, Gx16, Gx17, Gx18, Gx19. -/
import Derived.Test.YtgcgakefjfhnkaaG03
import Derived.OrdersIn
set_option linter.unusedSimpArgs false
set_option linter.unusedVariables false
set_option linter.unusedSectionVars false
set_option linter.unusedVariables false
namespace Go.GX
variable [Inhabited BaseD]
open Go.RowKit Go.Shelf Go.Proofs

section
variable {P : Program} {glb : Nat → Option GV} {Bk X0 : Nat → Prop} {w0 : World} {st : St} {ρ : Lab} {a : Act} {W W' : World} {S : Stat} {dr : Bool} {lab : Nat} {o : Oper} {Q : Eff} {Z : Nat → Bool}

theorem evAll_from (hS : StatOK P S) (hg : S.glb = glb) (m : Mt P glb Bk X0 w0 st ρ a W) (ts : List TypeId) : ∀ (xs : List Operand) (k : Nat), RepVs P ρ (Xs st ρ X0) W ((xs.zipIdx k).map fun p => ev S st (ts.getD p.2 0) p.1) (xs.map a.eval)
  | [], k => rfl
  | x :: r, k => ⟨_, _, rfl, ev_ok hS hg m _ x, evAll_from hS hg m ts r (k + 1)⟩

theorem post_fits (m : Mt P glb Bk X0 w0 st ρ a W) (R : Kd) (ls : List Nat) (hln : (R.flat || noLn st.look ls) = true) {k : R.T → Prop} (hk : ∀ r, k r → Q (retv R r) (if R.flat then [] else frz st.look ls)) {e : Ending} {w' : World}
    (h : Post (R.sem P) (Xl st ρ X0 (fun l => memL l ls)) W k e w') : ∃ v, e = .returned v ∧ Fits P glb Bk X0 w0 st ρ a W Q v w' := by
  obtain ⟨r, v, rfl, hret, hb, hr⟩ := h
  refine ⟨v, rfl, ?_⟩
  have hQ := hk r hr
  cases hf : R.flat with
  | true =>
    rw [hf] at hQ
    exact ⟨_, [], ρ, hQ, ρ.le_refl, m.belM hb, RepV.of_ret R (Kd.flat_ret P R hf hret), hb.size⟩
  | false =>
    rw [hf] at hQ
    rw [hf, Bool.false_or] at hln
    exact Fits.frzM m ls hln hb hQ (fun Xn e1 e2 hXn => RepV.of_ret R ((Kd.stands P R).ret e1 hret))

theorem run_call (cl : Call) (hop : o.op = .call cl) (f : Operand) (hcal : cl.callee = .value f) (g : FuncId) (fi cap : Array Value) (hf : a.eval f = .func (.func g) fi cap) (hE : Enters P g) :
    (execOp a.eval o).run P W = .ok (.enter g (fi ++ (cl.args.toList.map a.eval).toArray ++ cap)) W := by
  have hm : (cl.args.toList.map a.eval).toArray = cl.args.map a.eval := by apply Array.ext'; simp
  unfold execOp; rw [hop]
  simp only [resolve, hcal, hf, Deferred.ofValue, Sem.run_bind, Sem.run_pure, Result.andThen_ok, invoke]
  rw [hE, hm]

theorem post_fresh (m : Mt P glb Bk X0 w0 st ρ a W) (R : Kd) {k : R.T → Prop} (hk : ∀ r, k r → Q (retv R r) []) {X : Nat → Prop} {e : Ending} {w' : World}
    (h : Post (R.sem P) (frX true X W) W k e w') : ∃ v, e = .returned v ∧ Fits P glb Bk X0 w0 st ρ a W Q v w' := by
  obtain ⟨r, v, rfl, hret, hb, hr⟩ := h
  have hret : (R.sem P).ret (fun k => k < W.heap.size) w' r v := hret
  exact ⟨v, rfl, _, [], ρ, hk r hr, ρ.le_refl, m.belM hb, RepV.of_ret R ((Kd.stands P R).ret (Evo.mono (fun k hk => Nat.lt_of_lt_of_le (m.Xlt k hk) hb.size) (fun k hk => m.Xlt k hk)) hret), hb.size⟩

theorem dl_inj {lab q q' : Nat} (h : dl lab q = dl lab q') : q = q' := by unfold dl at h; omega

theorem lastU_append {l : Nat} : ∀ (a b : List (Nat × Option HE)), lastU (a ++ b) l = match lastU b l with
    | some x => some x
    | none => lastU a l
  | [], b => by
    show lastU b l = _
    cases lastU b l <;> rfl
  | (k, h) :: r, b => by
    simp only [List.cons_append, lastU, lastU_append r b]
    cases lastU b l <;> rfl

structure OwnF (P : Program) (w' : World) (lab c c' : Nat) (u : List (Nat × Option HE)) (r : List (Nat × Value)) (fp : List Nat) : Prop where
  labs : ∀ l v, (l, v) ∈ r → ∃ q, l = dl lab q ∧ 2 * c + 1 ≤ q ∧ q < 2 * c' + 1
  ulab : ∀ l, memL l (u.map (·.1)) = true ↔ ∃ v, (l, v) ∈ r
  func : ∀ l v v', (l, v) ∈ r → (l, v') ∈ r → v = v'
  ent : ∀ ρ' : Lab, (∀ l v, (l, v) ∈ r → ρ' l = some v) → ∀ l he, lastU u l = some (some he) → ∃ v, (l, v) ∈ r ∧ (∀ X, HEok P 0 ρ' X w' he v) ∧ ∀ k, OwnB ρ' he v k → k ∈ fp
  dis : fp.Nodup → ∀ ρ' : Lab, (∀ l v, (l, v) ∈ r → ρ' l = some v) → ∀ l l' he he' v v' k, lastU u l = some (some he) → lastU u l' = some (some he') → (l, v) ∈ r → (l', v') ∈ r → OwnB ρ' he v k → OwnB ρ' he' v' k → l = l'
  le : c ≤ c'

theorem OwnF.nil {w' : World} {lab c : Nat} : OwnF P w' lab c c [] [] [] :=
  ⟨fun l v h => by simp at h, fun l => by simp [memL], fun l v v' h => by simp at h, fun ρ' _ l he h => (by cases h), fun _ ρ' _ l l' he he' v v' k h => (by cases h), Nat.le_refl _⟩

theorem OwnF.append {w' : World} {lab c c1 c2 : Nat} {u1 u2 : List (Nat × Option HE)} {r1 r2 : List (Nat × Value)} {f1 f2 : List Nat} (h1 : OwnF P w' lab c c1 u1 r1 f1) (h2 : OwnF P w' lab c1 c2 u2 r2 f2) : OwnF P w' lab c c2 (u1 ++ u2) (r1 ++ r2) (f1 ++ f2) := by
  have hle1 := h1.le
  have hle2 := h2.le
  have apart : ∀ {l v v'}, (l, v) ∈ r1 → (l, v') ∈ r2 → False := by
    intro l v v' ha hb
    obtain ⟨q, e1, _, q2⟩ := h1.labs l v ha
    obtain ⟨q', e2, q3, _⟩ := h2.labs l v' hb
    have := dl_inj (e1.symm.trans e2)
    omega
  have cas : ∀ {l he}, lastU (u1 ++ u2) l = some (some he) → lastU u2 l = some (some he) ∨ lastU u1 l = some (some he) := by
    intro l he h
    rw [lastU_append] at h
    cases h2 : lastU u2 l with
    | some x => rw [h2] at h; exact .inl h
    | none => rw [h2] at h; exact .inr h
  have mem1 : ∀ {l he}, lastU u1 l = some (some he) → ∃ v, (l, v) ∈ r1 := by
    intro l he h
    refine (h1.ulab l).1 ?_
    cases hm : memL l (u1.map (·.1)) with
    | true => rfl
    | false => rw [lastU_none hm] at h; cases h
  have mem2 : ∀ {l he}, lastU u2 l = some (some he) → ∃ v, (l, v) ∈ r2 := by
    intro l he h
    refine (h2.ulab l).1 ?_
    cases hm : memL l (u2.map (·.1)) with
    | true => rfl
    | false => rw [lastU_none hm] at h; cases h
  refine ⟨fun l v h => ?_, fun l => ?_, fun l v v' h h' => ?_, fun ρ' hρ l he h => ?_, fun hnd ρ' hρ l l' he he' v v' k h h' hv hv' hk hk' => ?_, by omega⟩
  · rcases List.mem_append.1 h with h | h
    · obtain ⟨q, e, q1, q2⟩ := h1.labs l v h; exact ⟨q, e, q1, by omega⟩
    · obtain ⟨q, e, q1, q2⟩ := h2.labs l v h; exact ⟨q, e, by omega, q2⟩
  · rw [List.map_append, memL_append, Bool.or_eq_true, h1.ulab l, h2.ulab l]
    constructor
    · rintro (⟨v, h⟩ | ⟨v, h⟩)
      · exact ⟨v, List.mem_append.2 (.inl h)⟩
      · exact ⟨v, List.mem_append.2 (.inr h)⟩
    · rintro ⟨v, h⟩
      rcases List.mem_append.1 h with h | h
      · exact .inl ⟨v, h⟩
      · exact .inr ⟨v, h⟩
  · rcases List.mem_append.1 h with h | h <;> rcases List.mem_append.1 h' with h' | h'
    · exact h1.func l v v' h h'
    · exact (apart h h').elim
    · exact (apart h' h).elim
    · exact h2.func l v v' h h'
  · rcases cas h with h | h
    · obtain ⟨v, a, b, d⟩ := h2.ent ρ' (fun l v hl => hρ l v (List.mem_append.2 (.inr hl))) l he h
      exact ⟨v, List.mem_append.2 (.inr a), b, fun k hk => List.mem_append.2 (.inr (d k hk))⟩
    · obtain ⟨v, a, b, d⟩ := h1.ent ρ' (fun l v hl => hρ l v (List.mem_append.2 (.inl hl))) l he h
      exact ⟨v, List.mem_append.2 (.inl a), b, fun k hk => List.mem_append.2 (.inl (d k hk))⟩
  · obtain ⟨nd1, nd2, ndx⟩ := List.nodup_append.1 hnd
    have ag1 : ∀ l v, (l, v) ∈ r1 → ρ' l = some v := fun l v hl => hρ l v (List.mem_append.2 (.inl hl))
    have ag2 : ∀ l v, (l, v) ∈ r2 → ρ' l = some v := fun l v hl => hρ l v (List.mem_append.2 (.inr hl))
    have same : ∀ {l v v'}, (l, v) ∈ r1 ++ r2 → ρ' l = some v' → v = v' := by
      intro l v v' hl hv
      rw [hρ l v hl] at hv; cases hv; rfl
    rcases cas h with g | g <;> rcases cas h' with g' | g'
    · obtain ⟨w, hw⟩ := mem2 g
      obtain ⟨w', hw'⟩ := mem2 g'
      obtain rfl := same hv (ag2 _ _ hw)
      obtain rfl := same hv' (ag2 _ _ hw')
      exact h2.dis nd2 ρ' ag2 l l' he he' _ _ k g g' hw hw' hk hk'
    · obtain ⟨w, hw, _, d⟩ := h2.ent ρ' ag2 l he g
      obtain ⟨w', hw', _, d'⟩ := h1.ent ρ' ag1 l' he' g'
      obtain rfl := same hv (ag2 _ _ hw)
      obtain rfl := same hv' (ag1 _ _ hw')
      exact absurd rfl (ndx k (d' k hk') k (d k hk))
    · obtain ⟨w, hw, _, d⟩ := h1.ent ρ' ag1 l he g
      obtain ⟨w', hw', _, d'⟩ := h2.ent ρ' ag2 l' he' g'
      obtain rfl := same hv (ag1 _ _ hw)
      obtain rfl := same hv' (ag2 _ _ hw')
      exact absurd rfl (ndx k (d k hk) k (d' k hk'))
    · obtain ⟨w, hw⟩ := mem1 g
      obtain ⟨w', hw'⟩ := mem1 g'
      obtain rfl := same hv (ag1 _ _ hw)
      obtain rfl := same hv' (ag1 _ _ hw')
      exact h1.dis nd1 ρ' ag1 l l' he he' _ _ k g g' hw hw' hk hk'

theorem ownF_row {w' : World} {lab c : Nat} {e : TypeId} {K : Kd} {xs : List K.T} {v : Value} (hrow : InRow P w' e K xs v) (hf : K.flat = true) (hn : 0 < K.n) : OwnF P w' lab c (c + 1) [(ol lab c, some (.row false e K xs))] [(ol lab c, v)] v.ownBlock.toList := by
  have one : ∀ {l he}, lastU [(ol lab c, some (HE.row false e K xs))] l = some (some he) → l = ol lab c ∧ he = .row false e K xs := by
    intro l he h
    exact lastU_nones [] (by simp) h
  refine ⟨fun l u h => ?_, fun l => ?_, fun l u u' h h' => ?_, fun ρ' hρ l he h => ?_, fun _ ρ' hρ l l' he he' u u' k h h' _ _ _ _ => ?_, by omega⟩
  · simp only [List.mem_singleton, Prod.mk.injEq] at h
    exact ⟨2 * c + 1, h.1, by omega, by omega⟩
  · rw [memL_iff]; simp
  · simp only [List.mem_singleton, Prod.mk.injEq] at h h'
    rw [h.2, h'.2]
  · obtain ⟨rfl, rfl⟩ := one h
    refine ⟨v, by simp, fun X => ⟨hn, ?_, fun h => by cases h⟩, fun k hk => ?_⟩
    · obtain ⟨fl, ho, hc⟩ := hrow
      exact ⟨fl, ho, fun j x hj => Kd.flat_cells P K hf (hc j x hj)⟩
    · rw [ownB_row, ownBlk_row] at hk
      rw [hk]; simp
  · rw [(one h).1, (one h').1]

theorem ownF_mat {w' : World} {lab c : Nat} {e : TypeId} {ag : Bool} {e1 : TypeId} {K1 : Kd} {xs : List (List K1.T)} {us : List Value} {v : Value} (hmat : MatOK P w' e e1 K1 xs none us v) :
    OwnF P w' lab c (c + 1) [(olv lab c, none), (ol lab c, some (.mat false e ag e1 K1 xs none (olv lab c)))] [(olv lab c, .tuple us.toArray), (ol lab c, v)] (v.ownBlock.toList ++ us.flatMap fun u => u.ownBlock.toList) := by
  have one : ∀ {l he}, lastU [(olv lab c, none), (ol lab c, some (HE.mat false e ag e1 K1 xs none (olv lab c)))] l = some (some he) → l = ol lab c ∧ he = .mat false e ag e1 K1 xs none (olv lab c) := by
    intro l he h
    exact lastU_nones [(olv lab c, none)] (by simp) h
  have hne : ol lab c ≠ olv lab c := by intro h; have := dl_inj h; omega
  refine ⟨fun l u h => ?_, fun l => ?_, fun l u u' h h' => ?_, fun ρ' hρ l he h => ?_, fun _ ρ' hρ l l' he he' u u' k h h' _ _ _ _ => ?_, by omega⟩
  · simp only [List.mem_cons, Prod.mk.injEq, List.not_mem_nil, or_false] at h
    rcases h with h | h
    · exact ⟨2 * c + 2, h.1, by omega, by omega⟩
    · exact ⟨2 * c + 1, h.1, by omega, by omega⟩
  · rw [memL_iff]
    simp only [List.map_cons, List.map_nil, List.mem_cons, List.not_mem_nil, or_false, Prod.mk.injEq]
    constructor
    · rintro (h | h)
      · exact ⟨_, .inl ⟨h, rfl⟩⟩
      · exact ⟨_, .inr ⟨h, rfl⟩⟩
    · rintro ⟨u, h | h⟩
      · exact .inl h.1
      · exact .inr h.1
  · simp only [List.mem_cons, Prod.mk.injEq, List.not_mem_nil, or_false] at h h'
    rcases h with h | h <;> rcases h' with h' | h'
    · rw [h.2, h'.2]
    · exact absurd (h'.1.symm.trans h.1) hne
    · exact absurd (h.1.symm.trans h'.1) hne
    · rw [h.2, h'.2]
  · obtain ⟨rfl, rfl⟩ := one h
    have hu : ρ' (olv lab c) = some (.tuple us.toArray) := hρ _ _ (by simp)
    refine ⟨v, by simp, fun X => ⟨⟨us, hu, hmat⟩, fun h => by cases h⟩, fun k hk => ?_⟩
    rw [List.mem_append]
    rcases (mat_own hu).1 hk with hk | ⟨j, u, _, hj, hk⟩
    · exact .inl (by rw [hk]; simp)
    · exact .inr (List.mem_flatMap.2 ⟨u, List.mem_of_getElem? hj, by rw [hk]; simp⟩)
  · rw [(one h).1, (one h').1]

theorem slO_ok {w' : World} {lab : Nat} {e : TypeId} (c : Nat) : ∀ (K : Kd) (xs : List K.T) (v : Value) (fp : List Nat), slOwn P w' e K xs v fp → (∃ A n q, v = .slice A n q) →
    ∃ r, OwnF P w' lab c (slO lab e K xs c).2.2 (slO lab e K xs c).2.1 r fp ∧ (∀ (ρ' : Lab) X, (∀ l v, (l, v) ∈ r → ρ' l = some v) → RepCs P ρ' X w' (slO lab e K xs c).1 [v]) ∧ (slO lab e K xs c).2.2 = c + 1 := by
  have row : ∀ (K : Kd) (xs : List K.T) (v : Value) (fp : List Nat), InRow P w' e K xs v ∧ K.flat = true ∧ 0 < K.n ∧ fp = v.ownBlock.toList → (∃ A n q, v = .slice A n q) →
      ∃ r, OwnF P w' lab c (c + 1) [(ol lab c, some (.row false e K xs))] r fp ∧ (∀ (ρ' : Lab) X, (∀ l v, (l, v) ∈ r → ρ' l = some v) → RepCs P ρ' X w' [.own (ol lab c)] [v]) ∧ c + 1 = c + 1 := by
    rintro K xs v fp ⟨h1, h2, h3, rfl⟩ hsl
    exact ⟨_, ownF_row h1 h2 h3, fun ρ' X hρ => ⟨v, [], rfl, ⟨hρ _ _ (by simp), hsl⟩, rfl⟩, rfl⟩
  have mat : ∀ (ag : Bool) (e1 : TypeId) (K1 : Kd) (xs : List (List K1.T)) (v : Value) (fp : List Nat), (∃ us : List Value, MatOK P w' e e1 K1 xs none us v ∧ fp = v.ownBlock.toList ++ us.flatMap fun u => u.ownBlock.toList) → (∃ A n q, v = .slice A n q) →
      ∃ r, OwnF P w' lab c (c + 1) [(olv lab c, none), (ol lab c, some (.mat false e ag e1 K1 xs none (olv lab c)))] r fp ∧ (∀ (ρ' : Lab) X, (∀ l v, (l, v) ∈ r → ρ' l = some v) → RepCs P ρ' X w' [.own (ol lab c)] [v]) ∧ c + 1 = c + 1 := by
    rintro ag e1 K1 xs v fp ⟨us, h1, rfl⟩ hsl
    exact ⟨_, ownF_mat h1, fun ρ' X hρ => ⟨v, [], rfl, ⟨hρ _ _ (by simp), hsl⟩, rfl⟩, rfl⟩
  intro K xs v fp h hsl
  cases K with
  | sl e1 K1 => exact mat false e1 K1 xs v fp h hsl
  | agg K =>
    cases K with
    | sl e1 K1 => exact mat true e1 K1 xs v fp h hsl
    | _ => exact row _ xs v fp h hsl
  | _ => exact row _ xs v fp h hsl

theorem flO_ok {w' : World} {lab : Nat} : ∀ (K : Kd) (x : K.T) (cs : List Value) (fp : List Nat), K.ownOK = true → flOwn P w' K x cs fp → ∀ c, ∃ r, OwnF P w' lab c (K.flO lab x c).2.2 (K.flO lab x c).2.1 r fp ∧
    (∀ (ρ' : Lab) X, (∀ l v, (l, v) ∈ r → ρ' l = some v) → RepCs P ρ' X w' (K.flO lab x c).1 cs) ∧ (K.flO lab x c).2.2 ≤ c + K.n
  | .pair A B, x, cs, fp, hok, h, c => by
    obtain ⟨c1, c2, f1, f2, rfl, rfl, h1, h2⟩ := h
    simp only [Kd.ownOK, Bool.and_eq_true] at hok
    obtain ⟨r1, a1, b1, d1⟩ := flO_ok A x.1 c1 f1 hok.1 h1 c
    obtain ⟨r2, a2, b2, d2⟩ := flO_ok B x.2 c2 f2 hok.2 h2 (A.flO lab x.1 c).2.2
    refine ⟨r1 ++ r2, a1.append a2, fun ρ' X hρ => (b1 ρ' X (fun l v hl => hρ l v (List.mem_append.2 (.inl hl)))).append (b2 ρ' X (fun l v hl => hρ l v (List.mem_append.2 (.inr hl)))), ?_⟩
    show (B.flO lab x.2 (A.flO lab x.1 c).2.2).2.2 ≤ c + (A.n + B.n)
    omega
  | .agg K, x, cs, fp, hok, h, c => flO_ok K x cs fp hok h c
  | .sl e K, xs, cs, fp, hok, ⟨v, hv, hsl, h⟩, c => by
    subst hv
    obtain ⟨r, a, b, d⟩ := slO_ok (lab := lab) c K xs v fp h hsl
    exact ⟨r, a, b, by rw [show (Kd.flO lab (.sl e K) xs c).2.2 = (slO lab e K xs c).2.2 from rfl, d]; exact Nat.le_refl _⟩
  | .unit, x, cs, fp, hok, ⟨h1, h2⟩, c => by
    subst h2
    have : cs = [] := h1
    subst this
    exact ⟨[], OwnF.nil, fun ρ' X _ => rfl, by simp [Kd.flO, Kd.n]⟩
  | .int k, x, cs, fp, hok, ⟨h1, h2⟩, c => by
    subst h2
    exact ⟨[], OwnF.nil, fun ρ' X _ => RepCs.of_cells (.int k) (Kd.flat_cells P (.int k) rfl h1), by simp [Kd.flO, Kd.n]⟩
  | .bool, x, cs, fp, hok, ⟨h1, h2⟩, c => by
    subst h2
    exact ⟨[], OwnF.nil, fun ρ' X _ => RepCs.of_cells .bool (Kd.flat_cells P .bool rfl h1), by simp [Kd.flO, Kd.n]⟩
  | .str, x, cs, fp, hok, ⟨h1, h2⟩, c => by
    subst h2
    exact ⟨[], OwnF.nil, fun ρ' X _ => RepCs.of_cells .str (Kd.flat_cells P .str rfl h1), by simp [Kd.flO, Kd.n]⟩
  | .nsl _ _, x, cs, fp, hok, h, c => by cases hok
  | .fn _ _, x, cs, fp, hok, h, c => by cases hok
  | .ptr _ _, x, cs, fp, hok, h, c => by cases hok
  | .seq _, x, cs, fp, hok, h, c => by cases hok
  | .mem _, x, cs, fp, hok, h, c => by cases hok

theorem valO_ok {w' : World} {lab : Nat} (K : Kd) (x : K.T) (v : Value) (fp : List Nat) (hok : K.ownOK = true) (h : valOwn P w' K x v fp) (c : Nat) : ∃ r, OwnF P w' lab c (K.flO lab x c).2.2 (K.flO lab x c).2.1 r fp ∧
    (∀ (ρ' : Lab) X, (∀ l v, (l, v) ∈ r → ρ' l = some v) → RepV1 P ρ' X w' K.isAgg (K.flO lab x c).1 v) ∧ (K.flO lab x c).2.2 ≤ c + K.n := by
  unfold valOwn at h
  cases ha : K.isAgg with
  | true =>
    rw [ha] at h
    obtain ⟨cs, rfl, h⟩ := h
    obtain ⟨r, a, b, d⟩ := flO_ok (lab := lab) K x cs fp hok h c
    exact ⟨r, a, fun ρ' X hρ => ⟨cs, rfl, b ρ' X hρ⟩, d⟩
  | false =>
    rw [ha] at h
    obtain ⟨r, a, b, d⟩ := flO_ok (lab := lab) K x [v] fp hok h c
    refine ⟨r, a, fun ρ' X hρ => ?_, d⟩
    have hb := b ρ' X hρ
    cases hcs : (K.flO lab x c).1 with
    | nil => rw [hcs] at hb; cases hb
    | cons sc rs =>
      rw [hcs] at hb
      obtain ⟨v1, vs, he, h1, h2⟩ := hb
      cases he
      cases rs with
      | nil => exact ⟨sc, rfl, h1⟩
      | cons s2 rs => obtain ⟨_, _, h3, _⟩ := h2; cases h3

theorem compsO_ok {w' : World} {lab : Nat} : ∀ (K : Kd) (x : K.T) (vs : List Value) (fp : List Nat), K.ownOK = true → valsOwn P w' K x vs fp → ∀ c, ∃ r c', OwnF P w' lab c c' (K.compsO lab x c).2 r fp ∧
    (∀ (ρ' : Lab) X, (∀ l v, (l, v) ∈ r → ρ' l = some v) → RepT P ρ' X w' (K.compsO lab x c).1 vs) ∧ c' ≤ c + K.n := by
  have one : ∀ (K : Kd) (x : K.T) (vs : List Value) (fp : List Nat), K.ownOK = true → (∃ v, vs = [v] ∧ valOwn P w' K x v fp) → ∀ c, ∃ r c', OwnF P w' lab c c' (K.flO lab x c).2.1 r fp ∧
      (∀ (ρ' : Lab) X, (∀ l v, (l, v) ∈ r → ρ' l = some v) → RepT P ρ' X w' [(K.isAgg, (K.flO lab x c).1)] vs) ∧ c' ≤ c + K.n := by
    rintro K x vs fp hok ⟨v, rfl, h⟩ c
    obtain ⟨r, a, b, d⟩ := valO_ok (lab := lab) K x v fp hok h c
    exact ⟨r, _, a, fun ρ' X hρ => ⟨v, [], rfl, b ρ' X hρ, rfl⟩, d⟩
  intro K
  induction K with
  | pair A B ihA ihB =>
    rintro x vs fp hok ⟨v, vs', f1, f2, rfl, rfl, h1, h2⟩ c
    simp only [Kd.ownOK, Bool.and_eq_true] at hok
    obtain ⟨r1, a1, b1, d1⟩ := valO_ok (lab := lab) A x.1 v f1 hok.1 h1 c
    obtain ⟨r2, c2, a2, b2, d2⟩ := ihB x.2 vs' f2 hok.2 h2 (A.flO lab x.1 c).2.2
    refine ⟨r1 ++ r2, c2, a1.append a2, fun ρ' X hρ => ⟨v, vs', rfl, b1 ρ' X (fun l v hl => hρ l v (List.mem_append.2 (.inl hl))), b2 ρ' X (fun l v hl => hρ l v (List.mem_append.2 (.inr hl)))⟩, ?_⟩
    show c2 ≤ c + (A.n + B.n)
    omega
  | unit =>
    rintro x vs fp hok ⟨rfl, rfl⟩ c
    exact ⟨[], c, OwnF.nil, fun ρ' X _ => rfl, by omega⟩
  | _ => intro x vs fp hok h c; exact one _ x vs fp hok h c

theorem retO_ok {w' : World} {lab : Nat} (R : Kd) (x : R.T) (v : Value) (fp : List Nat) (hok : R.ownOK = true) (h : retOwn P w' R x v fp) : ∃ r c', OwnF P w' lab 0 c' (retO lab R x).2 r fp ∧
    (∀ (ρ' : Lab) X, (∀ l v, (l, v) ∈ r → ρ' l = some v) → RepV P ρ' X w' (retO lab R x).1 v) ∧ c' ≤ R.n := by
  have one : ∀ (K : Kd) (x : K.T), K.ownOK = true → valOwn P w' K x v fp → ∃ r c', OwnF P w' lab 0 c' (K.flO lab x 0).2.1 r fp ∧
      (∀ (ρ' : Lab) X, (∀ l v, (l, v) ∈ r → ρ' l = some v) → RepV P ρ' X w' (.mk K.isAgg (K.flO lab x 0).1) v) ∧ c' ≤ K.n := by
    intro K x hok h
    obtain ⟨r, a, b, d⟩ := valO_ok (lab := lab) K x v fp hok h 0
    exact ⟨r, _, a, fun ρ' X hρ => b ρ' X hρ, by omega⟩
  cases R with
  | pair A B =>
    obtain ⟨vs, rfl, h⟩ := h
    obtain ⟨r, c', a, b, d⟩ := compsO_ok (lab := lab) (.pair A B) x vs fp hok h 0
    exact ⟨r, c', a, fun ρ' X hρ => ⟨vs, rfl, b ρ' X hρ⟩, by omega⟩
  | unit =>
    obtain ⟨rfl, rfl⟩ := h
    exact ⟨[], 0, OwnF.nil, fun ρ' X _ => ⟨[], rfl, rfl⟩, Nat.zero_le _⟩
  | _ => exact one _ x hok h

def Lab.puts (ρ : Lab) : List (Nat × Value) → Lab
  | [] => ρ
  | p :: r => (Lab.puts ρ r).put p.1 p.2

theorem puts_mem {ρ : Lab} : ∀ {r : List (Nat × Value)}, (∀ l v v', (l, v) ∈ r → (l, v') ∈ r → v = v') → ∀ l v, (l, v) ∈ r → (ρ.puts r) l = some v
  | p :: r, hf, l, v, h => by
    show ((ρ.puts r).put p.1 p.2) l = some v
    by_cases hl : l = p.1
    · subst hl
      rw [Lab.put_same, hf p.1 v p.2 h List.mem_cons_self]
    · rw [Lab.put_other _ _ hl]
      rcases List.mem_cons.1 h with h | h
      · subst h; exact absurd rfl hl
      · exact puts_mem (fun l v v' h h' => hf l v v' (List.mem_cons_of_mem _ h) (List.mem_cons_of_mem _ h')) l v h

theorem puts_other {ρ : Lab} : ∀ {r : List (Nat × Value)} {l : Nat}, (∀ v, (l, v) ∉ r) → (ρ.puts r) l = ρ l
  | [], _, _ => rfl
  | p :: r, l, h => by
    show ((ρ.puts r).put p.1 p.2) l = ρ l
    have hl : l ≠ p.1 := by rintro rfl; exact h p.2 List.mem_cons_self
    rw [Lab.put_other _ _ hl]
    exact puts_other (fun v hv => h v (List.mem_cons_of_mem _ hv))

theorem post_own (m : Mt P glb Bk X0 w0 st ρ a W) (hfr : freshL lab st.dom = true) (R : Kd) (hok : R.ownOK = true) (hn : R.n ≤ 1000) {k : R.T → Prop} (hk : ∀ r, k r → Q (retO lab R r).1 (retO lab R r).2) {e : Ending} {w' : World}
    (h : PostO P R W k e w') : ∃ v, e = .returned v ∧ Fits P glb Bk X0 w0 st ρ a W Q v w' := by
  obtain ⟨x, v, fp, rfl, hret, hnd, hlo, hb, hx⟩ := h
  obtain ⟨r, c', hF, hrep, hc'⟩ := retO_ok (lab := lab) R x v fp hok hret
  have hag := puts_mem (ρ := ρ) hF.func
  have hnew : ∀ l v, (l, v) ∈ r → memL l st.dom = false := by
    intro l v hl
    obtain ⟨q, rfl, _, hq⟩ := hF.labs l v hl
    exact (freshL_spec hfr).2 q (by omega)
  have hle : ρ.le (ρ.puts r) := by
    intro l u hu
    rw [puts_other (fun v hv => ?_)]; exact hu
    have := hnew l v hv
    rw [m.dom l u hu] at this; cases this
  have noHp : ∀ l, memL l ((retO lab R x).2.map (·.1)) = true → ∀ he s, st.hp l ≠ some (he, s) := by
    intro l hl he s hh
    obtain ⟨v, hv⟩ := (hF.ulab l).1 hl
    exact m.nolab (hnew l v hv) he s hh
  obtain ⟨m', _⟩ := m.multiM (ρ' := ρ.puts r) (W' := w') (retO lab R x).2 (fun l he s hl h => absurd h (noHp l hl he s)) hle (fun l u hu => by
      by_cases hl : ∃ v, (l, v) ∈ r
      · exact .inr ((hF.ulab l).2 hl)
      · rw [puts_other (fun v hv => hl ⟨v, hv⟩)] at hu; exact .inl hu) hb.os hb.tape hb.output hb.size (fun k hk _ hn => hb.block k hk hn) (fun mm xs hp hg => hb.memo mm xs (hp.mono fun _ _ hk hn => hn (cells_lt hk)) hg) (fun l he u k hl hu hk' => by
      obtain ⟨w, hw, h1, h2⟩ := hF.ent _ hag l he hl
      rw [hag l w hw] at hu; cases hu
      exact ⟨((h1 (fun _ => False)).lt hk').2, .inl (hlo k (h2 k hk'))⟩) (fun ev l he hl => by
      obtain ⟨w, hw, h1, h2⟩ := hF.ent _ hag l he hl
      exact ⟨w, hag l w hw, h1 _⟩) (fun l l' he he' u u' k hl hl' hu hu' hk1 hk2 => by
      obtain ⟨w, hw, _, _⟩ := hF.ent _ hag l he hl
      obtain ⟨w', hw', _, _⟩ := hF.ent _ hag l' he' hl'
      rw [hag l w hw] at hu; cases hu
      rw [hag l' w' hw'] at hu'; cases hu'
      exact hF.dis hnd _ hag l l' he he' _ _ k hl hl' hw hw' hk1 hk2)
  exact ⟨v, rfl, (retO lab R x).1, _, ρ.puts r, hk x hx, hle, m', hrep _ _ hag, hb.size⟩

theorem mkOr_ok {o : Option (TypeId × FuncId)} {k : TypeId × FuncId → Prop} {p : Prop} (h : mkOr o k p) : (∃ x, o = some x ∧ k x) ∨ p := by
  cases o with
  | none => exact .inr h
  | some x => exact .inl ⟨x, rfl, h⟩

theorem sem_mk (hS : StatOK P S) (hct : CtOK P glb S) (hg : S.glb = glb) (m : Mt P glb Bk X0 w0 st ρ a W) (hlab : memL lab st.dom = false) {cl : Call} {f : Operand} (hop : o.op = .call cl) (hcal : cl.callee = .value f) {g : FuncId} {p : TypeId × FuncId} (hp : S.mkr g = some p) {cs : List Cap}
    (hf : RepC P ρ (Xs st ρ X0) W (.clo g cs) (a.eval f)) (h : mkS S st lab p cs cl.args.toList cl.argTypes.toList Q) : OpOut P o a W (Fits P glb Bk X0 w0 st ρ a W Q) := by
  unfold mkS at h
  split at h
  · rename_i x t hargs htys
    obtain ⟨ds, hQ, hds⟩ := cellsOf_ok h (ev_ok hS hg m t x)
    obtain ⟨vs, hfv, hvs⟩ := hf
    have hvs : vs = [] := hvs
    subst hvs
    obtain ⟨hE, hcall⟩ := hct.mkr g p hp
    refine .inr (.inr ⟨g, _, run_call cl hop f hcal g #[] #[] hfv hE, ?_⟩)
    rw [hargs]
    have : #[] ++ ([x].map a.eval).toArray ++ #[] = #[a.eval x] := by simp
    rw [this]
    refine (hcall W (a.eval x)).mono fun e w' hw => ?_
    obtain ⟨b, rfl, hb, hc, hbl⟩ := hw
    refine ⟨_, rfl, Fits.new m hlab _ (.pointer (some ⟨b, 0, none⟩)) hbl (fun k hk => ?_) (fun ev _ => ?_) hQ (fun X hρ => ⟨_, rfl, [.pointer (some ⟨b, 0, none⟩)], rfl, _, [], rfl, ⟨hρ, b, rfl⟩, rfl⟩)⟩
    · rw [ownB_box] at hk
      simp only [ownBlk, Option.some.injEq] at hk
      subst hk
      exact ⟨hb, (Array.getElem?_eq_some_iff.1 hc).1⟩
    · exact ⟨b, _, rfl, hc, hds.mono (m.le_put hlab _) ev, fun h => (by cases h), fun _ => Nat.zero_le _⟩
  · exact h.elim

theorem orK_ok {α : Type} {o : Option α} {k : α → Prop} {p : Prop} (h : orK o k p) : (∃ x, o = some x ∧ k x) ∨ p := by
  cases o with
  | none => exact .inr h
  | some x => exact .inl ⟨x, rfl, h⟩
theorem inRow_of {W : World} {e : TypeId} {K : Kd} {xs : List K.T} {v : Value} {nn : Bool} {X : Nat → Prop} (hf : K.flat = true) (h : HEok P 0 ρ X W (.row nn e K xs) v) : InRow P W e K xs v := by
  obtain ⟨_, ⟨flat, ho, hc⟩, _⟩ := h
  exact ⟨flat, ho, fun i x hx => Kd.flat_cells P K hf (hc i x hx)⟩
theorem row_of_inRow {W : World} {e : TypeId} {K : Kd} {xs : List K.T} {v : Value} {nn : Bool} {X : Nat → Prop} (hf : K.flat = true) (hn : 0 < K.n) (hnn : nn = true → ∃ a n c, v = .slice (some a) n c) (h : InRow P W e K xs v) : HEok P 0 ρ X W (.row nn e K xs) v := by
  obtain ⟨flat, ho, hc⟩ := h
  exact ⟨hn, ⟨flat, ho, fun i x hx => Kd.flat_cells P K hf (hc i x hx)⟩, hnn⟩
theorem ownBlk_rowV (nn : Bool) (e : TypeId) (K : Kd) (xs : List K.T) (v : Value) : ownBlk (.row nn e K xs) v = v.ownBlock := by
  cases v with
  | slice A n c => cases A <;> rfl
  | _ => rfl
theorem sem_io (hS : StatOK P S) (hct : CtOK P glb S) (hg : S.glb = glb) (m : Mt P glb Bk X0 w0 st ρ a W) {cl : Call} {f : Operand} (hop : o.op = .call cl) (hcal : cl.callee = .value f) {g : FuncId} {c : CtW} (hw : S.io g = some c) {cs : List Cap} (hc : RepC P ρ (Xs st ρ X0) W (.clo g cs) (a.eval f))
    (h : ioS S dr st c cs cl.args.toList cl.argTypes.toList Q) : OpOut P o a W (Fits P glb Bk X0 w0 st ρ a W Q) := by
  obtain ⟨vs, hfv, hcaps⟩ := hc
  have hok := hct.io g c hw
  unfold ioS at h
  split at h
  case h_2 => exact h.elim
  rename_i x xs t ts hargs htys
  obtain ⟨d, h2, hd⟩ := oneC_ok h (ev_ok hS hg m t x)
  clear h
  split at h2
  case h_2 => exact h2.elim
  rename_i l
  split at h2
  case h_2 => exact h2.elim
  rename_i nn e K ys hl
  obtain ⟨hb, h3⟩ := chk_iff.1 h2
  simp only [Bool.and_eq_true] at hb
  obtain ⟨⟨⟨he, hfl⟩, hn⟩, hRf⟩ := hb
  have he2 := Nat.eq_of_beq_eq_true he
  have hn2 := Nat.le_of_ble_eq_true hn
  clear he hn
  split at h3
  case isFalse => exact h3.elim
  rename_i hK
  obtain ⟨cE, cK, cA, cC, cR, cwp⟩ := c
  simp only at he2 hK hRf h3
  subst hK; subst he2
  have hn := hn2
  obtain ⟨⟨p, l1⟩, hp, h4⟩ := optK_ok h3
  obtain ⟨⟨q, l2⟩, hq, h5⟩ := optK_ok h4
  obtain ⟨hnl, h6⟩ := chk_iff.1 h5
  obtain ⟨k', hk1, hk2⟩ := giv_ok h6
  have hnl : memL l (l1 ++ l2) = false := by simpa using hnl
  have hrest := evAll_from hS hg m ts xs 0
  have vx := decArgs_ok (Z := fun l => memL l (l1 ++ l2)) (dec1_ok m hct fuel) cA _ p l1 _ hp hrest (fun l hl => memL_mem (List.mem_append.2 (.inl hl)))
  have vy := capsD_ok (Z := fun l => memL l (l1 ++ l2)) (dec1_ok m hct fuel) cC cs q l2 vs hq hcaps (fun l hl => memL_mem (List.mem_append.2 (.inr hl)))
  have ev := m.evoZ (fun l => memL l (l1 ++ l2))
  obtain ⟨s, hs⟩ := look_some hl
  obtain ⟨v, hv, hrow⟩ := m.hps l _ s hs
  obtain ⟨hρ, _⟩ := hd
  rw [hv] at hρ
  have hρ : a.eval x = v := (Option.some.inj hρ).symm
  have hin := inRow_of hfl hrow
  have hnn := hrow.2.2
  have hownv : ∀ k, v.ownBlock = some k → OwnB ρ (.row nn e K ys) v k := by
    intro k hk
    exact .inl ((ownBlk_rowV ..).trans hk)
  refine .inr (.inr ⟨g, _, run_call cl hop f hcal g #[] vs.toArray hfv hok.enters, ?_⟩)
  have hcall := hok.calls _ W ys v p q _ vs ev.low (fun k hk => .inr ⟨l, _, s, v, hnl, hs, hv, hownv k hk⟩) (m.glbX.evo ev) hin hn hfl vx vy (fun r zs => k' (r, zs)) hk1
  have : #[] ++ (cl.args.toList.map a.eval).toArray ++ vs.toArray = (v :: xs.map a.eval ++ vs).toArray := by rw [hargs, List.map_cons, hρ]; simp
  rw [this]
  refine hcall.mono fun en w' hpw => ?_
  obtain ⟨r, u, zs, rfl, hret, hinr, hgr, hQk⟩ := hpw
  have hQ := hk2 _ hQk
  refine ⟨_, rfl, _, _, ρ, hQ, ρ.le_refl, m.updR hs hv hownv rfl _ (fun k hk => ?_) hgr (fun ee => row_of_inRow hfl hn hnn hinr), ?_, hgr.size⟩
  · rw [ownB_row, ownBlk_rowV] at hk ⊢
    exact hk
  · exact RepV.of_ret cR (Kd.flat_ret P cR hRf hret)
theorem sem_hov (hS : StatOK P S) (hct : CtOK P glb S) (hg : S.glb = glb) (m : Mt P glb Bk X0 w0 st ρ a W) (hlab : memL lab st.dom = false) {cl : Call} {f : Operand} (hop : o.op = .call cl) (hcal : cl.callee = .value f) {g : FuncId} {c : CtH} (hw : S.hov g = some c) {cs : List Cap} (hc : RepC P ρ (Xs st ρ X0) W (.clo g cs) (a.eval f))
    (h : hovS S dr st lab c cs cl.args.toList cl.argTypes.toList Q) : OpOut P o a W (Fits P glb Bk X0 w0 st ρ a W Q) := by
  obtain ⟨vs, hfv, hcaps⟩ := hc
  have hok := hct.hov g c hw
  unfold hovS at h
  split at h
  case h_2 => exact h.elim
  rename_i x xs t ts hargs htys
  obtain ⟨d, h2, hd⟩ := oneC_ok h (ev_ok hS hg m t x)
  clear h
  split at h2
  case h_3 => exact h2.elim
  case h_2 =>
    obtain ⟨hb, h3⟩ := chk_iff.1 h2
    simp only [Bool.and_eq_true] at hb
    obtain ⟨hfl, hn⟩ := hb
    have hn := Nat.le_of_ble_eq_true hn
    have hρ : a.eval x = .slice none 0 0 := hd
    obtain ⟨⟨p, l1⟩, hp, h4⟩ := optK_ok h3
    obtain ⟨⟨q, l2⟩, hq, h5⟩ := optK_ok h4
    obtain ⟨k', hk1, hk2⟩ := giv_ok h5
    have hrest := evAll_from hS hg m ts xs 0
    have vx := decArgs_ok (Z := fun l => memL l (l1 ++ l2)) (dec1_ok m hct fuel) c.A _ p l1 _ hp hrest (fun l hl => memL_mem (List.mem_append.2 (.inl hl)))
    have vy := capsD_ok (Z := fun l => memL l (l1 ++ l2)) (dec1_ok m hct fuel) c.C cs q l2 vs hq hcaps (fun l hl => memL_mem (List.mem_append.2 (.inr hl)))
    have ev := m.evoZ (fun l => memL l (l1 ++ l2))
    refine .inr (.inr ⟨g, _, run_call cl hop f hcal g #[] vs.toArray hfv hok.enters, ?_⟩)
    have hcall := hok.calls _ W [] (.slice none 0 0) p q _ vs ev.low (fun k hk => by cases hk) (m.glbX.evo ev) ⟨[], World.ownsRow_nil W _ _ _, fun j x hx => by simp at hx⟩ hn hfl vx vy k' hk1
    have : #[] ++ (cl.args.toList.map a.eval).toArray ++ vs.toArray = (.slice none 0 0 :: xs.map a.eval ++ vs).toArray := by rw [hargs, List.map_cons, hρ]; simp
    rw [this]
    refine hcall.mono fun en w' hpw => ?_
    obtain ⟨u, zs, rfl, hinr, hsl, hub, hgr, hQk⟩ := hpw
    have hQ := hk2 _ hQk
    have hbel : Below W.heap.size W w' := ⟨hgr.os, hgr.tape, hgr.output, hgr.size, fun k hk => hgr.block k hk (fun e => by cases e)⟩
    refine ⟨_, rfl, Fits.new m hlab _ u hbel (fun k hk => ?_) (fun ee _ => row_of_inRow hfl hn (fun h => by cases h) hinr) hQ (fun X hρ => ⟨_, rfl, hρ, hsl⟩)⟩
    rw [ownB_row, ownBlk_rowV] at hk
    refine ⟨(hub k hk).resolve_left (fun h => by cases h), ?_⟩
    obtain ⟨fl, ho, _⟩ := hinr
    exact (ho.lt k hk).2
  rename_i l
  split at h2
  case h_2 => exact h2.elim
  rename_i nn e K ys hl
  obtain ⟨hb, h3⟩ := chk_iff.1 h2
  simp only [Bool.and_eq_true] at hb
  obtain ⟨⟨he, hfl⟩, hn⟩ := hb
  have he2 := Nat.eq_of_beq_eq_true he
  have hn2 := Nat.le_of_ble_eq_true hn
  clear he hn
  split at h3
  case isFalse => exact h3.elim
  rename_i hK
  obtain ⟨cE, cK, cA, cC, cwp⟩ := c
  simp only at he2 hK h3
  subst hK; subst he2
  have hn := hn2
  obtain ⟨⟨p, l1⟩, hp, h4⟩ := optK_ok h3
  obtain ⟨⟨q, l2⟩, hq, h5⟩ := optK_ok h4
  obtain ⟨hnl, h6⟩ := chk_iff.1 h5
  obtain ⟨k', hk1, hk2⟩ := giv_ok h6
  have hnl : memL l (l1 ++ l2) = false := by simpa using hnl
  have hrest := evAll_from hS hg m ts xs 0
  have vx := decArgs_ok (Z := fun l => memL l (l1 ++ l2)) (dec1_ok m hct fuel) cA _ p l1 _ hp hrest (fun l hl => memL_mem (List.mem_append.2 (.inl hl)))
  have vy := capsD_ok (Z := fun l => memL l (l1 ++ l2)) (dec1_ok m hct fuel) cC cs q l2 vs hq hcaps (fun l hl => memL_mem (List.mem_append.2 (.inr hl)))
  have ev := m.evoZ (fun l => memL l (l1 ++ l2))
  obtain ⟨s, hs⟩ := look_some hl
  obtain ⟨v, hv, hrow⟩ := m.hps l _ s hs
  obtain ⟨hρ, _⟩ := hd
  rw [hv] at hρ
  have hρ : a.eval x = v := (Option.some.inj hρ).symm
  have hin := inRow_of hfl hrow
  have hownv : ∀ k, v.ownBlock = some k → OwnB ρ (.row nn e K ys) v k := by
    intro k hk
    exact .inl ((ownBlk_rowV ..).trans hk)
  refine .inr (.inr ⟨g, _, run_call cl hop f hcal g #[] vs.toArray hfv hok.enters, ?_⟩)
  have hcall := hok.calls _ W ys v p q _ vs ev.low (fun k hk => .inr ⟨l, _, s, v, hnl, hs, hv, hownv k hk⟩) (m.glbX.evo ev) hin hn hfl vx vy k' hk1
  have : #[] ++ (cl.args.toList.map a.eval).toArray ++ vs.toArray = (v :: xs.map a.eval ++ vs).toArray := by rw [hargs, List.map_cons, hρ]; simp
  rw [this]
  refine hcall.mono fun en w' hpw => ?_
  obtain ⟨u, zs, rfl, hinr, hsl, hub, hgr, hQk⟩ := hpw
  have hQ := hk2 _ hQk
  have hvlt : ∀ k, v.ownBlock = some k → k < W.heap.size := fun k hk => (hrow.lt (hownv k hk)).2
  refine ⟨_, rfl, _, _, ρ.put lab u, hQ, m.le_put hlab u, m.turn hlab hs hv rfl _ u (fun k hk => hownv k (by rw [← ownBlk_rowV nn e K ys]; exact hk)) (by rw [ownBlk_rowV]; exact hgr) (fun k hk => ?_) (fun ee => row_of_inRow hfl hn (fun h => by cases h) hinr), ?_, hgr.size⟩
  · rw [ownB_row, ownBlk_rowV] at hk
    rw [ownBlk_rowV]
    obtain ⟨fl, ho, _⟩ := hinr
    exact ⟨(ho.lt k hk).2, (hub k hk).symm⟩
  · exact ⟨_, rfl, Lab.put_same _ _ _, hsl⟩
theorem sem_call (hS : StatOK P S) (hct : CtOK P glb S) (hg : S.glb = glb) (m : Mt P glb Bk X0 w0 st ρ a W) (hfr : freshL lab st.dom = true) {cl : Call} {f : Operand} (hop : o.op = .call cl) (hcal : cl.callee = .value f)
    (h : oneC (ev S st 0 f) fun g => match g with
        | .clo f cs => cond (S.clip f && cs.isEmpty) (clipS S st cl.args.toList cl.argTypes.toList Q) <| cond (S.inl f && cs.isEmpty) (inlS S st cl.args.toList cl.argTypes.toList Q) <| mkOr (S.mkr f) (fun p => mkS S st lab p cs cl.args.toList cl.argTypes.toList Q) <| orK (S.io f) (fun w => ioS S dr st w cs cl.args.toList cl.argTypes.toList Q) <| orK (S.hov f) (fun w => hovS S dr st lab w cs cl.args.toList cl.argTypes.toList Q) <| optK (S.ct f) fun ct => optK (decArgs (dec1 S st.look fuel) ct.A (evAll S st cl.argTypes.toList cl.args.toList)) fun p => optK (capsD (dec1 S st.look fuel) ct.C cs) fun q =>
            callS dr st.look lab ct p.1 q.1 (p.2 ++ q.2) Q
        | .d (.fn A R) g => optK (decArgs (dec1 S st.look fuel) A (evAll S st cl.argTypes.toList cl.args.toList)) fun p =>
            chk (R.flat || noLn st.look p.2) (giv dr ((show A.T → (R.T → Prop) → Prop from g) p.1) fun r => Q (retv R r) (if R.flat then [] else frz st.look p.2))
        | _ => False) : OpOut P o a W (Fits P glb Bk X0 w0 st ρ a W Q) := by
  obtain ⟨c, h1, hc⟩ := oneC_ok h (ev_ok hS hg m 0 f)
  clear h
  have hargs := evAll_from hS hg m cl.argTypes.toList cl.args.toList 0
  cases c with
  | clo g cs =>
    simp only at h1
    cases hclip : (S.clip g && cs.isEmpty) with
    | true =>
      rw [hclip, cond_true] at h1
      simp only [Bool.and_eq_true, List.isEmpty_iff] at hclip
      obtain ⟨hclip, rfl⟩ := hclip
      unfold clipS at h1
      split at h1
      · rename_i x t hargs' htys
        obtain ⟨d, h2, hd⟩ := oneC_ok h1 (ev_ok hS hg m t x)
        obtain ⟨⟨K, xs, ls⟩, hsl, h3⟩ := optK_ok h2
        obtain ⟨hln, hQ⟩ := chk_iff.1 h3
        obtain ⟨vs, hfv, hvs⟩ := hc
        have hvs : vs = [] := hvs
        subst hvs
        obtain ⟨hE, hcall⟩ := hct.clip g hclip
        obtain ⟨A, c, hv, hlc, hcm, hrow⟩ := slData_ok m hsl hd (fun l => memL l ls) (fun l hl => memL_mem hl) 0
        refine .inr (.inr ⟨g, _, run_call cl hop f hcal g #[] #[] hfv hE, ?_⟩)
        rw [hargs']
        have : #[] ++ ([x].map a.eval).toArray ++ #[] = #[a.eval x] := by simp
        rw [this, hv]
        refine (hcall W A xs.length c hlc).mono fun e w' hw => ?_
        obtain ⟨⟨A', rfl, hA'⟩, hb⟩ := hw
        refine ⟨_, rfl, Fits.frz m ls hln hb hQ (fun Xn e1 e2 hXn => ⟨_, rfl, ⟨_, rfl⟩, cells_of_val (K := .sl 0 K) ⟨_, _, rfl, Nat.le_refl _, Nat.le_trans hlc hcm, fun hne => ?_⟩ rfl⟩)⟩
        obtain rfl := hA' (List.length_pos_iff.2 hne)
        exact RowAt.stands (Kd.stands P K) e2 hrow hne
      · exact h1.elim
    | false =>
    rw [hclip, cond_false] at h1
    cases hinl : (S.inl g && cs.isEmpty) with
    | true =>
      rw [hinl, cond_true] at h1
      simp only [Bool.and_eq_true, List.isEmpty_iff] at hinl
      obtain ⟨hinl, rfl⟩ := hinl
      unfold inlS at h1
      split at h1
      · rename_i x t hargs' htys
        obtain ⟨d, hQ, hd⟩ := oneC_ok h1 (ev_ok hS hg m t x)
        obtain ⟨vs, hfv, hvs⟩ := hc
        have hvs : vs = [] := hvs
        subst hvs
        obtain ⟨hE, hcall⟩ := hct.inl g hinl
        refine .inr (.inr ⟨g, _, run_call cl hop f hcal g #[] #[] hfv hE, ?_⟩)
        rw [hargs']
        have : #[] ++ ([x].map a.eval).toArray ++ #[] = #[a.eval x] := by simp
        rw [this]
        refine (hcall W (a.eval x) hd.one).mono fun e w' hw => ?_
        obtain ⟨rfl, hb⟩ := hw
        exact ⟨_, rfl, .mk true [d], [], ρ, hQ, ρ.le_refl, m.below hb, ⟨[a.eval x], rfl, a.eval x, [], rfl, hd.mono ρ.le_refl (m.evoBelow hb), rfl⟩, hb.size⟩
      · exact h1.elim
    | false =>
    rw [hinl, cond_false] at h1
    rcases mkOr_ok h1 with ⟨p, hp, hmk⟩ | h1
    · exact sem_mk hS hct hg m (freshL_spec hfr).1 hop hcal hp hc hmk
    rcases orK_ok h1 with ⟨w, hw, hio⟩ | h1
    · exact sem_io hS hct hg m hop hcal hw hc hio
    rcases orK_ok h1 with ⟨w, hw, hio⟩ | h1
    · exact sem_hov hS hct hg m (freshL_spec hfr).1 hop hcal hw hc hio
    obtain ⟨ct, hcg, h2⟩ := optK_ok h1
    obtain ⟨⟨x, l1⟩, hx, h3⟩ := optK_ok h2
    obtain ⟨⟨y, l2⟩, hy, h4⟩ := optK_ok h3
    obtain ⟨vs, hf, hcaps⟩ := hc
    have hok := hct.ct g ct hcg
    have vx := decArgs_ok (Z := fun l => memL l (l1 ++ l2)) (dec1_ok m hct fuel) ct.A _ x l1 _ hx hargs (fun l hl => memL_mem (List.mem_append.2 (.inl hl)))
    have vy := capsD_ok (Z := fun l => memL l (l1 ++ l2)) (dec1_ok m hct fuel) ct.C cs y l2 vs hy hcaps (fun l hl => memL_mem (List.mem_append.2 (.inr hl)))
    have e := m.evoZ (fun l => memL l (l1 ++ l2))
    refine .inr (.inr ⟨g, _, run_call cl hop f hcal g #[] vs.toArray hf hok.enters, ?_⟩)
    have : #[] ++ (cl.args.toList.map a.eval).toArray ++ vs.toArray = (cl.args.toList.map a.eval ++ vs).toArray := by simp
    rw [this]
    unfold callS at h4
    cases hown : ct.own with
    | true =>
      rw [hown] at h4
      obtain ⟨hok2, h4⟩ := chk_iff.1 h4
      simp only [Bool.and_eq_true] at hok2
      obtain ⟨k', hk1, hk2⟩ := giv_ok h4
      have hcall := hok.calls _ W x y _ vs e.low (m.glbX.evo e) vx vy k' hk1
      rw [hown] at hcall
      exact hcall.mono fun e w' hp => post_own m hfr ct.R hok2.1 (Nat.le_of_ble_eq_true hok2.2) (fun r hr => hk2 r hr) hp
    | false =>
    rw [hown] at h4
    cases hfr : ct.fresh with
    | true =>
      rw [hfr] at h4
      obtain ⟨k', hk1, hk2⟩ := giv_ok h4
      have hcall := hok.calls _ W x y _ vs e.low (m.glbX.evo e) vx vy k' hk1
      rw [hown, hfr] at hcall
      exact hcall.mono fun e w' hp => post_fresh m ct.R (fun r hr => hk2 r hr) hp
    | false =>
      rw [hfr] at h4
      obtain ⟨hln, h5⟩ := chk_iff.1 h4
      obtain ⟨k', hk1, hk2⟩ := giv_ok h5
      have hcall := hok.calls _ W x y _ vs e.low (m.glbX.evo e) vx vy k' hk1
      rw [hown] at hcall
      exact hcall.mono fun en w' hp => post_fits m ct.R (l1 ++ l2) hln (fun r hr => hk2 r hr) (Post.weak P e.low hp)
  | d K g =>
    cases K with
    | fn A R =>
      simp only at h1
      obtain ⟨⟨x, l1⟩, hx, h2⟩ := optK_ok h1
      obtain ⟨hln, h3⟩ := chk_iff.1 h2
      obtain ⟨k', hk1, hk2⟩ := giv_ok h3
      obtain ⟨v, hv, _, _, hcl⟩ := hc
      cases hv
      have vx := decArgs_ok (Z := fun l => memL l l1) (dec1_ok m hct fuel) A _ x l1 _ hx hargs (fun l hl => memL_mem hl)
      have e := m.evoZ (fun l => memL l l1)
      obtain ⟨fn, fi, cap, hf, hE, hcall⟩ := hcl _ _ e x _ vx k' hk1
      refine .inr (.inr ⟨fn, _, run_call cl hop f hcal fn fi cap hf hE, ?_⟩)
      exact hcall.mono fun e w' hp => post_fits m R l1 hln (fun r hr => hk2 r hr) hp
    | _ => exact h1.elim
  | _ => exact h1.elim

theorem sem_ok (hS : StatOK P S) (hct : CtOK P glb S) (hg : S.glb = glb) (m : Mt P glb Bk X0 w0 st ρ a W) (hfr : freshL lab st.dom = true) (h : sem S dr st lab o Q) : OpOut P o a W (Fits P glb Bk X0 w0 st ρ a W Q) ∧ ∀ c, o.op ≠ .defer c := by
  have hlab := (freshL_spec hfr).1
  have hvl := freshL_vlab hfr
  refine ⟨?_, fun c hc => by rw [sem, hc] at h; exact h⟩
  have h0 := h
  unfold sem at h
  cases hop : o.op with
  | move x => rw [hop] at h; exact sem_move hS hg m (.inl hop) h
  | assign x => rw [hop] at h; exact sem_move hS hg m (.inr hop) h
  | pick c x y => rw [hop] at h; exact sem_pick hS hg m hop h
  | alloc e => rw [hop] at h; exact sem_alloc hS m hlab hop h
  | box e x => rw [hop] at h; exact sem_box hS hg m hlab hop h
  | build t ps => rw [hop] at h; exact sem_build hS hg m hop h
  | buildSlice t n ps => rw [hop] at h; exact sem_buildSlice hS hct hg m hlab hvl hop h
  | load t x => rw [hop] at h; exact sem_load hS hg m hop h
  | store t x y => rw [hop] at h; exact sem_store hS hct hg m hvl hop h
  | nilCheck x => rw [hop] at h; exact sem_nilCheck hS hg m hop h
  | binOp op t x y t' => rw [hop] at h; exact sem_bin hS hg m hop h
  | unOp op t x => rw [hop] at h; exact sem_un hS hg m hop h
  | convert t0 t x => rw [hop] at h; exact sem_convert hS hg m hop h
  | makeFunc fn fi caps =>
    rw [hop] at h
    cases fn with
    | func f =>
      rcases orK_ok h with ⟨it, hi, h⟩ | h
      · exact sem_itm hS hct hg m hop hi h
      · exact sem_makeFunc hS hg m hop h
    | _ => exact h.elim
  | lookup t x ix ok =>
    rw [hop] at h
    rcases isMp_ok h with ⟨l, q, K, es, h1, h2, h3⟩ | h
    · exact sem_lookE hS hg m hop h1 h2 h3
    · exact sem_lookup hS hct hg m hop h
  | mapUpdate t x k v =>
    rw [hop] at h
    rcases isMp_ok h with ⟨l, q, K, es, h1, h2, h3⟩ | h
    · exact sem_updE hS hct hg m hop h1 h2 h3
    · exact sem_mapUpdate hS hct hg m hop h
  | makeMap t r =>
    rw [hop] at h
    cases r with
    | none => exact sem_makeMap hS m hlab hop h
    | some r => exact h.elim
  | makeSlice t l c => rw [hop] at h; exact sem_makeSlice hS hg m hlab hop h
  | slice t x lo hi mx =>
    rw [hop] at h
    rcases mkOr_ok h with ⟨p, hp, h⟩ | h
    · exact sem_arrSl hS hg m hop hp h
    · exact sem_slice hS hg m hop h
  | fieldAddr t x f => rw [hop] at h; exact sem_fieldAddr hS hg m hop h
  | field t x f => rw [hop] at h; exact sem_field hS hg m hop h
  | indexAddr t x ix => rw [hop] at h; exact sem_indexAddr hS hg m hop h
  | index t x ix =>
    rw [hop] at h
    rcases orK_ok h with ⟨p, hp, h⟩ | h
    · exact sem_index hS hg m hop (by rw [hp]; exact h)
    · exact sem_strIx hS hg m hop h
  | extract t ix => rw [hop] at h; exact sem_extract hS hg m hop h
  | call c =>
    rw [hop] at h
    simp only at h
    split at h
    · rename_i hcal
      split at h
      · rename_i x t h1 h2
        exact sem_len hS hg m hop hcal h1 h2 h
      · exact h.elim
    · rename_i hcal
      split at h
      · rename_i x t h1 h2
        exact sem_clear hS hg m hop hcal h1 h2 h
      · exact h.elim
    · rename_i hcal
      split at h
      · rename_i x y h1
        exact sem_max hS hg m hop hcal h1 h
      · exact h.elim
    · rename_i hcal
      split at h
      · rename_i x y h1
        exact sem_min hS hg m hop hcal h1 h
      · exact h.elim
    · rename_i hcal
      split at h
      · rename_i x y t t' h1 h2
        exact sem_copy hS hg m hop hcal h1 h2 h
      · exact h.elim
    · rename_i hcal
      split at h
      · rename_i x y t t' h1 h2
        exact sem_append hS hg m hlab hvl hop hcal h1 h2 h
      · exact h.elim
    · rename_i f hcal
      exact sem_call hS hct hg m hfr hop hcal h
    · exact h.elim
  | _ => rw [hop] at h; exact h.elim
end
end Go.GX
set_option linter.unusedVariables false
namespace Go.GX
variable [Inhabited BaseD]
open Go.RowKit Go.Shelf Go.Proofs

structure Frm (st st' : St) (wr : List Nat) : Prop where
  n : st'.n = st.n
  cnt : st.cnt ≤ st'.cnt
  tm : ∀ t, memL t wr = false → st'.tm t = st.tm t
  hp : ∀ l he s, st'.hp l = some (he, s) → s ≤ st.cnt → st.hp l = some (he, s)

theorem Frm.refl (st : St) (wr : List Nat) : Frm st st wr := ⟨rfl, Nat.le_refl _, fun _ _ => rfl, fun _ _ _ h _ => h⟩
theorem Frm.trans {st st1 st2 : St} {wr : List Nat} (h : Frm st st1 wr) (k : Frm st1 st2 wr) : Frm st st2 wr :=
  ⟨k.n.trans h.n, Nat.le_trans h.cnt k.cnt, fun t ht => (k.tm t ht).trans (h.tm t ht), fun l he s h2 hs => h.hp l he s (k.hp l he s h2 (Nat.le_trans hs h.cnt)) hs⟩

theorem Frm.sub {st st' : St} {wr wr' : List Nat} (h : Frm st st' wr) (hs : ∀ t, t ∈ wr → t ∈ wr') : Frm st st' wr' :=
  ⟨h.n, h.cnt, fun t ht => h.tm t (by
    cases hq : memL t wr with
    | false => rfl
    | true => rw [memL_iff.2 (hs t (memL_iff.1 hq))] at ht; cases ht), h.hp⟩

theorem upds_frm (wr : List Nat) : ∀ (u : List (Nat × Option HE)) (st : St), Frm st (st.upds u) wr
  | [], st => Frm.refl st wr
  | (l, h) :: r, st => by
    refine Frm.trans (st1 := { st with hp := updf st.hp l (h.map fun x => (x, st.cnt + 1)), cnt := st.cnt + 1, dom := l :: st.dom }) ?_ (upds_frm wr r _)
    refine ⟨rfl, Nat.le_succ _, fun _ _ => rfl, fun k he s hk hs => ?_⟩
    by_cases hkl : k = l
    · subst hkl
      simp only [updf_same] at hk
      cases h with
      | none => cases hk
      | some x =>
        simp only [Option.map_some, Option.some.injEq, Prod.mk.injEq] at hk
        omega
    · simp only [updf_other _ _ hkl] at hk
      exact hk

theorem put_frm (st : St) (dst : Option Nat) (sv : SV) (wr : List Nat) (h : ∀ d, dst = some d → d ∈ wr) : Frm st (st.put dst sv) wr := by
  cases dst with
  | none => exact Frm.refl st wr
  | some d =>
    refine ⟨rfl, Nat.le_refl _, fun t ht => updf_other _ _ ?_, fun l he s h _ => h⟩
    intro htd
    subst htd
    rw [memL_iff.2 (h t rfl)] at ht
    cases ht

section
variable {P : Program} {glb : Nat → Option GV} {Bk X0 : Nat → Prop} {w0 : World} {st : St} {ρ : Lab} {a : Act} {W W' : World} {S : Stat} {lab : Nat} {o : Oper} {F : Fence} {n : Nat}

theorem Mt.know (m : Mt P glb Bk X0 w0 st ρ a W) (d : Nat) (sv : SV) (h : RepV P ρ (Xs st ρ X0) W sv (a.tmps.getD d undef)) : Mt P glb Bk X0 w0 (st.put (some d) sv) ρ a W := by
  refine ⟨m.size, m.dfr, fun t => ?_, m.hps, m.dis, m.x0, m.bk, m.bel, m.nb, m.glb, m.dom, m.stamp⟩
  show RepV P ρ (Xs st ρ X0) W (updf st.tm d sv t) _
  by_cases ht : t = d
  · subst ht; rw [updf_same]; exact h
  · rw [updf_other _ _ ht]; exact m.tms t

theorem yieldS_ok {ops : List Oper} {j : Nat} {k : Nat → Bool → Prop} (m : Mt P glb Bk X0 w0 st ρ a W) (h : yieldS st ops j k) : ∃ d b, k d b ∧ a.tmps.getD d undef = .bool b ∧ yielded ops.toArray a.tmps j = some b ∧ ∃ o, ops[j]? = some o ∧ o.dst = some d := by
  unfold yieldS at h
  cases ho : ops[j]? with
  | none => rw [ho] at h; exact h.elim
  | some o =>
    rw [ho] at h
    simp only at h
    cases hd : o.dst with
    | none => rw [hd] at h; exact h.elim
    | some d =>
      rw [hd] at h
      simp only at h
      obtain ⟨hlt, h⟩ := chk_iff.1 h
      obtain ⟨b, hk, hv⟩ := oneB_ok h (m.tms d)
      have hlt' : d < a.tmps.size := by rw [m.size]; simpa [Nat.blt_eq] using hlt
      refine ⟨d, b, hk, hv, ?_, o, rfl, hd⟩
      have hg : a.tmps[d]? = some (.bool b) := by
        rw [Array.getElem?_eq_getElem hlt']
        simp only [Array.getD_eq_getD_getElem?, Array.getElem?_eq_getElem hlt', Option.getD_some] at hv
        rw [hv]
      simp [yielded, ho, hd, hg]

theorem undS_ok {ops : List Oper} {j d : Nat} (h : undS st ops j = some d) : st.tm d = .tup [] ∧ d < st.n ∧ ∃ o, ops[j]? = some o ∧ o.dst = some d := by
  unfold undS at h
  cases ho : ops[j]? with
  | none => rw [ho] at h; cases h
  | some o =>
    rw [ho] at h
    simp only at h
    cases hd : o.dst with
    | none => rw [hd] at h; cases h
    | some d' =>
      rw [hd] at h
      simp only at h
      split at h
      · rename_i ht
        cases hb : Nat.blt d' st.n with
        | false => rw [hb] at h; cases h
        | true => rw [hb] at h; cases h; exact ⟨ht, by simpa [Nat.blt_eq] using hb, o, rfl, hd⟩
      · cases h
theorem yielded_und {ops : List Oper} {j d : Nat} {o : Oper} (ho : ops[j]? = some o) (hd : o.dst = some d) {tmps : Array Value} (h : tmps.getD d undef = .tuple #[]) : yielded ops.toArray tmps j = none := by
  unfold yielded
  rw [show (ops.toArray[j]?) = some o by simpa using ho]
  simp only [Option.bind_some, hd]
  cases hv : tmps[d]? with
  | none => rfl
  | some v =>
    rw [Array.getD_eq_getD_getElem?, hv] at h
    have h : v = .tuple #[] := h
    rw [h]
theorem rep_und {P : Program} {ρ : Lab} {X : Nat → Prop} {W : World} : RepV P ρ X W (.tup []) undef := ⟨[], rfl, rfl⟩

theorem wanted_none (h : o.guard = none) (y : Nat → Option Bool) : Region.wanted o y = true := by simp [Region.wanted, h]

def PostR (P : Program) (glb : Nat → Option GV) (Bk X0 : Nat → Prop) (w0 : World) (st : St) (ρ : Lab) (wr : List Nat) (K : St → Prop) (a : Act) (W : World) : Prop :=
  ∃ st' ρ', K st' ∧ (Frm st st' wr ∧ ρ.le ρ') ∧ Mt P glb Bk X0 w0 st' ρ' a W

theorem vcOps_ok (hF : Wide F P) (hS : StatOK P S) (hct : CtOK P glb S) (hg : S.glb = glb) (all : List Oper) (lab : Nat) (K : St → Prop) (Q : Exit → Act → World → Prop) (st0 : St) (ρ0 : Lab) (wr : List Nat)
    (hwr : ∀ (j : Nat) o d, all[j]? = some o → o.dst = some d → d ∈ wr) (hQ : ∀ a W, PostR P glb Bk X0 w0 st0 ρ0 wr K a W → Q .normal a W) :
    ∀ (rest : List Oper) (i : Nat) (st : St) (ρ : Lab) (a : Act) (W : World), (∀ j, rest[j]? = all[i + j]?) → Frm st0 st wr ∧ ρ0.le ρ → Mt P glb Bk X0 w0 st ρ a W → vcOps S all lab rest i st K → wpListIn F n P all.toArray Q rest a W
  | [], i, st, ρ, a, W, hr, hf, m, h => hQ a W ⟨st, ρ, h, hf, m⟩
  | o :: rest, i, st, ρ, a, W, hr, hf, m, h => by
    have hr' : ∀ j, rest[j]? = all[i + 1 + j]? := fun j => by have := hr (j + 1); rw [List.getElem?_cons_succ] at this; rw [this]; congr 1; omega
    have ho : all[i]? = some o := by have := hr 0; simpa using this.symm
    have hod : ∀ d, o.dst = some d → d ∈ wr := fun d hd => hwr i o d ho hd
    simp only [vcOps] at h
    obtain ⟨hb, h⟩ := chk_iff.1 h
    simp only [Bool.and_eq_true, Bool.not_eq_true'] at hb
    obtain ⟨hfr, hdst⟩ := hb
    have ih := fun st ρ a W hf m h => vcOps_ok hF hS hct hg all lab K Q st0 ρ0 wr hwr hQ rest (i + 1) st ρ a W hr' hf m h
    simp only [wpListIn]
    cases hgd : o.guard with
    | none =>
      rw [hgd] at h
      rw [wanted_none hgd]
      simp only [if_true]
      obtain ⟨h1, h2⟩ := sem_ok hS hct hg m hfr h
      refine h1.wpIn hF h2 fun v w' hfit => ?_
      obtain ⟨sv, u, ρ', hk, hle, m', hv, _⟩ := hfit
      refine ih _ ρ' _ w' ?_ (m'.put o.dst sv v ?_ hv) hk
      · exact ⟨(hf.1.trans (upds_frm wr u st)).trans (put_frm _ _ _ _ hod), hf.2.trans hle⟩
      · rw [(upds_frm wr u st).n]; exact hdst
    | some p =>
      obtain ⟨j, want⟩ := p
      rw [hgd] at h
      simp only at h
      cases hu : undS st all j with
      | some d =>
        rw [hu] at h
        obtain ⟨ht, hlt, oj, hoj, hojd⟩ := undS_ok hu
        have hrep := m.tms d
        rw [ht] at hrep
        obtain ⟨vs, hvs, hnil⟩ := hrep
        have hnil : vs = [] := hnil
        subst hnil
        have : Region.wanted o (yielded all.toArray a.tmps) = false := by simp [Region.wanted, hgd, yielded_und hoj hojd hvs]
        rw [this]
        simp only [Bool.false_eq_true, if_false]
        refine ⟨fun f _ => hF.fn f, ?_⟩
        refine ih _ ρ _ W ?_ (m.put o.dst (.tup []) undef hdst rep_und) h
        exact ⟨hf.1.trans (put_frm _ _ _ _ hod), hf.2⟩
      | none =>
      rw [hu] at h
      simp only at h
      obtain ⟨d, b, hk, hval, hy, oj, hoj, hojd⟩ := yieldS_ok m h
      have hdw : d ∈ wr := hwr j oj d hoj hojd
      obtain ⟨k1, k2⟩ := gdS_iff.1 hk
      have hwant : Region.wanted o (yielded all.toArray a.tmps) = (some b == some want) := by simp [Region.wanted, hgd, hy]
      have know : ∀ c : Bool, b = c → Mt P glb Bk X0 w0 (st.put (some d) (boolSV c)) ρ a W := fun c hc => m.know d _ (by rw [hval, hc]; exact rep_bool c)
      have hfk : ∀ c : Bool, Frm st0 (st.put (some d) (boolSV c)) wr := fun c => hf.1.trans (put_frm _ _ _ _ (fun d' hd' => by cases hd'; exact hdw))
      by_cases hbw : b = want
      · have : Region.wanted o (yielded all.toArray a.tmps) = true := by rw [hwant, hbw]; simp
        rw [this]
        simp only [if_true]
        have m1 := know want hbw
        obtain ⟨h1, h2⟩ := sem_ok hS hct hg m1 hfr (k1 hbw)
        refine h1.wpIn hF h2 fun v w' hfit => ?_
        obtain ⟨sv, u, ρ', hk', hle, m', hv, _⟩ := hfit
        refine ih _ ρ' _ w' ?_ (m'.put o.dst sv v ?_ hv) hk'
        · exact ⟨((hfk want).trans (upds_frm wr u _)).trans (put_frm _ _ _ _ hod), hf.2.trans hle⟩
        · rw [(upds_frm wr u _).n]; exact hdst
      · have : Region.wanted o (yielded all.toArray a.tmps) = false := by
          rw [hwant]
          cases b <;> cases want <;> first | rfl | exact absurd rfl hbw
        rw [this]
        simp only [Bool.false_eq_true, if_false]
        refine ⟨fun f _ => hF.fn f, ?_⟩
        have hbn : b = !want := by cases b <;> cases want <;> first | rfl | exact absurd rfl hbw
        refine ih _ ρ _ W ?_ ((know (!want) hbn).put o.dst (.tup []) undef hdst rep_und) (k2 hbw)
        exact ⟨(hfk (!want)).trans (put_frm _ _ _ _ hod), hf.2⟩

end
end Go.GX
set_option linter.unusedVariables false
namespace Go.GX
variable [Inhabited BaseD]
open Go.RowKit Go.Shelf Go.Proofs

def Cap.uses (p : Nat → Prop) : Cap → Prop
  | .l m => p m
  | .d _ _ _ => True
def SC.uses (p : Nat → Prop) : SC → Prop
  | .own l => p l
  | .ptr l _ => p l
  | .ep l _ _ _ => p l
  | .inn l vl _ => p l ∧ p vl
  | .iep l vl _ _ _ _ => p l ∧ p vl
  | .clo _ caps => ∀ c, c ∈ caps → c.uses p
  | .sub l _ _ _ => p l
  | .pt l _ _ _ => p l
  | .bsl l _ _ _ => p l
  | .om l => p l
  | _ => True
def SV.uses (p : Nat → Prop) : SV → Prop
  | .any => True
  | .mk _ cs => ∀ c, c ∈ cs → c.uses p
  | .tup l => ∀ q, q ∈ l → ∀ c, c ∈ q.2 → c.uses p
def HE.uses (p : Nat → Prop) : HE → Prop
  | .box _ _ cs => ∀ c, c ∈ cs → c.uses p
  | .mat _ _ _ _ _ _ _ vl => p vl
  | _ => True

section
variable {P : Program} {glb : Nat → Option GV} {Bk X0 X : Nat → Prop} {w0 : World} {st st0 : St} {ρ ρ' : Lab} {a : Act} {W W' : World} {S : Stat} {p : Nat → Prop}

theorem RepCap.uses (hp : ∀ l v, ρ l = some v → p l) : ∀ {c v}, RepCap P ρ X W c v → c.uses p
  | .l m, v, ⟨h, _⟩ => hp _ _ h
  | .d _ _ _, _, _ => trivial
theorem RepCaps.uses (hp : ∀ l v, ρ l = some v → p l) : ∀ {cs vs}, RepCaps P ρ X W cs vs → ∀ c, c ∈ cs → c.uses p
  | [], _, _, c, hc => by simp at hc
  | d :: r, _, ⟨v, vs', h, h1, h2⟩, c, hc => by
    rcases List.mem_cons.1 hc with rfl | hc
    · exact h1.uses hp
    · exact RepCaps.uses hp h2 c hc
theorem RepC.uses (hp : ∀ l v, ρ l = some v → p l) : ∀ {c v}, RepC P ρ X W c v → c.uses p
  | .v u, _, h => trivial
  | .d K x, _, h => trivial
  | .fr t K xs, _, _ => trivial
  | .nl _ _, _, h => trivial
  | .own l, _, ⟨h, h1⟩ => hp _ _ h
  | .om l, _, ⟨h, h1⟩ => hp _ _ h
  | .ptr l off, _, ⟨b, h, h1⟩ => hp _ _ h
  | .pt l off n j, _, ⟨⟨b, h, h1⟩, h2⟩ => hp _ _ h
  | .bsl l lo hi n, _, ⟨⟨b, ad, h, h1⟩, h2⟩ => hp _ _ h
  | .ep l j sz off, _, ⟨b, n, c, h, h1⟩ => hp _ _ h
  | .dp K x off, _, _ => trivial
  | .clo f caps, _, ⟨vs, h, h1⟩ => h1.uses hp
  | .sub l lo hi sz, _, ⟨A0, n, c, h, _⟩ => hp _ _ h
  | .inn l vl j, _, ⟨us, h, _, _, h3⟩ => ⟨(let ⟨v, hv⟩ := Option.isSome_iff_exists.1 h3; hp _ _ hv), hp _ _ h⟩
  | .iep l vl j i sz off, _, ⟨us, ad, n, c, h, _, _, _, h3⟩ => ⟨(let ⟨v, hv⟩ := Option.isSome_iff_exists.1 h3; hp _ _ hv), hp _ _ h⟩
theorem RepCs.uses (hp : ∀ l v, ρ l = some v → p l) : ∀ {cs vs}, RepCs P ρ X W cs vs → ∀ c, c ∈ cs → c.uses p
  | [], _, _, c, hc => by simp at hc
  | d :: r, _, ⟨v, vs', h, h1, h2⟩, c, hc => by
    rcases List.mem_cons.1 hc with rfl | hc
    · exact h1.uses hp
    · exact RepCs.uses hp h2 c hc
theorem RepV1.uses (hp : ∀ l v, ρ l = some v → p l) : ∀ {a cs v}, RepV1 P ρ X W a cs v → ∀ c, c ∈ cs → c.uses p
  | false, _, _, ⟨c, h, h1⟩ => by
    subst h
    intro c' hc'
    rcases List.mem_singleton.1 hc' with rfl
    exact h1.uses hp
  | true, _, _, ⟨vs, h, h1⟩ => h1.uses hp
theorem RepT.uses (hp : ∀ l v, ρ l = some v → p l) : ∀ {l vs}, RepT P ρ X W l vs → ∀ q, q ∈ l → ∀ c, c ∈ q.2 → c.uses p
  | [], _, _, q, hq => by simp at hq
  | d :: r, _, ⟨v, vs', h, h1, h2⟩, q, hq => by
    rcases List.mem_cons.1 hq with rfl | hq
    · exact h1.uses hp
    · exact RepT.uses hp h2 q hq
theorem RepV.uses (hp : ∀ l v, ρ l = some v → p l) : ∀ {s v}, RepV P ρ X W s v → s.uses p
  | .any, _, _ => trivial
  | .mk _ _, _, h => RepV1.uses hp h
  | .tup _, _, ⟨vs, h, h1⟩ => h1.uses hp

theorem RepCap.re (hp : ∀ l, p l → ρ' l = ρ l) : ∀ {c v}, RepCap P ρ X W c v → c.uses p → RepCap P ρ' X W c v
  | .l m, v, ⟨h, hb⟩, hu => ⟨by rw [hp _ hu]; exact h, hb⟩
  | .d _ _ _, _, h, _ => h
theorem RepCaps.re (hp : ∀ l, p l → ρ' l = ρ l) : ∀ {cs vs}, RepCaps P ρ X W cs vs → (∀ c, c ∈ cs → c.uses p) → RepCaps P ρ' X W cs vs
  | [], _, h, _ => h
  | d :: r, _, ⟨v, vs', h, h1, h2⟩, hu => ⟨v, vs', h, h1.re hp (hu d (List.mem_cons_self)), RepCaps.re hp h2 (fun c hc => hu c (List.mem_cons_of_mem _ hc))⟩
theorem RepC.re (hp : ∀ l, p l → ρ' l = ρ l) : ∀ {c v}, RepC P ρ X W c v → c.uses p → RepC P ρ' X W c v
  | .v u, _, h, _ => h
  | .d K x, _, h, _ => h
  | .fr t K xs, _, h, _ => h
  | .nl _ _, _, h, _ => h
  | .own l, _, ⟨h, h1⟩, hu => ⟨by rw [hp _ hu]; exact h, h1⟩
  | .om l, _, ⟨h, h1⟩, hu => ⟨by rw [hp _ hu]; exact h, h1⟩
  | .ptr l off, _, ⟨b, h, h1⟩, hu => ⟨b, by rw [hp _ hu]; exact h, h1⟩
  | .pt l off n j, _, ⟨⟨b, h, h1⟩, h2⟩, hu => ⟨⟨b, by rw [hp _ hu]; exact h, h1⟩, h2⟩
  | .bsl l lo hi n, _, ⟨⟨b, ad, h, h1⟩, h2⟩, hu => ⟨⟨b, ad, by rw [hp _ hu]; exact h, h1⟩, h2⟩
  | .ep l j sz off, _, ⟨b, n, c, h, h1⟩, hu => ⟨b, n, c, by rw [hp _ hu]; exact h, h1⟩
  | .dp K x off, _, h, _ => h
  | .clo f caps, _, ⟨vs, h, h1⟩, hu => ⟨vs, h, h1.re hp hu⟩
  | .sub l lo hi sz, _, ⟨A0, n, c, h, h1⟩, hu => ⟨A0, n, c, by rw [hp _ hu]; exact h, h1⟩
  | .inn l vl j, _, ⟨us, h, h1, h2, h3⟩, hu => ⟨us, by rw [hp _ hu.2]; exact h, h1, h2, by rw [hp _ hu.1]; exact h3⟩
  | .iep l vl j i sz off, _, ⟨us, ad, n, c, h, h1, h2, h3, h4⟩, hu => ⟨us, ad, n, c, by rw [hp _ hu.2]; exact h, h1, h2, h3, by rw [hp _ hu.1]; exact h4⟩
theorem RepCs.re (hp : ∀ l, p l → ρ' l = ρ l) : ∀ {cs vs}, RepCs P ρ X W cs vs → (∀ c, c ∈ cs → c.uses p) → RepCs P ρ' X W cs vs
  | [], _, h, _ => h
  | d :: r, _, ⟨v, vs', h, h1, h2⟩, hu => ⟨v, vs', h, h1.re hp (hu d (List.mem_cons_self)), RepCs.re hp h2 (fun c hc => hu c (List.mem_cons_of_mem _ hc))⟩
theorem RepV1.re (hp : ∀ l, p l → ρ' l = ρ l) : ∀ {a cs v}, RepV1 P ρ X W a cs v → (∀ c, c ∈ cs → c.uses p) → RepV1 P ρ' X W a cs v
  | false, _, _, ⟨c, h, h1⟩, hu => ⟨c, h, h1.re hp (hu c (by rw [h]; simp))⟩
  | true, _, _, ⟨vs, h, h1⟩, hu => ⟨vs, h, h1.re hp hu⟩
theorem RepT.re (hp : ∀ l, p l → ρ' l = ρ l) : ∀ {l vs}, RepT P ρ X W l vs → (∀ q, q ∈ l → ∀ c, c ∈ q.2 → c.uses p) → RepT P ρ' X W l vs
  | [], _, h, _ => h
  | d :: r, _, ⟨v, vs', h, h1, h2⟩, hu => ⟨v, vs', h, h1.re hp (hu d (List.mem_cons_self)), RepT.re hp h2 (fun c hc => hu c (List.mem_cons_of_mem _ hc))⟩
theorem RepV.re (hp : ∀ l, p l → ρ' l = ρ l) : ∀ {s v}, RepV P ρ X W s v → s.uses p → RepV P ρ' X W s v
  | .any, _, _, _ => trivial
  | .mk _ _, _, h, hu => RepV1.re hp h hu
  | .tup _, _, ⟨vs, h, h1⟩, hu => ⟨vs, h, h1.re hp hu⟩

abbrev RowE := Nat × Value × Option Nat

def SrcIs (st : St) (ρ : Lab) (kept : Nat → Bool) (v : Value) : Option Nat → Prop
  | some m => ∃ nn e K xs s, st.hp m = some (.row nn e K xs, s) ∧ ρ m = some v ∧ kept m = false
  | none => v.ownBlock = none

def RowIs (P : Program) (base : Nat) (st : St) (ρ : Lab) (X : Nat → Prop) (W : World) (kept : Nat → Bool) (nn : Bool) (e : TypeId) (K : Kd) (xs : List K.T) (v : Value) (src : Option Nat) : Prop :=
  HEok P base ρ X W (.row nn e K xs) v ∧ (∃ A n c, v = .slice A n c) ∧ SrcIs st ρ kept v src

def SrcM (st : St) (ρ : Lab) (kept : Nat → Bool) (v : Value) (us : List Value) : Option Nat → Prop
  | some m => ∃ nn e ag e1 K1 xs vl s, st.hp m = some (.mat nn e ag e1 K1 xs none vl, s) ∧ ρ m = some v ∧ ρ vl = some (.tuple us.toArray) ∧ kept m = false
  | none => v.ownBlock = none ∧ us = []

def MatIs (P : Program) (st : St) (ρ : Lab) (W : World) (kept : Nat → Bool) (nn : Bool) (e e1 : TypeId) (K1 : Kd) (xs : List (List K1.T)) (us : List Value) (v : Value) (src : Option Nat) : Prop :=
  MatOK P W e e1 K1 xs none us v ∧ (nn = true → ∃ a n c, v = .slice (some a) n c) ∧ (∃ A n c, v = .slice A n c) ∧ SrcM st ρ kept v us src

def Items.Rep (P : Program) (base : Nat) (st : St) (ρ : Lab) (X : Nat → Prop) (W : World) (a : Act) (kept : Nat → Bool) : (its : Items) → its.G → List RowE → Prop
  | [], _, L => L = []
  | .t t K :: r, g, L => (∀ ρ2, RepV P ρ2 X W (mkv K g.1) (a.tmps.getD t undef)) ∧ Items.Rep P base st ρ X W a kept r g.2 L
  | .row t l nn e K :: r, g, L => ∃ v src L', L = (l, v, src) :: L' ∧ a.tmps.getD t undef = v ∧ RowIs P base st ρ X W kept nn e K g.1 v src ∧ Items.Rep P base st ρ X W a kept r g.2 L'
  | .cell l ty K :: r, g, L => (∃ b arr cs s, ρ l = some (.pointer (some ⟨b, 0, none⟩)) ∧ st.hp l = some (.box true ty cs, s) ∧ W.heap[b]? = some (.cells arr ty (0, 0)) ∧ (K.sem P).cells X W g.1 arr.toList) ∧ Items.Rep P base st ρ X W a kept r g.2 L
  | .crow l ty m nn e K K2 :: r, g, L => ∃ v src L', L = (m, v, src) :: L' ∧ (∃ b arr cs s, ρ l = some (.pointer (some ⟨b, 0, none⟩)) ∧ st.hp l = some (.box true ty cs, s) ∧ W.heap[b]? = some (.cells arr ty (0, 0)) ∧ ∃ us, arr.toList = v :: us ∧ (K2.sem P).cells X W g.1.2 us) ∧ RowIs P base st ρ X W kept nn e K g.1.1 v src ∧ Items.Rep P base st ρ X W a kept r g.2 L'
  | .crow2 l ty m nn e K K2 m' nn' e' K' :: r, g, L => ∃ v src v' src' L', L = (m, v, src) :: (m', v', src') :: L' ∧ (∃ b arr cs s, ρ l = some (.pointer (some ⟨b, 0, none⟩)) ∧ st.hp l = some (.box true ty cs, s) ∧ W.heap[b]? = some (.cells arr ty (0, 0)) ∧ ∃ us, arr.toList = v :: (us ++ [v']) ∧ (K2.sem P).cells X W g.1.2.1 us) ∧ RowIs P base st ρ X W kept nn e K g.1.1 v src ∧ RowIs P base st ρ X W kept nn' e' K' g.1.2.2 v' src' ∧ Items.Rep P base st ρ X W a kept r g.2 L'
  | .drow l ty K2 m nn e K :: r, g, L => ∃ v src L', L = (m, v, src) :: L' ∧ (∃ b arr cs s, ρ l = some (.pointer (some ⟨b, 0, none⟩)) ∧ st.hp l = some (.box true ty cs, s) ∧ W.heap[b]? = some (.cells arr ty (0, 0)) ∧ ∃ us, arr.toList = us ++ [v] ∧ (K2.sem P).cells X W g.1.1 us) ∧ RowIs P base st ρ X W kept nn e K g.1.2 v src ∧ Items.Rep P base st ρ X W a kept r g.2 L'
  | .crow3 l ty m e K m2 e2 K2 KD m3 e3 K3 :: r, g, L => ∃ v1 s1 v2 s2 v3 s3 L', L = (m, v1, s1) :: (m2, v2, s2) :: (m3, v3, s3) :: L' ∧ (∃ b arr cs s, ρ l = some (.pointer (some ⟨b, 0, none⟩)) ∧ st.hp l = some (.box true ty cs, s) ∧ W.heap[b]? = some (.cells arr ty (0, 0)) ∧ ∃ us, arr.toList = v1 :: v2 :: (us ++ [v3]) ∧ (KD.sem P).cells X W g.1.2.2.1 us) ∧ RowIs P base st ρ X W kept false e K g.1.1 v1 s1 ∧ RowIs P base st ρ X W kept false e2 K2 g.1.2.1 v2 s2 ∧ RowIs P base st ρ X W kept false e3 K3 g.1.2.2.2 v3 s3 ∧ Items.Rep P base st ρ X W a kept r g.2 L'
  | .lmap l q K :: r, g, L => (memoOn = false ∧ ∃ b arr c es s, ρ l = some (.map (some b)) ∧ st.hp l = some (.mp q K es, s) ∧ W.heap[b]? = some (.map arr c) ∧ MapRep P X W q K g.1 arr.toList) ∧ Items.Rep P base st ρ X W a kept r g.2 L
  | .lrow l nn e K :: r, g, L => ∃ v src L', L = (l, v, src) :: L' ∧ src = some l ∧ RowIs P base st ρ X W kept nn e K g.1 v src ∧ Items.Rep P base st ρ X W a kept r g.2 L'
  | .mat t l vl nn e ag e1 K1 :: r, g, L => ∃ v src us L', L = (l, v, src) :: (vl, .tuple us.toArray, none) :: L' ∧ a.tmps.getD t undef = v ∧ MatIs P st ρ W kept nn e e1 K1 g.1 us v src ∧ Items.Rep P base st ρ X W a kept r g.2 L'
  | .lmat l vl nn e ag e1 K1 :: r, g, L => ∃ v src us L', L = (l, v, src) :: (vl, .tuple us.toArray, none) :: L' ∧ src = some l ∧ MatIs P st ρ W kept nn e e1 K1 g.1 us v src ∧ Items.Rep P base st ρ X W a kept r g.2 L'

def SrcOK : List Nat → List RowE → Prop
  | _, [] => True
  | seen, (_, _, some m) :: r => memL m seen = false ∧ SrcOK (m :: seen) r
  | seen, (_, _, none) :: r => SrcOK seen r

theorem rowK_ok (m : Mt P glb Bk X0 w0 st ρ a W) {kept : Nat → Bool} {seen : List Nat} {sv : SV} {v : Value} {nn : Bool} {e : TypeId} {K : Kd} {k : List K.T → List Nat → Prop} (hv : RepV P ρ (Xs st ρ X0) W sv v) (h : rowK kept st.look seen sv nn e K k) :
    ∃ xs src, RowIs P 0 st ρ (Xs st ρ X0) W kept nn e K xs v src ∧ ((src = none ∧ k xs seen ∧ ∃ e0 K0, sv = .mk false [.nl e0 K0]) ∨ ∃ l, src = some l ∧ memL l seen = false ∧ k xs (l :: seen) ∧ sv = .mk false [.own l]) := by
  unfold rowK at h
  split at h
  · rename_i l
    split at h
    · rename_i nn' e' K' xs hl
      obtain ⟨hc, h2⟩ := chk_iff.1 h
      simp only [Bool.and_eq_true, Bool.not_eq_true'] at hc
      obtain ⟨⟨⟨h3, h4⟩, h5⟩, h6⟩ := hc
      have h3 := Nat.eq_of_beq_eq_true h3
      subst h3
      split at h2
      · rename_i hK
        subst hK
        obtain ⟨c, hcc, hv1⟩ := hv
        cases hcc
        obtain ⟨hρ, hsl⟩ := hv1
        obtain ⟨s, hs⟩ := look_some hl
        obtain ⟨v', hv', hok⟩ := m.hps l _ s hs
        rw [hρ] at hv'; injection hv' with hv'; subst hv'
        refine ⟨xs, some l, ⟨⟨hok.1, hok.2.1, fun hn => hok.2.2 ?_⟩, hsl, _, _, _, _, s, hs, hρ, h6⟩, .inr ⟨l, rfl, h5, h2, rfl⟩⟩
        subst hn
        simpa using h4
      · exact h2.elim
    · exact h.elim
  · rename_i e0 K0
    obtain ⟨hc, h2⟩ := chk_iff.1 h
    simp only [Bool.and_eq_true, Bool.not_eq_true'] at hc
    obtain ⟨c, hcc, hnl⟩ := hv
    cases hcc
    have hnl : v = .slice none 0 0 := hnl
    subst hnl
    refine ⟨[], none, ⟨⟨Nat.le_of_ble_eq_true hc.2, ⟨[], World.ownsRow_nil W _ e K.n, fun j x hx => by simp at hx⟩, fun hn => ?_⟩, ⟨_, _, _, rfl⟩, rfl⟩, .inl ⟨rfl, h2, _, _, rfl⟩⟩
    rw [hn] at hc; cases hc.1
  · exact h.elim

theorem matK_ok (m : Mt P glb Bk X0 w0 st ρ a W) {kept : Nat → Bool} {seen : List Nat} {sv : SV} {v : Value} {nn : Bool} {e : TypeId} {ag : Bool} {e1 : TypeId} {K1 : Kd} {k : List (List K1.T) → List Nat → Prop} (hv : RepV P ρ (Xs st ρ X0) W sv v) (h : matK kept st.look seen sv nn e ag e1 K1 k) :
    ∃ xs us src, MatIs P st ρ W kept nn e e1 K1 xs us v src ∧ ((src = none ∧ k xs seen ∧ ∃ e0 K0, sv = .mk false [.nl e0 K0]) ∨ ∃ l, src = some l ∧ memL l seen = false ∧ k xs (l :: seen) ∧ sv = .mk false [.own l]) := by
  unfold matK at h
  split at h
  · rename_i l
    split at h
    · rename_i nn' e' ag' e1' K' xs vl hl
      obtain ⟨hc, h2⟩ := chk_iff.1 h
      simp only [Bool.and_eq_true, Bool.not_eq_true', beq_iff_eq] at hc
      obtain ⟨⟨⟨⟨⟨h3, h4⟩, h5⟩, h6⟩, h7⟩, h8⟩ := hc
      have h3 := Nat.eq_of_beq_eq_true h3
      have h5 := Nat.eq_of_beq_eq_true h5
      subst h3; subst h5
      split at h2
      · rename_i hK
        subst hK
        rw [map_castL] at h2
        obtain ⟨c, hcc, hv1⟩ := hv
        cases hcc
        obtain ⟨hρ, hsl⟩ := hv1
        obtain ⟨s, hs⟩ := look_some hl
        obtain ⟨v', hv', ⟨us, hu, mo⟩, hnn⟩ := m.hps l _ s hs
        rw [hρ] at hv'; injection hv' with hv'; subst hv'
        refine ⟨xs, us, some l, ⟨mo, fun hn => hnn ?_, hsl, _, _, _, _, _, _, _, s, hs, hρ, hu, h8⟩, .inr ⟨l, rfl, h7, h2, rfl⟩⟩
        subst hn
        simpa using h6
      · exact h2.elim
    · exact h.elim
  · rename_i e0 K0
    obtain ⟨hc, h2⟩ := chk_iff.1 h
    simp only [Bool.and_eq_true, Bool.not_eq_true'] at hc
    obtain ⟨c, hcc, hnl⟩ := hv
    cases hcc
    have hnl : v = .slice none 0 0 := hnl
    subst hnl
    refine ⟨[], [], none, ⟨⟨hc.1.2, Nat.le_of_ble_eq_true hc.2, rfl, ⟨[], World.ownsRow_nil W _ e 1, fun j u hj => by simp at hj⟩, fun j u xr hj => by simp at hj, fun j j' u u' k _ hj => by simp at hj, fun j u k hj => by simp at hj⟩, fun hn => ?_, ⟨_, _, _, rfl⟩, rfl, rfl⟩, .inl ⟨rfl, h2, _, _, rfl⟩⟩
    rw [hn] at hc; cases hc.1.1
  · exact h.elim

theorem rowK_ok2 (m : Mt P glb Bk X0 w0 st ρ a W) {kept : Nat → Bool} {seen : List Nat} {sv : SV} {v : Value} {nn : Bool} {e : TypeId} {K : Kd} {k : List K.T → List Nat → Prop} (hv : RepV P ρ (Xs st ρ X0) W sv v) (h : rowK kept st.look seen sv nn e K k) :
    ∃ xs src seen', RowIs P 0 st ρ (Xs st ρ X0) W kept nn e K xs v src ∧ k xs seen' ∧ ∀ lm L, SrcOK seen' L → SrcOK seen ((lm, v, src) :: L) := by
  obtain ⟨xs, src, h1, h2⟩ := rowK_ok m hv h
  rcases h2 with ⟨rfl, h3, _⟩ | ⟨l, rfl, h3, h4, _⟩
  · exact ⟨xs, none, seen, h1, h3, fun _ _ h => h⟩
  · exact ⟨xs, some l, l :: seen, h1, h4, fun _ _ h => ⟨h3, h⟩⟩
theorem get_ok (hct : CtOK P glb S) (m : Mt P glb Bk X0 w0 st ρ a W) (kept : Nat → Bool) : ∀ (its : Items) (seen : List Nat) (k : its.G → Prop), its.get S kept st seen k →
    ∃ g L, k g ∧ its.Rep P 0 st ρ (Xs st ρ X0) W a kept g L ∧ SrcOK seen L
  | [], seen, k, h => ⟨(), [], h, rfl, trivial⟩
  | .t t K :: r, seen, k, h => by
    simp only [Items.get] at h
    have hv := m.tms t
    split at h
    · rename_i ag cs htm
      rw [htm] at hv
      obtain ⟨hk, h⟩ := chk_iff.1 h
      obtain ⟨⟨x, rest, ls⟩, hd, h⟩ := optK_ok h
      obtain ⟨hc, h⟩ := chk_iff.1 h
      simp only [Bool.and_eq_true, List.isEmpty_iff] at hc
      obtain ⟨hc1, hc2⟩ := hc
      subst hc1; subst hc2
      obtain ⟨g, L, hkg, hrep, hsrc⟩ := get_ok hct m kept r seen _ h
      refine ⟨(x, g), L, hkg, ⟨fun ρ2 => ?_, hrep⟩, hsrc⟩
      have := argVal (Z := fun _ => false) (dec1_ok m hct fuel) hk hd hv (by simp)
      exact (RepV.of_val K ((Kd.stands P K).val (Evo.unfalse m) this)).1
    · exact h.elim
  | .row t l nn e K :: r, seen, k, h => by
    simp only [Items.get] at h
    obtain ⟨xs, src, hrow, hcase⟩ := rowK_ok m (m.tms t) h
    rcases hcase with ⟨rfl, h, _⟩ | ⟨l', rfl, hseen, h, _⟩
    · obtain ⟨g, L, hkg, hrep, hsrc⟩ := get_ok hct m kept r seen _ h
      exact ⟨(xs, g), (l, _, none) :: L, hkg, ⟨_, _, _, rfl, rfl, hrow, hrep⟩, hsrc⟩
    · obtain ⟨g, L, hkg, hrep, hsrc⟩ := get_ok hct m kept r _ _ h
      exact ⟨(xs, g), (l, _, some l') :: L, hkg, ⟨_, _, _, rfl, rfl, hrow, hrep⟩, hseen, hsrc⟩
  | .cell l ty K :: r, seen, k, h => by
    simp only [Items.get] at h
    split at h
    · rename_i ty' cs hl
      obtain ⟨hty, h⟩ := chk_iff.1 h
      have hty := Nat.eq_of_beq_eq_true hty
      subst hty
      obtain ⟨⟨x, rest, ls⟩, hd, h⟩ := optK_ok h
      obtain ⟨hc, h⟩ := chk_iff.1 h
      simp only [Bool.and_eq_true, List.isEmpty_iff] at hc
      obtain ⟨hc1, hc2⟩ := hc
      subst hc1; subst hc2
      obtain ⟨g, L, hkg, hrep, hsrc⟩ := get_ok hct m kept r seen _ h
      obtain ⟨s, hs⟩ := look_some hl
      obtain ⟨v, hv, b, arr, rfl, hb, hcs, _⟩ := m.hps l _ s hs
      obtain ⟨v1, v2, hvs, hc1, hc2⟩ := decs_ok (Z := fun _ => false) (dec1_ok m hct fuel) K cs x [] [] arr.toList hd hcs (by simp)
      have : v2 = [] := hc2
      subst this
      rw [List.append_nil] at hvs
      subst hvs
      exact ⟨(x, g), L, hkg, ⟨⟨b, arr, cs, s, hv, hs, hb, (Kd.stands P K).cells (Evo.unfalse m) hc1⟩, hrep⟩, hsrc⟩
    · exact h.elim
  | .crow l ty lm nn e K K2 :: r, seen, k, h => by
    simp only [Items.get] at h
    split at h
    · rename_i ty' c ds hl
      obtain ⟨hty, h⟩ := chk_iff.1 h
      have hty := Nat.eq_of_beq_eq_true hty
      subst hty
      obtain ⟨s, hs⟩ := look_some hl
      obtain ⟨v, hv, b, arr, rfl, hb, hcs, _⟩ := m.hps l _ s hs
      obtain ⟨u, us, harr, hcu, hus⟩ := hcs
      obtain ⟨xs, src, hrow, hcase⟩ := rowK_ok m (v := u) (sv := .mk false [c]) ⟨c, rfl, hcu⟩ h
      have two : ∀ {seen2 : List Nat}, (optK (decs (dec1 S st.look fuel) K2 ds) fun p => chk (p.2.1.isEmpty && p.2.2.isEmpty) (Items.get S kept st r seen2 fun g => k ((xs, p.1), g))) → ∃ y, (K2.sem P).cells (Xs st ρ X0) W y us ∧ Items.get S kept st r seen2 fun g => k ((xs, y), g) := by
        intro seen2 h
        obtain ⟨⟨y, rest, ls⟩, hd, h⟩ := optK_ok h
        obtain ⟨hc, h⟩ := chk_iff.1 h
        simp only [Bool.and_eq_true, List.isEmpty_iff] at hc
        obtain ⟨hc1, hc2⟩ := hc
        subst hc1; subst hc2
        obtain ⟨v1, v2, hvs, hc1, hc2⟩ := decs_ok (Z := fun _ => false) (dec1_ok m hct fuel) K2 ds y [] [] us hd hus (by simp)
        have : v2 = [] := hc2
        subst this
        rw [List.append_nil] at hvs
        subst hvs
        exact ⟨y, (Kd.stands P K2).cells (Evo.unfalse m) hc1, h⟩
      rcases hcase with ⟨rfl, h, _⟩ | ⟨l', rfl, hseen, h, _⟩
      · obtain ⟨y, hy, h⟩ := two h
        obtain ⟨g, L, hkg, hrep, hsrc⟩ := get_ok hct m kept r seen _ h
        exact ⟨((xs, y), g), (lm, _, none) :: L, hkg, ⟨_, _, _, rfl, ⟨b, arr, _, s, hv, hs, hb, us, harr, hy⟩, hrow, hrep⟩, hsrc⟩
      · obtain ⟨y, hy, h⟩ := two h
        obtain ⟨g, L, hkg, hrep, hsrc⟩ := get_ok hct m kept r _ _ h
        exact ⟨((xs, y), g), (lm, _, some l') :: L, hkg, ⟨_, _, _, rfl, ⟨b, arr, _, s, hv, hs, hb, us, harr, hy⟩, hrow, hrep⟩, hseen, hsrc⟩
    · exact h.elim
  | .crow2 l ty lm nn e K K2 lm' nn' e' K' :: r, seen, k, h => by
    simp only [Items.get] at h
    split at h
    · rename_i ty' c ds hl
      obtain ⟨hty, h⟩ := chk_iff.1 h
      have hty := Nat.eq_of_beq_eq_true hty
      subst hty
      obtain ⟨s, hs⟩ := look_some hl
      obtain ⟨v, hv, b, arr, rfl, hb, hcs, _⟩ := m.hps l _ s hs
      obtain ⟨u, us, harr, hcu, hus⟩ := hcs
      obtain ⟨xs, src, hrow, hcase⟩ := rowK_ok m (v := u) (sv := .mk false [c]) ⟨c, rfl, hcu⟩ h
      have two : ∀ {seen2 : List Nat}, (optK (decs (dec1 S st.look fuel) K2 ds) fun p => match p.2.1 with
          | [d] => chk p.2.2.isEmpty (rowK kept st.look seen2 (.mk false [d]) nn' e' K' fun zs seen => Items.get S kept st r seen fun g => k ((xs, p.1, zs), g))
          | _ => False) → ∃ y vs d w, (K2.sem P).cells (Xs st ρ X0) W y vs ∧ us = vs ++ [w] ∧ RepV P ρ (Xs st ρ X0) W (.mk false [d]) w ∧ rowK kept st.look seen2 (.mk false [d]) nn' e' K' fun zs seen => Items.get S kept st r seen fun g => k ((xs, y, zs), g) := by
        intro seen2 h
        obtain ⟨⟨y, rest, ls⟩, hd, h⟩ := optK_ok h
        simp only at h
        split at h
        · rename_i d
          obtain ⟨hc, h⟩ := chk_iff.1 h
          simp only [List.isEmpty_iff] at hc
          subst hc
          obtain ⟨v1, v2, hvs, hc1, hc2⟩ := decs_ok (Z := fun _ => false) (dec1_ok m hct fuel) K2 ds y [d] [] us hd hus (by simp)
          obtain ⟨w, v3, e1, hw, e2⟩ := hc2
          have e2 : v3 = [] := e2
          subst e2
          subst e1
          exact ⟨y, v1, d, w, (Kd.stands P K2).cells (Evo.unfalse m) hc1, hvs, ⟨d, rfl, hw⟩, h⟩
        · exact h.elim
      rcases hcase with ⟨rfl, h, _⟩ | ⟨l', rfl, hseen, h, _⟩
      · obtain ⟨y, vs, d, w, hy, rfl, hd, h⟩ := two h
        obtain ⟨zs, src', hrow', hcase'⟩ := rowK_ok m (v := w) hd h
        rcases hcase' with ⟨rfl, h, _⟩ | ⟨l'', rfl, hseen', h, _⟩
        · obtain ⟨g, L, hkg, hrep, hsrc⟩ := get_ok hct m kept r seen _ h
          exact ⟨((xs, y, zs), g), (lm, _, none) :: (lm', _, none) :: L, hkg, ⟨_, _, _, _, _, rfl, ⟨b, arr, _, s, hv, hs, hb, vs, harr, hy⟩, hrow, hrow', hrep⟩, hsrc⟩
        · obtain ⟨g, L, hkg, hrep, hsrc⟩ := get_ok hct m kept r _ _ h
          exact ⟨((xs, y, zs), g), (lm, _, none) :: (lm', _, some l'') :: L, hkg, ⟨_, _, _, _, _, rfl, ⟨b, arr, _, s, hv, hs, hb, vs, harr, hy⟩, hrow, hrow', hrep⟩, hseen', hsrc⟩
      · obtain ⟨y, vs, d, w, hy, rfl, hd, h⟩ := two h
        obtain ⟨zs, src', hrow', hcase'⟩ := rowK_ok m (v := w) hd h
        rcases hcase' with ⟨rfl, h, _⟩ | ⟨l'', rfl, hseen', h, _⟩
        · obtain ⟨g, L, hkg, hrep, hsrc⟩ := get_ok hct m kept r _ _ h
          exact ⟨((xs, y, zs), g), (lm, _, some l') :: (lm', _, none) :: L, hkg, ⟨_, _, _, _, _, rfl, ⟨b, arr, _, s, hv, hs, hb, vs, harr, hy⟩, hrow, hrow', hrep⟩, hseen, hsrc⟩
        · obtain ⟨g, L, hkg, hrep, hsrc⟩ := get_ok hct m kept r _ _ h
          exact ⟨((xs, y, zs), g), (lm, _, some l') :: (lm', _, some l'') :: L, hkg, ⟨_, _, _, _, _, rfl, ⟨b, arr, _, s, hv, hs, hb, vs, harr, hy⟩, hrow, hrow', hrep⟩, hseen, hseen', hsrc⟩
    · exact h.elim
  | .drow l ty K2 lm nn e K :: r, seen, k, h => by
    simp only [Items.get] at h
    split at h
    · rename_i ty' ds hl
      obtain ⟨hty, h⟩ := chk_iff.1 h
      have hty := Nat.eq_of_beq_eq_true hty
      subst hty
      obtain ⟨s, hs⟩ := look_some hl
      obtain ⟨v, hv, b, arr, rfl, hb, hus, _⟩ := m.hps l _ s hs
      obtain ⟨⟨y, rest, ls⟩, hd, h⟩ := optK_ok h
      simp only at h
      split at h
      · rename_i d
        obtain ⟨hc, hgo⟩ := chk_iff.1 h
        clear h
        simp only [List.isEmpty_iff] at hc
        subst hc
        obtain ⟨v1, v2, hvs, hc1, hc2⟩ := decs_ok (Z := fun _ => false) (dec1_ok m hct fuel) K2 ds y [d] [] arr.toList hd hus (by simp)
        obtain ⟨w, v3, e1, hw, e2⟩ := hc2
        have e2 : v3 = [] := e2
        subst e2
        subst e1
        have hy := (Kd.stands P K2).cells (Evo.unfalse m) hc1
        obtain ⟨zs, src', hrow', hcase'⟩ := rowK_ok m (v := w) (sv := .mk false [d]) ⟨d, rfl, hw⟩ hgo
        rcases hcase' with ⟨rfl, h, _⟩ | ⟨l'', rfl, hseen', h, _⟩
        · obtain ⟨g, L, hkg, hrep, hsrc⟩ := get_ok hct m kept r seen _ h
          exact ⟨((y, zs), g), (lm, _, none) :: L, hkg, ⟨_, _, _, rfl, ⟨b, arr, _, s, hv, hs, hb, v1, hvs, hy⟩, hrow', hrep⟩, hsrc⟩
        · obtain ⟨g, L, hkg, hrep, hsrc⟩ := get_ok hct m kept r _ _ h
          exact ⟨((y, zs), g), (lm, _, some l'') :: L, hkg, ⟨_, _, _, rfl, ⟨b, arr, _, s, hv, hs, hb, v1, hvs, hy⟩, hrow', hrep⟩, hseen', hsrc⟩
      · exact h.elim
    · exact h.elim
  | .crow3 l ty lm e K lm2 e2 K2 KD lm3 e3 K3 :: r, seen, k, h => by
    simp only [Items.get] at h
    split at h
    · rename_i ty' c1 c2 ds hl
      obtain ⟨hty, h⟩ := chk_iff.1 h
      have hty := Nat.eq_of_beq_eq_true hty
      subst hty
      obtain ⟨s, hs⟩ := look_some hl
      obtain ⟨v, hv, b, arr, rfl, hb, hcs, _⟩ := m.hps l _ s hs
      obtain ⟨u1, us1, harr, hc1, u2, us, rfl, hc2, hus⟩ := hcs
      obtain ⟨xs, s1, seen1, hrow1, h, q1⟩ := rowK_ok2 m (v := u1) (sv := .mk false [c1]) ⟨c1, rfl, hc1⟩ h
      obtain ⟨ys, s2, seen2, hrow2, h, q2⟩ := rowK_ok2 m (v := u2) (sv := .mk false [c2]) ⟨c2, rfl, hc2⟩ h
      obtain ⟨⟨y, rest, ls⟩, hd, h⟩ := optK_ok h
      simp only at h
      split at h
      · rename_i d
        obtain ⟨hc, hX⟩ := chk_iff.1 h
        simp only [List.isEmpty_iff] at hc
        subst hc
        obtain ⟨v1, v2, hvs, hcc, hcd⟩ := decs_ok (Z := fun _ => false) (dec1_ok m hct fuel) KD ds y [d] [] us hd hus (by simp)
        obtain ⟨w, v3, e1, hw, e2⟩ := hcd
        have e2 : v3 = [] := e2
        subst e2
        subst e1
        have hy := (Kd.stands P KD).cells (Evo.unfalse m) hcc
        obtain ⟨zs, s3, seen3, hrow3, h, q3⟩ := rowK_ok2 m (v := w) (sv := .mk false [d]) ⟨d, rfl, hw⟩ hX
        obtain ⟨g, L, hkg, hrep, hsrc⟩ := get_ok hct m kept r _ _ h
        refine ⟨((xs, ys, y, zs), g), (lm, _, s1) :: (lm2, _, s2) :: (lm3, _, s3) :: L, hkg, ⟨_, _, _, _, _, _, _, rfl, ⟨b, arr, _, s, hv, hs, hb, v1, by rw [harr, hvs], hy⟩, hrow1, hrow2, hrow3, hrep⟩, q1 _ _ (q2 _ _ (q3 _ _ hsrc))⟩
      · exact h.elim
    · exact h.elim
  | .lmap l q K :: r, seen, k, h => by
    simp only [Items.get] at h
    split at h
    · rename_i q' K' es hl
      obtain ⟨hq, h⟩ := chk_iff.1 h
      have hq : q' = q := by simpa using hq
      subst hq
      split at h
      · rename_i hK
        subst hK
        obtain ⟨s, hs⟩ := look_some hl
        obtain ⟨v, hv, hoff, b, arr, c, rfl, _, h1, h2⟩ := m.hps l _ s hs
        obtain ⟨g, L, hkg, hrep, hsrc⟩ := get_ok hct m kept r _ _ h
        exact ⟨(es, g), L, hkg, ⟨⟨hoff, b, arr, c, es, s, hv, hs, h1, h2⟩, hrep⟩, hsrc⟩
      · exact h.elim
    · exact h.elim
  | .lrow l nn e K :: r, seen, k, h => by
    simp only [Items.get] at h
    have hl : ∃ s he, st.hp l = some (he, s) := by
      unfold rowK at h
      simp only at h
      split at h
      · rename_i hl
        obtain ⟨s, hs⟩ := look_some hl
        exact ⟨s, _, hs⟩
      · exact h.elim
    obtain ⟨s, he, hs⟩ := hl
    obtain ⟨v, hv, hok⟩ := m.hps l _ s hs
    have hsl : ∃ A n c, v = .slice A n c := by
      unfold rowK at h
      simp only at h
      split at h
      · rename_i hl
        obtain ⟨s', hs'⟩ := look_some hl
        rw [hs] at hs'; cases hs'
        obtain ⟨_, ⟨flat, ⟨_, ho⟩, _⟩, _⟩ := hok
        rcases ho with ⟨h, _⟩ | ⟨g, cap, cur, h, _⟩ <;> exact ⟨_, _, _, h⟩
      · exact h.elim
    obtain ⟨xs, src, hrow, hcase⟩ := rowK_ok m (v := v) (sv := .mk false [.own l]) ⟨_, rfl, hv, hsl⟩ h
    rcases hcase with ⟨rfl, h, _, _, hno⟩ | ⟨l', rfl, hseen, h, hsv⟩
    · cases hno
    · cases hsv
      obtain ⟨g, L, hkg, hrep, hsrc⟩ := get_ok hct m kept r _ _ h
      exact ⟨(xs, g), (l, _, some l) :: L, hkg, ⟨_, _, _, rfl, rfl, hrow, hrep⟩, hseen, hsrc⟩
  | .mat t l vl nn e ag e1 K1 :: r, seen, k, h => by
    simp only [Items.get] at h
    obtain ⟨xs, us, src, hmat, hcase⟩ := matK_ok m (m.tms t) h
    rcases hcase with ⟨rfl, h, _⟩ | ⟨l', rfl, hseen, h, _⟩
    · obtain ⟨g, L, hkg, hrep, hsrc⟩ := get_ok hct m kept r seen _ h
      exact ⟨(xs, g), (l, _, none) :: (vl, .tuple us.toArray, none) :: L, hkg, ⟨_, _, us, _, rfl, rfl, hmat, hrep⟩, hsrc⟩
    · obtain ⟨g, L, hkg, hrep, hsrc⟩ := get_ok hct m kept r _ _ h
      exact ⟨(xs, g), (l, _, some l') :: (vl, .tuple us.toArray, none) :: L, hkg, ⟨_, _, us, _, rfl, rfl, hmat, hrep⟩, hseen, hsrc⟩
  | .lmat l vl nn e ag e1 K1 :: r, seen, k, h => by
    simp only [Items.get] at h
    have hl : ∃ nn e ag e1, ∃ K1 : Kd, ∃ (xs : List (List K1.T)) (vl s : Nat), st.hp l = some (.mat nn e ag e1 K1 xs none vl, s) := by
      unfold matK at h
      simp only at h
      split at h
      · rename_i hl
        obtain ⟨s, hs⟩ := look_some hl
        exact ⟨_, _, _, _, _, _, _, s, hs⟩
      · exact h.elim
    obtain ⟨nn0, e0, ag0, e10, K10, xs0, vl0, s, hs⟩ := hl
    obtain ⟨v, hv, ⟨us0, hu0, mo0⟩, _⟩ := m.hps l _ s hs
    have hsl : ∃ A n c, v = .slice A n c := by
      obtain ⟨hd, ⟨_, ho⟩, _⟩ := mo0.out
      rcases ho with ⟨h, _⟩ | ⟨g, cap, cur, h, _⟩ <;> exact ⟨_, _, _, h⟩
    obtain ⟨xs, us, src, hmat, hcase⟩ := matK_ok m (v := v) (sv := .mk false [.own l]) ⟨_, rfl, hv, hsl⟩ h
    rcases hcase with ⟨rfl, h, _, _, hno⟩ | ⟨l', rfl, hseen, h, hsv⟩
    · cases hno
    · cases hsv
      obtain ⟨g, L, hkg, hrep, hsrc⟩ := get_ok hct m kept r _ _ h
      exact ⟨(xs, g), (l, _, some l) :: (vl, .tuple us.toArray, none) :: L, hkg, ⟨_, _, us, _, rfl, rfl, hmat, hrep⟩, hseen, hsrc⟩

def lookL : List RowE → Nat → Option (Value × Option Nat)
  | [], _ => none
  | (l, v, s) :: r, k => cond (Nat.beq k l) (some (v, s)) (lookL r k)

def Lab.atHead (ρ : Lab) (L : List RowE) (dom0 : List Nat) : Lab := fun l =>
  match lookL L l with
  | some q => some q.1
  | none => cond (memL l dom0) (ρ l) none

theorem srcOK_seen {L : List RowE} : ∀ {seen : List Nat}, SrcOK seen L → ∀ {l v q}, (l, v, some q) ∈ L → memL q seen = false := by
  induction L with
  | nil => intro seen h l v q hq; simp at hq
  | cons x r ih =>
    intro seen h l v q hq
    obtain ⟨l0, v0, s0⟩ := x
    cases s0 with
    | none =>
      rcases List.mem_cons.1 hq with h1 | h1
      · cases h1
      · exact ih h h1
    | some q0 =>
      rcases List.mem_cons.1 hq with h1 | h1
      · cases h1; exact h.1
      · have := ih h.2 h1
        rw [memL_cons] at this
        simp only [Bool.or_eq_false_iff] at this
        exact this.2

theorem srcOK_inj {L : List RowE} : ∀ {seen : List Nat}, SrcOK seen L → ∀ {l v l' v' q}, (l, v, some q) ∈ L → (l', v', some q) ∈ L → l = l' := by
  induction L with
  | nil => intro seen h l v l' v' q hq; simp at hq
  | cons x r ih =>
    intro seen h l v l' v' q hq hq'
    obtain ⟨l0, v0, s0⟩ := x
    cases s0 with
    | none =>
      rcases List.mem_cons.1 hq with h1 | h1
      · cases h1
      · rcases List.mem_cons.1 hq' with h2 | h2
        · cases h2
        · exact ih h h1 h2
    | some q0 =>
      rcases List.mem_cons.1 hq with h1 | h1 <;> rcases List.mem_cons.1 hq' with h2 | h2
      · cases h1; cases h2; rfl
      · cases h1
        have := srcOK_seen h.2 h2
        rw [memL_cons] at this; simp at this
      · cases h2
        have := srcOK_seen h.2 h1
        rw [memL_cons] at this; simp at this
      · exact ih h.2 h1 h2

section
variable {its : Items} {kept : Nat → Bool} {base : Nat}

theorem rep_labs : ∀ {its : Items} {g : its.G} {L : List RowE}, its.Rep P base st ρ X W a kept g L → ∀ {l v src}, (l, v, src) ∈ L → memL l its.labs = true
  | [], g, L, h, l, v, src, hq => by rw [show L = [] from h] at hq; simp at hq
  | .t t K :: r, g, L, h, l, v, src, hq => rep_labs (its := r) h.2 hq
  | .row t l0 nn e K :: r, g, L, ⟨v0, s0, L', hL, _, _, h⟩, l, v, src, hq => by
    subst hL
    simp only [Items.labs, memL_cons]
    rcases List.mem_cons.1 hq with h1 | h1
    · cases h1; simp
    · rw [rep_labs (its := r) h h1]; simp
  | .cell l0 ty K :: r, g, L, h, l, v, src, hq => by
    simp only [Items.labs, memL_cons]
    rw [rep_labs (its := r) h.2 hq]; simp
  | .lmap l0 ty K :: r, g, L, h, l, v, src, hq => by
    simp only [Items.labs, memL_cons]
    rw [rep_labs (its := r) h.2 hq]; simp
  | .crow l0 ty m nn e K K2 :: r, g, L, ⟨v0, s0, L', hL, _, _, h⟩, l, v, src, hq => by
    subst hL
    simp only [Items.labs, memL_cons]
    rcases List.mem_cons.1 hq with h1 | h1
    · cases h1; simp
    · rw [rep_labs (its := r) h h1]; simp
  | .crow2 l0 ty m nn e K K2 m' nn' e' K' :: r, g, L, ⟨v0, s0, v1, s1, L', hL, _, _, _, h⟩, l, v, src, hq => by
    subst hL
    simp only [Items.labs, memL_cons]
    rcases List.mem_cons.1 hq with h1 | hq
    · cases h1; simp
    rcases List.mem_cons.1 hq with h1 | h1
    · cases h1; simp
    · rw [rep_labs (its := r) h h1]; simp
  | .crow3 l0 ty m e K m2 e2 K2 KD m3 e3 K3 :: r, g, L, ⟨v1, s1, v2, s2, v3, s3, L', hL, _, _, _, _, h⟩, l, v, src, hq => by
    subst hL
    simp only [Items.labs, memL_cons]
    rcases List.mem_cons.1 hq with h1 | hq
    · cases h1; simp
    rcases List.mem_cons.1 hq with h1 | hq
    · cases h1; simp
    rcases List.mem_cons.1 hq with h1 | h1
    · cases h1; simp
    · rw [rep_labs (its := r) h h1]; simp
  | .drow l0 ty K2 m nn e K :: r, g, L, ⟨v0, s0, L', hL, _, _, h⟩, l, v, src, hq => by
    subst hL
    simp only [Items.labs, memL_cons]
    rcases List.mem_cons.1 hq with h1 | h1
    · cases h1; simp
    · rw [rep_labs (its := r) h h1]; simp
  | .lrow l0 nn e K :: r, g, L, ⟨v0, s0, L', hL, _, _, h⟩, l, v, src, hq => by
    subst hL
    simp only [Items.labs, memL_cons]
    rcases List.mem_cons.1 hq with h1 | h1
    · cases h1; simp
    · rw [rep_labs (its := r) h h1]; simp
  | .mat t l0 vl nn e ag e1 K1 :: r, g, L, ⟨v0, s0, us, L', hL, _, _, h⟩, l, v, src, hq => by
    subst hL
    simp only [Items.labs, memL_cons]
    rcases List.mem_cons.1 hq with h1 | h1
    · cases h1; simp
    · rcases List.mem_cons.1 h1 with h1 | h1
      · cases h1; simp
      · rw [rep_labs (its := r) h h1]; simp
  | .lmat l0 vl nn e ag e1 K1 :: r, g, L, ⟨v0, s0, us, L', hL, _, _, h⟩, l, v, src, hq => by
    subst hL
    simp only [Items.labs, memL_cons]
    rcases List.mem_cons.1 hq with h1 | h1
    · cases h1; simp
    · rcases List.mem_cons.1 h1 with h1 | h1
      · cases h1; simp
      · rw [rep_labs (its := r) h h1]; simp

theorem lookL_mem {L : List RowE} : ∀ {k q}, lookL L k = some q → (k, q.1, q.2) ∈ L := by
  induction L with
  | nil => intro k q h; cases h
  | cons x r ih =>
    intro k q h
    obtain ⟨l0, v0, s0⟩ := x
    simp only [lookL] at h
    by_cases hk : k = l0
    · subst hk
      simp only [Nat.beq_refl, cond_true, Option.some.injEq] at h
      subst h
      exact List.mem_cons_self
    · rw [beq_ne hk, cond_false] at h
      exact List.mem_cons_of_mem _ (ih h)

theorem nodupL_cons {l : Nat} {r : List Nat} (h : nodupL (l :: r) = true) : memL l r = false ∧ nodupL r = true := by
  simpa [nodupL] using h

theorem rep_look : ∀ {its : Items} {g : its.G} {L : List RowE}, nodupL its.labs = true → its.Rep P base st ρ X W a kept g L → ∀ {l v src}, (l, v, src) ∈ L → lookL L l = some (v, src)
  | [], g, L, _, h, l, v, src, hq => by rw [show L = [] from h] at hq; simp at hq
  | .t t K :: r, g, L, hn, h, l, v, src, hq => rep_look (its := r) hn h.2 hq
  | .row t l0 nn e K :: r, g, L, hn, ⟨v0, s0, L', hL, _, _, h⟩, l, v, src, hq => by
    subst hL
    obtain ⟨h1, h2⟩ := nodupL_cons hn
    simp only [lookL]
    rcases List.mem_cons.1 hq with h3 | h3
    · cases h3; simp
    · have := rep_labs (its := r) h h3
      have hne : l ≠ l0 := by intro hh; subst hh; rw [this] at h1; cases h1
      rw [beq_ne hne, cond_false]
      exact rep_look (its := r) h2 h h3
  | .cell l0 ty K :: r, g, L, hn, h, l, v, src, hq => rep_look (its := r) (nodupL_cons hn).2 h.2 hq
  | .lmap l0 q K :: r, g, L, hn, h, l, v, src, hq => rep_look (its := r) (nodupL_cons hn).2 h.2 hq
  | .crow l0 ty m nn e K K2 :: r, g, L, hn, ⟨v0, s0, L', hL, _, _, h⟩, l, v, src, hq => by
    subst hL
    obtain ⟨h1, h2⟩ := nodupL_cons (nodupL_cons hn).2
    simp only [lookL]
    rcases List.mem_cons.1 hq with h3 | h3
    · cases h3; simp
    · have := rep_labs (its := r) h h3
      have hne : l ≠ m := by intro hh; subst hh; rw [this] at h1; cases h1
      rw [beq_ne hne, cond_false]
      exact rep_look (its := r) h2 h h3
  | .crow2 l0 ty m nn e K K2 m' nn' e' K' :: r, g, L, hn, ⟨v0, s0, v1, s1, L', hL, _, _, _, h⟩, l, v, src, hq => by
    subst hL
    obtain ⟨h1, h2⟩ := nodupL_cons (nodupL_cons hn).2
    obtain ⟨h3, h4⟩ := nodupL_cons h2
    simp only [memL_cons, Bool.or_eq_false_iff] at h1
    simp only [lookL]
    rcases List.mem_cons.1 hq with h5 | hq
    · cases h5; simp
    rcases List.mem_cons.1 hq with h5 | h5
    · cases h5
      have hne : m' ≠ m := by intro hh; subst hh; simp at h1
      rw [beq_ne hne, cond_false]; simp
    · have := rep_labs (its := r) h h5
      have hne : l ≠ m := by intro hh; subst hh; rw [this] at h1; cases h1.2
      have hne' : l ≠ m' := by intro hh; subst hh; rw [this] at h3; cases h3
      rw [beq_ne hne, cond_false, beq_ne hne', cond_false]
      exact rep_look (its := r) h4 h h5
  | .crow3 l0 ty m e K m2 e2 K2 KD m3 e3 K3 :: r, g, L, hn, ⟨v1, s1, v2, s2, v3, s3, L', hL, _, _, _, _, h⟩, l, v, src, hq => by
    subst hL
    obtain ⟨h1, h2⟩ := nodupL_cons (nodupL_cons hn).2
    obtain ⟨h3, h4⟩ := nodupL_cons h2
    obtain ⟨h6, h7⟩ := nodupL_cons h4
    simp only [memL_cons, Bool.or_eq_false_iff] at h1 h3
    simp only [lookL]
    rcases List.mem_cons.1 hq with h5 | hq
    · cases h5; simp
    rcases List.mem_cons.1 hq with h5 | hq
    · cases h5
      have hne : m2 ≠ m := by intro hh; subst hh; simp at h1
      rw [beq_ne hne, cond_false]; simp
    rcases List.mem_cons.1 hq with h5 | h5
    · cases h5
      have hne : m3 ≠ m := by intro hh; subst hh; simp at h1
      have hne' : m3 ≠ m2 := by intro hh; subst hh; simp at h3
      rw [beq_ne hne, cond_false, beq_ne hne', cond_false]; simp
    · have := rep_labs (its := r) h h5
      have hne : l ≠ m := by intro hh; subst hh; rw [this] at h1; cases h1.2.2
      have hne' : l ≠ m2 := by intro hh; subst hh; rw [this] at h3; cases h3.2
      have hne2 : l ≠ m3 := by intro hh; subst hh; rw [this] at h6; cases h6
      rw [beq_ne hne, cond_false, beq_ne hne', cond_false, beq_ne hne2, cond_false]
      exact rep_look (its := r) h7 h h5
  | .drow l0 ty K2 m nn e K :: r, g, L, hn, ⟨v0, s0, L', hL, _, _, h⟩, l, v, src, hq => by
    subst hL
    obtain ⟨h1, h2⟩ := nodupL_cons (nodupL_cons hn).2
    simp only [lookL]
    rcases List.mem_cons.1 hq with h3 | h3
    · cases h3; simp
    · have := rep_labs (its := r) h h3
      have hne : l ≠ m := by intro hh; subst hh; rw [this] at h1; cases h1
      rw [beq_ne hne, cond_false]
      exact rep_look (its := r) h2 h h3
  | .lrow l0 nn e K :: r, g, L, hn, ⟨v0, s0, L', hL, _, _, h⟩, l, v, src, hq => by
    subst hL
    obtain ⟨h1, h2⟩ := nodupL_cons hn
    simp only [lookL]
    rcases List.mem_cons.1 hq with h3 | h3
    · cases h3; simp
    · have := rep_labs (its := r) h h3
      have hne : l ≠ l0 := by intro hh; subst hh; rw [this] at h1; cases h1
      rw [beq_ne hne, cond_false]
      exact rep_look (its := r) h2 h h3
  | .mat t l0 vl nn e ag e1 K1 :: r, g, L, hn, ⟨v0, s0, us, L', hL, _, _, h⟩, l, v, src, hq => by
    subst hL
    obtain ⟨h1, h2⟩ := nodupL_cons hn
    obtain ⟨h2, h4⟩ := nodupL_cons h2
    rw [memL_cons, Bool.or_eq_false_iff] at h1
    simp only [lookL]
    rcases List.mem_cons.1 hq with h3 | h3
    · cases h3; simp
    · rcases List.mem_cons.1 h3 with h3 | h3
      · cases h3
        have hne : vl ≠ l0 := by intro hh; subst hh; simp at h1
        rw [beq_ne hne, cond_false]; simp
      · have := rep_labs (its := r) h h3
        have hne : l ≠ l0 := by intro hh; subst hh; rw [this] at h1; cases h1.2
        have hne2 : l ≠ vl := by intro hh; subst hh; rw [this] at h2; cases h2
        rw [beq_ne hne, cond_false, beq_ne hne2, cond_false]
        exact rep_look (its := r) h4 h h3
  | .lmat l0 vl nn e ag e1 K1 :: r, g, L, hn, ⟨v0, s0, us, L', hL, _, _, h⟩, l, v, src, hq => by
    subst hL
    obtain ⟨h1, h2⟩ := nodupL_cons hn
    obtain ⟨h2, h4⟩ := nodupL_cons h2
    rw [memL_cons, Bool.or_eq_false_iff] at h1
    simp only [lookL]
    rcases List.mem_cons.1 hq with h3 | h3
    · cases h3; simp
    · rcases List.mem_cons.1 h3 with h3 | h3
      · cases h3
        have hne : vl ≠ l0 := by intro hh; subst hh; simp at h1
        rw [beq_ne hne, cond_false]; simp
      · have := rep_labs (its := r) h h3
        have hne : l ≠ l0 := by intro hh; subst hh; rw [this] at h1; cases h1.2
        have hne2 : l ≠ vl := by intro hh; subst hh; rw [this] at h2; cases h2
        rw [beq_ne hne, cond_false, beq_ne hne2, cond_false]
        exact rep_look (its := r) h4 h h3

theorem rep_old {st0 : St} {wr : List Nat} : ∀ {its : Items} {g : its.G} {L : List RowE}, its.ok st0 wr = true → its.Rep P base st ρ X W a kept g L → ∀ {l v src}, (l, v, src) ∈ L → memL l st0.dom = true → ρ l = some v
  | [], g, L, _, h, l, v, src, hq, _ => by rw [show L = [] from h] at hq; simp at hq
  | .t t K :: r, g, L, hn, h, l, v, src, hq, hd => by
    simp only [Items.ok, Bool.and_eq_true] at hn
    exact rep_old (its := r) hn.2 h.2 hq hd
  | .row t l0 nn e K :: r, g, L, hn, ⟨v0, s0, L', hL, _, _, h⟩, l, v, src, hq, hd => by
    subst hL
    simp only [Items.ok, Bool.and_eq_true, Bool.not_eq_true'] at hn
    rcases List.mem_cons.1 hq with h3 | h3
    · cases h3; rw [hd] at hn; cases hn.1.2
    · exact rep_old (its := r) hn.2 h h3 hd
  | .cell l0 ty K :: r, g, L, hn, h, l, v, src, hq, hd => by
    simp only [Items.ok, Bool.and_eq_true] at hn
    exact rep_old (its := r) hn.2 h.2 hq hd
  | .lmap l0 ty K :: r, g, L, hn, h, l, v, src, hq, hd => by
    simp only [Items.ok, Bool.and_eq_true] at hn
    exact rep_old (its := r) hn.2 h.2 hq hd
  | .crow l0 ty m nn e K K2 :: r, g, L, hn, ⟨v0, s0, L', hL, _, _, h⟩, l, v, src, hq, hd => by
    subst hL
    simp only [Items.ok, Bool.and_eq_true, Bool.not_eq_true'] at hn
    rcases List.mem_cons.1 hq with h3 | h3
    · cases h3; rw [hd] at hn; cases hn.1.2
    · exact rep_old (its := r) hn.2 h h3 hd
  | .crow2 l0 ty m nn e K K2 m' nn' e' K' :: r, g, L, hn, ⟨v0, s0, v1, s1, L', hL, _, _, _, h⟩, l, v, src, hq, hd => by
    subst hL
    simp only [Items.ok, Bool.and_eq_true, Bool.not_eq_true'] at hn
    rcases List.mem_cons.1 hq with h3 | hq
    · cases h3; rw [hd] at hn; cases hn.1.1.2
    rcases List.mem_cons.1 hq with h3 | h3
    · cases h3; rw [hd] at hn; cases hn.1.2
    · exact rep_old (its := r) hn.2 h h3 hd
  | .crow3 l0 ty m e K m2 e2 K2 KD m3 e3 K3 :: r, g, L, hn, ⟨v1, s1, v2, s2, v3, s3, L', hL, _, _, _, _, h⟩, l, v, src, hq, hd => by
    subst hL
    simp only [Items.ok, Bool.and_eq_true, Bool.not_eq_true'] at hn
    rcases List.mem_cons.1 hq with h3 | hq
    · cases h3; rw [hd] at hn; cases hn.1.1.1.2
    rcases List.mem_cons.1 hq with h3 | hq
    · cases h3; rw [hd] at hn; cases hn.1.1.2
    rcases List.mem_cons.1 hq with h3 | h3
    · cases h3; rw [hd] at hn; cases hn.1.2
    · exact rep_old (its := r) hn.2 h h3 hd
  | .drow l0 ty K2 m nn e K :: r, g, L, hn, ⟨v0, s0, L', hL, _, _, h⟩, l, v, src, hq, hd => by
    subst hL
    simp only [Items.ok, Bool.and_eq_true, Bool.not_eq_true'] at hn
    rcases List.mem_cons.1 hq with h3 | h3
    · cases h3; rw [hd] at hn; cases hn.1.2
    · exact rep_old (its := r) hn.2 h h3 hd
  | .lrow l0 nn e K :: r, g, L, hn, ⟨v0, s0, L', hL, hsrc, hrow, h⟩, l, v, src, hq, hd => by
    subst hL
    simp only [Items.ok, Bool.and_eq_true] at hn
    rcases List.mem_cons.1 hq with h3 | h3
    · cases h3
      subst hsrc
      obtain ⟨_, _, _, _, _, _, _, _, hρ, _⟩ := hrow
      exact hρ
    · exact rep_old (its := r) hn.2 h h3 hd
  | .mat t l0 vl nn e ag e1 K1 :: r, g, L, hn, ⟨v0, s0, us, L', hL, _, _, h⟩, l, v, src, hq, hd => by
    subst hL
    simp only [Items.ok, Bool.and_eq_true, Bool.not_eq_true'] at hn
    rcases List.mem_cons.1 hq with h3 | h3
    · cases h3; rw [hd] at hn; cases hn.1.1.2
    · rcases List.mem_cons.1 h3 with h3 | h3
      · cases h3; rw [hd] at hn; cases hn.1.2
      · exact rep_old (its := r) hn.2 h h3 hd
  | .lmat l0 vl nn e ag e1 K1 :: r, g, L, hn, ⟨v0, s0, us, L', hL, hsrc, hmat, h⟩, l, v, src, hq, hd => by
    subst hL
    simp only [Items.ok, Bool.and_eq_true, Bool.not_eq_true'] at hn
    rcases List.mem_cons.1 hq with h3 | h3
    · cases h3
      subst hsrc
      obtain ⟨_, _, _, _, _, _, _, _, _, _, _, _, hρ, _⟩ := hmat
      exact hρ
    · rcases List.mem_cons.1 h3 with h3 | h3
      · cases h3; rw [hd] at hn; cases hn.1.2
      · exact rep_old (its := r) hn.2 h h3 hd

theorem rep_tm {ρh : Lab} : ∀ {its : Items} {g : its.G} {L : List RowE}, its.Rep P base st ρ X W a kept g L → (∀ l v src, (l, v, src) ∈ L → ρh l = some v) → ∀ {t sv}, its.tm g t = some sv → RepV P ρh X W sv (a.tmps.getD t undef)
  | [], g, L, _, _, t, sv, h => by cases h
  | .t t0 K :: r, g, L, h, hL, t, sv, ht => by
    simp only [Items.tm] at ht
    by_cases hk : t = t0
    · subst hk
      simp only [Nat.beq_refl, cond_true, Option.some.injEq] at ht
      subst ht
      exact h.1 ρh
    · rw [beq_ne hk, cond_false] at ht
      exact rep_tm (its := r) h.2 hL ht
  | .row t0 l0 nn e K :: r, g, L, ⟨v0, s0, L', hLL, hv, hrow, h⟩, hL, t, sv, ht => by
    subst hLL
    simp only [Items.tm] at ht
    by_cases hk : t = t0
    · subst hk
      simp only [Nat.beq_refl, cond_true, Option.some.injEq] at ht
      subst ht
      refine ⟨_, rfl, ?_, ?_⟩
      · rw [hv]; exact hL _ _ _ List.mem_cons_self
      · rw [hv]; exact hrow.2.1
    · rw [beq_ne hk, cond_false] at ht
      exact rep_tm (its := r) h (fun l v src hq => hL l v src (List.mem_cons_of_mem _ hq)) ht
  | .cell l0 ty K :: r, g, L, h, hL, t, sv, ht => rep_tm (its := r) h.2 hL ht
  | .lmap l0 q K :: r, g, L, h, hL, t, sv, ht => rep_tm (its := r) h.2 hL ht
  | .crow l0 ty m nn e K K2 :: r, g, L, ⟨v0, s0, L', hLL, _, _, h⟩, hL, t, sv, ht => by
    subst hLL
    exact rep_tm (its := r) h (fun l v src hq => hL l v src (List.mem_cons_of_mem _ hq)) ht
  | .crow2 l0 ty m nn e K K2 m' nn' e' K' :: r, g, L, ⟨v0, s0, v1, s1, L', hLL, _, _, _, h⟩, hL, t, sv, ht => by
    subst hLL
    exact rep_tm (its := r) h (fun l v src hq => hL l v src (List.mem_cons_of_mem _ (List.mem_cons_of_mem _ hq))) ht
  | .crow3 l0 ty m e K m2 e2 K2 KD m3 e3 K3 :: r, g, L, ⟨v1, s1, v2, s2, v3, s3, L', hLL, _, _, _, _, h⟩, hL, t, sv, ht => by
    subst hLL
    exact rep_tm (its := r) h (fun l v src hq => hL l v src (List.mem_cons_of_mem _ (List.mem_cons_of_mem _ (List.mem_cons_of_mem _ hq)))) ht
  | .drow l0 ty K2 m nn e K :: r, g, L, ⟨v0, s0, L', hLL, _, _, h⟩, hL, t, sv, ht => by
    subst hLL
    exact rep_tm (its := r) h (fun l v src hq => hL l v src (List.mem_cons_of_mem _ hq)) ht
  | .lrow l0 nn e K :: r, g, L, ⟨v0, s0, L', hLL, _, _, h⟩, hL, t, sv, ht => by
    subst hLL
    exact rep_tm (its := r) h (fun l v src hq => hL l v src (List.mem_cons_of_mem _ hq)) ht
  | .mat t0 l0 vl nn e ag e1 K1 :: r, g, L, ⟨v0, s0, us, L', hLL, hv, hmat, h⟩, hL, t, sv, ht => by
    subst hLL
    simp only [Items.tm] at ht
    by_cases hk : t = t0
    · subst hk
      simp only [Nat.beq_refl, cond_true, Option.some.injEq] at ht
      subst ht
      refine ⟨_, rfl, ?_, ?_⟩
      · rw [hv]; exact hL _ _ _ List.mem_cons_self
      · rw [hv]; exact hmat.2.2.1
    · rw [beq_ne hk, cond_false] at ht
      exact rep_tm (its := r) h (fun l v src hq => hL l v src (List.mem_cons_of_mem _ (List.mem_cons_of_mem _ hq))) ht
  | .lmat l0 vl nn e ag e1 K1 :: r, g, L, ⟨v0, s0, us, L', hLL, _, _, h⟩, hL, t, sv, ht => by
    subst hLL
    exact rep_tm (its := r) h (fun l v src hq => hL l v src (List.mem_cons_of_mem _ (List.mem_cons_of_mem _ hq))) ht

theorem tm_wr {st0 : St} {wr : List Nat} : ∀ {its : Items} {g : its.G}, its.ok st0 wr = true → ∀ {t sv}, its.tm g t = some sv → memL t wr = true
  | [], g, _, t, sv, h => by cases h
  | .t t0 K :: r, g, h, t, sv, ht => by
    simp only [Items.ok, Bool.and_eq_true] at h
    simp only [Items.tm] at ht
    by_cases hk : t = t0
    · subst hk; exact h.1
    · rw [beq_ne hk, cond_false] at ht
      exact tm_wr (its := r) h.2 ht
  | .row t0 l0 nn e K :: r, g, h, t, sv, ht => by
    simp only [Items.ok, Bool.and_eq_true] at h
    simp only [Items.tm] at ht
    by_cases hk : t = t0
    · subst hk; exact h.1.1
    · rw [beq_ne hk, cond_false] at ht
      exact tm_wr (its := r) h.2 ht
  | .cell l0 ty K :: r, g, h, t, sv, ht => by
    simp only [Items.ok, Bool.and_eq_true] at h
    exact tm_wr (its := r) h.2 ht
  | .crow l0 ty m nn e K K2 :: r, g, h, t, sv, ht => by
    simp only [Items.ok, Bool.and_eq_true] at h
    exact tm_wr (its := r) h.2 ht
  | .crow2 l0 ty m nn e K K2 m' nn' e' K' :: r, g, h, t, sv, ht => by
    simp only [Items.ok, Bool.and_eq_true] at h
    exact tm_wr (its := r) h.2 ht
  | .crow3 l0 ty m e K m2 e2 K2 KD m3 e3 K3 :: r, g, h, t, sv, ht => by
    simp only [Items.ok, Bool.and_eq_true] at h
    exact tm_wr (its := r) h.2 ht
  | .drow l0 ty K2 m nn e K :: r, g, h, t, sv, ht => by
    simp only [Items.ok, Bool.and_eq_true] at h
    exact tm_wr (its := r) h.2 ht
  | .lmap l0 q K :: r, g, h, t, sv, ht => by
    simp only [Items.ok, Bool.and_eq_true] at h
    exact tm_wr (its := r) h.2 ht
  | .lrow l0 nn e K :: r, g, h, t, sv, ht => by
    simp only [Items.ok, Bool.and_eq_true] at h
    exact tm_wr (its := r) h.2 ht
  | .mat t0 l0 vl nn e ag e1 K1 :: r, g, h, t, sv, ht => by
    simp only [Items.ok, Bool.and_eq_true] at h
    simp only [Items.tm] at ht
    by_cases hk : t = t0
    · subst hk; exact h.1.1.1
    · rw [beq_ne hk, cond_false] at ht
      exact tm_wr (its := r) h.2 ht
  | .lmat l0 vl nn e ag e1 K1 :: r, g, h, t, sv, ht => by
    simp only [Items.ok, Bool.and_eq_true] at h
    exact tm_wr (its := r) h.2 ht

inductive HeadIs (P : Program) (base : Nat) (st : St) (ρ : Lab) (X : Nat → Prop) (W : World) (kept : Nat → Bool) (L : List RowE) (labs : List Nat) (dom0 : List Nat) (c : Nat) (h : Nat → Option (HE × Nat)) (l : Nat) : HE → Nat → Prop where
  | old (he : HE) (s : Nat) (h1 : memL l labs = false) (h2 : h l = some (he, s)) : HeadIs P base st ρ X W kept L labs dom0 c h l he s
  | row (nn : Bool) (e : TypeId) (K : Kd) (xs : List K.T) (v : Value) (src : Option Nat) (h1 : (l, v, src) ∈ L) (h2 : RowIs P base st ρ X W kept nn e K xs v src) : HeadIs P base st ρ X W kept L labs dom0 c h l (.row nn e K xs) c
  | mat (nn : Bool) (e : TypeId) (ag : Bool) (e1 : TypeId) (K1 : Kd) (xs : List (List K1.T)) (vl : Nat) (us : List Value) (v : Value) (src : Option Nat) (h1 : (l, v, src) ∈ L) (h0 : (vl, .tuple us.toArray, none) ∈ L) (h2 : MatIs P st ρ W kept nn e e1 K1 xs us v src) : HeadIs P base st ρ X W kept L labs dom0 c h l (.mat nn e ag e1 K1 xs none vl) c
  | mp (q : IntKind) (K : Kd) (es es0 : List (Int × K.T)) (b : Nat) (arr : Array MapEntry) (ck s : Nat) (h0 : memL l labs = true) (hd : memL l dom0 = true) (hoff : memoOn = false) (h1 : ρ l = some (.map (some b))) (h2 : st.hp l = some (.mp q K es0, s)) (h3 : W.heap[b]? = some (.map arr ck)) (h4 : MapRep P X W q K es arr.toList) : HeadIs P base st ρ X W kept L labs dom0 c h l (.mp q K es) c
  | box (ty : TypeId) (cs : List SC) (b : Nat) (arr : Array Value) (ds : List SC) (s : Nat) (h0 : memL l labs = true) (hd : memL l dom0 = true) (h1 : ρ l = some (.pointer (some ⟨b, 0, none⟩))) (h2 : st.hp l = some (.box true ty ds, s)) (h3 : W.heap[b]? = some (.cells arr ty (0, 0)))
      (h4 : ∀ ρh : Lab, (∀ l v src, (l, v, src) ∈ L → ρh l = some v) → RepCs P ρh X W cs arr.toList) : HeadIs P base st ρ X W kept L labs dom0 c h l (.box true ty cs) c

theorem HeadIs.weak {L L' : List RowE} {labs labs' dom0 : List Nat} {c : Nat} {h : Nat → Option (HE × Nat)} {l : Nat} {he : HE} {s : Nat} (hi : HeadIs P base st ρ X W kept L labs dom0 c h l he s) (hL : ∀ x, x ∈ L → x ∈ L') (hl : memL l labs' = memL l labs) : HeadIs P base st ρ X W kept L' labs' dom0 c h l he s := by
  cases hi with
  | old he s h1 h2 => exact .old _ _ (by rw [hl]; exact h1) h2
  | row nn e K xs v src h1 h2 => exact .row nn e K xs v src (hL _ h1) h2
  | mat nn e ag e1 K1 xs vl us v src h1 h0 h2 => exact .mat nn e ag e1 K1 xs vl us v src (hL _ h1) (hL _ h0) h2
  | mp q K es es0 b arr ck s h0 hd hoff h1 h2 h3 h4 => exact .mp q K es es0 b arr ck s (by rw [hl]; exact h0) hd hoff h1 h2 h3 h4
  | box ty cs b arr ds s h0 hd h1 h2 h3 h4 => exact .box ty cs b arr ds s (by rw [hl]; exact h0) hd h1 h2 h3 (fun ρh hh => h4 ρh (fun l v src hq => hh l v src (hL _ hq)))

theorem rep_hp {st0 : St} {wr : List Nat} {c : Nat} {h : Nat → Option (HE × Nat)} : ∀ {its : Items} {g : its.G} {L : List RowE}, its.ok st0 wr = true → its.Rep P base st ρ X W a kept g L → ∀ {l he s}, its.hp c h g l = some (he, s) →
    HeadIs P base st ρ X W kept L its.labs st0.dom c h l he s
  | [], g, L, _, hr, l, he, s, hl => .old he s rfl hl
  | .t t0 K :: r, g, L, ho, hr, l, he, s, hl => by
    simp only [Items.ok, Bool.and_eq_true] at ho
    exact rep_hp (its := r) ho.2 hr.2 hl
  | .row t0 l0 nn e K :: r, g, L, ho, ⟨v0, s0, L', hLL, hv, hrow, hr⟩, l, he, s, hl => by
    subst hLL
    simp only [Items.ok, Bool.and_eq_true] at ho
    simp only [Items.hp] at hl
    by_cases hk : l = l0
    · subst hk
      simp only [Nat.beq_refl, cond_true, Option.some.injEq, Prod.mk.injEq] at hl
      obtain ⟨rfl, rfl⟩ := hl
      exact .row nn e K g.1 v0 s0 List.mem_cons_self hrow
    · rw [beq_ne hk, cond_false] at hl
      exact (rep_hp (its := r) ho.2 hr hl).weak (fun x hx => List.mem_cons_of_mem _ hx) (by simp [Items.labs, memL_cons, beq_ne hk])
  | .cell l0 ty K :: r, g, L, ho, ⟨⟨b, arr, cs, s1, h1, h2, h3, h4⟩, hr⟩, l, he, s, hl => by
    simp only [Items.ok, Bool.and_eq_true] at ho
    simp only [Items.hp] at hl
    by_cases hk : l = l0
    · subst hk
      simp only [Nat.beq_refl, cond_true, Option.some.injEq, Prod.mk.injEq] at hl
      obtain ⟨rfl, rfl⟩ := hl
      exact .box ty _ b arr cs s1 (by simp [Items.labs, memL_cons]) ho.1 h1 h2 h3 (fun ρh _ => RepCs.of_cells K h4)
    · rw [beq_ne hk, cond_false] at hl
      exact (rep_hp (its := r) ho.2 hr hl).weak (fun x hx => hx) (by simp [Items.labs, memL_cons, beq_ne hk])
  | .crow l0 ty m nn e K K2 :: r, g, L, ho, ⟨v0, s0, L', hLL, ⟨b, arr, cs, s1, h1, h2, h3, us, h4, h5⟩, hrow, hr⟩, l, he, s, hl => by
    subst hLL
    simp only [Items.ok, Bool.and_eq_true] at ho
    simp only [Items.hp] at hl
    by_cases hk : l = l0
    · subst hk
      simp only [Nat.beq_refl, cond_true, Option.some.injEq, Prod.mk.injEq] at hl
      obtain ⟨rfl, rfl⟩ := hl
      refine .box ty _ b arr cs s1 (by simp [Items.labs, memL_cons]) ho.1.1 h1 h2 h3 (fun ρh hh => ?_)
      rw [h4]
      exact ⟨v0, us, rfl, ⟨hh _ _ _ List.mem_cons_self, hrow.2.1⟩, RepCs.of_cells K2 h5⟩
    · rw [beq_ne hk, cond_false] at hl
      by_cases hk2 : l = m
      · subst hk2
        simp only [Nat.beq_refl, cond_true, Option.some.injEq, Prod.mk.injEq] at hl
        obtain ⟨rfl, rfl⟩ := hl
        exact .row nn e K g.1.1 v0 s0 List.mem_cons_self hrow
      · rw [beq_ne hk2, cond_false] at hl
        exact (rep_hp (its := r) ho.2 hr hl).weak (fun x hx => List.mem_cons_of_mem _ hx) (by simp [Items.labs, memL_cons, beq_ne hk, beq_ne hk2])
  | .crow2 l0 ty m nn e K K2 m' nn' e' K' :: r, g, L, ho, ⟨v0, s0, v1, s2, L', hLL, ⟨b, arr, cs, s1, h1, h2, h3, us, h4, h5⟩, hrow, hrow', hr⟩, l, he, s, hl => by
    subst hLL
    simp only [Items.ok, Bool.and_eq_true] at ho
    simp only [Items.hp] at hl
    by_cases hk : l = l0
    · subst hk
      simp only [Nat.beq_refl, cond_true, Option.some.injEq, Prod.mk.injEq] at hl
      obtain ⟨rfl, rfl⟩ := hl
      refine .box ty _ b arr cs s1 (by simp [Items.labs, memL_cons]) ho.1.1.1 h1 h2 h3 (fun ρh hh => ?_)
      rw [h4]
      exact ⟨v0, us ++ [v1], rfl, ⟨hh _ _ _ List.mem_cons_self, hrow.2.1⟩, RepCs.append (RepCs.of_cells K2 h5) ⟨v1, [], rfl, ⟨hh _ _ _ (List.mem_cons_of_mem _ List.mem_cons_self), hrow'.2.1⟩, rfl⟩⟩
    · rw [beq_ne hk, cond_false] at hl
      by_cases hk2 : l = m
      · subst hk2
        simp only [Nat.beq_refl, cond_true, Option.some.injEq, Prod.mk.injEq] at hl
        obtain ⟨rfl, rfl⟩ := hl
        exact .row nn e K g.1.1 v0 s0 List.mem_cons_self hrow
      · rw [beq_ne hk2, cond_false] at hl
        by_cases hk3 : l = m'
        · subst hk3
          simp only [Nat.beq_refl, cond_true, Option.some.injEq, Prod.mk.injEq] at hl
          obtain ⟨rfl, rfl⟩ := hl
          exact .row nn' e' K' g.1.2.2 v1 s2 (List.mem_cons_of_mem _ List.mem_cons_self) hrow'
        · rw [beq_ne hk3, cond_false] at hl
          exact (rep_hp (its := r) ho.2 hr hl).weak (fun x hx => List.mem_cons_of_mem _ (List.mem_cons_of_mem _ hx)) (by simp [Items.labs, memL_cons, beq_ne hk, beq_ne hk2, beq_ne hk3])
  | .crow3 l0 ty m e K m2 e2 K2 KD m3 e3 K3 :: r, g, L, ho, ⟨v1, s1, v2, s2, v3, s3, L', hLL, ⟨b, arr, cs, s0, h1, h2, h3, us, h4, h5⟩, hrow1, hrow2, hrow3, hr⟩, l, he, s, hl => by
    subst hLL
    simp only [Items.ok, Bool.and_eq_true] at ho
    simp only [Items.hp] at hl
    by_cases hk : l = l0
    · subst hk
      simp only [Nat.beq_refl, cond_true, Option.some.injEq, Prod.mk.injEq] at hl
      obtain ⟨rfl, rfl⟩ := hl
      refine .box ty _ b arr cs s0 (by simp [Items.labs, memL_cons]) ho.1.1.1.1 h1 h2 h3 (fun ρh hh => ?_)
      rw [h4]
      exact ⟨v1, v2 :: (us ++ [v3]), rfl, ⟨hh _ _ _ List.mem_cons_self, hrow1.2.1⟩, v2, us ++ [v3], rfl, ⟨hh _ _ _ (List.mem_cons_of_mem _ List.mem_cons_self), hrow2.2.1⟩, RepCs.append (RepCs.of_cells KD h5) ⟨v3, [], rfl, ⟨hh _ _ _ (List.mem_cons_of_mem _ (List.mem_cons_of_mem _ List.mem_cons_self)), hrow3.2.1⟩, rfl⟩⟩
    · rw [beq_ne hk, cond_false] at hl
      by_cases hk2 : l = m
      · subst hk2
        simp only [Nat.beq_refl, cond_true, Option.some.injEq, Prod.mk.injEq] at hl
        obtain ⟨rfl, rfl⟩ := hl
        exact .row false e K g.1.1 v1 s1 List.mem_cons_self hrow1
      · rw [beq_ne hk2, cond_false] at hl
        by_cases hk3 : l = m2
        · subst hk3
          simp only [Nat.beq_refl, cond_true, Option.some.injEq, Prod.mk.injEq] at hl
          obtain ⟨rfl, rfl⟩ := hl
          exact .row false e2 K2 g.1.2.1 v2 s2 (List.mem_cons_of_mem _ List.mem_cons_self) hrow2
        · rw [beq_ne hk3, cond_false] at hl
          by_cases hk4 : l = m3
          · subst hk4
            simp only [Nat.beq_refl, cond_true, Option.some.injEq, Prod.mk.injEq] at hl
            obtain ⟨rfl, rfl⟩ := hl
            exact .row false e3 K3 g.1.2.2.2 v3 s3 (List.mem_cons_of_mem _ (List.mem_cons_of_mem _ List.mem_cons_self)) hrow3
          · rw [beq_ne hk4, cond_false] at hl
            exact (rep_hp (its := r) ho.2 hr hl).weak (fun x hx => List.mem_cons_of_mem _ (List.mem_cons_of_mem _ (List.mem_cons_of_mem _ hx))) (by simp [Items.labs, memL_cons, beq_ne hk, beq_ne hk2, beq_ne hk3, beq_ne hk4])
  | .drow l0 ty K2 m nn e K :: r, g, L, ho, ⟨v0, s0, L', hLL, ⟨b, arr, cs, s1, h1, h2, h3, us, h4, h5⟩, hrow, hr⟩, l, he, s, hl => by
    subst hLL
    simp only [Items.ok, Bool.and_eq_true] at ho
    simp only [Items.hp] at hl
    by_cases hk : l = l0
    · subst hk
      simp only [Nat.beq_refl, cond_true, Option.some.injEq, Prod.mk.injEq] at hl
      obtain ⟨rfl, rfl⟩ := hl
      refine .box ty _ b arr cs s1 (by simp [Items.labs, memL_cons]) ho.1.1 h1 h2 h3 (fun ρh hh => ?_)
      rw [h4]
      exact RepCs.append (RepCs.of_cells K2 h5) ⟨v0, [], rfl, ⟨hh _ _ _ List.mem_cons_self, hrow.2.1⟩, rfl⟩
    · rw [beq_ne hk, cond_false] at hl
      by_cases hk2 : l = m
      · subst hk2
        simp only [Nat.beq_refl, cond_true, Option.some.injEq, Prod.mk.injEq] at hl
        obtain ⟨rfl, rfl⟩ := hl
        exact .row nn e K g.1.2 v0 s0 List.mem_cons_self hrow
      · rw [beq_ne hk2, cond_false] at hl
        exact (rep_hp (its := r) ho.2 hr hl).weak (fun x hx => List.mem_cons_of_mem _ hx) (by simp [Items.labs, memL_cons, beq_ne hk, beq_ne hk2])
  | .lmap l0 q K :: r, g, L, ho, ⟨⟨hoff, b, arr, ck, es0, s1, h1, h2, h3, h4⟩, hr⟩, l, he, s, hl => by
    simp only [Items.ok, Bool.and_eq_true] at ho
    simp only [Items.hp] at hl
    by_cases hk : l = l0
    · subst hk
      simp only [Nat.beq_refl, cond_true, Option.some.injEq, Prod.mk.injEq] at hl
      obtain ⟨rfl, rfl⟩ := hl
      exact .mp q K g.1 es0 b arr ck s1 (by simp [Items.labs, memL_cons]) ho.1 hoff h1 h2 h3 h4
    · rw [beq_ne hk, cond_false] at hl
      exact (rep_hp (its := r) ho.2 hr hl).weak (fun x hx => hx) (by simp [Items.labs, memL_cons, beq_ne hk])
  | .lrow l0 nn e K :: r, g, L, ho, ⟨v0, s0, L', hLL, _, hrow, hr⟩, l, he, s, hl => by
    subst hLL
    simp only [Items.ok, Bool.and_eq_true] at ho
    simp only [Items.hp] at hl
    by_cases hk : l = l0
    · subst hk
      simp only [Nat.beq_refl, cond_true, Option.some.injEq, Prod.mk.injEq] at hl
      obtain ⟨rfl, rfl⟩ := hl
      exact .row nn e K g.1 v0 s0 List.mem_cons_self hrow
    · rw [beq_ne hk, cond_false] at hl
      exact (rep_hp (its := r) ho.2 hr hl).weak (fun x hx => List.mem_cons_of_mem _ hx) (by simp [Items.labs, memL_cons, beq_ne hk])
  | .mat t0 l0 vl nn e ag e1 K1 :: r, g, L, ho, ⟨v0, s0, us, L', hLL, hv, hmat, hr⟩, l, he, s, hl => by
    subst hLL
    simp only [Items.ok, Bool.and_eq_true] at ho
    simp only [Items.hp] at hl
    by_cases hk : l = l0
    · subst hk
      simp only [Nat.beq_refl, cond_true, Option.some.injEq, Prod.mk.injEq] at hl
      obtain ⟨rfl, rfl⟩ := hl
      exact .mat nn e ag e1 K1 g.1 vl us v0 s0 List.mem_cons_self (List.mem_cons_of_mem _ List.mem_cons_self) hmat
    · rw [beq_ne hk, cond_false] at hl
      by_cases hk2 : l = vl
      · subst hk2; rw [Nat.beq_refl, cond_true] at hl; cases hl
      · rw [beq_ne hk2, cond_false] at hl
        exact (rep_hp (its := r) ho.2 hr hl).weak (fun x hx => List.mem_cons_of_mem _ (List.mem_cons_of_mem _ hx)) (by simp [Items.labs, memL_cons, beq_ne hk, beq_ne hk2])
  | .lmat l0 vl nn e ag e1 K1 :: r, g, L, ho, ⟨v0, s0, us, L', hLL, _, hmat, hr⟩, l, he, s, hl => by
    subst hLL
    simp only [Items.ok, Bool.and_eq_true] at ho
    simp only [Items.hp] at hl
    by_cases hk : l = l0
    · subst hk
      simp only [Nat.beq_refl, cond_true, Option.some.injEq, Prod.mk.injEq] at hl
      obtain ⟨rfl, rfl⟩ := hl
      exact .mat nn e ag e1 K1 g.1 vl us v0 s0 List.mem_cons_self (List.mem_cons_of_mem _ List.mem_cons_self) hmat
    · rw [beq_ne hk, cond_false] at hl
      by_cases hk2 : l = vl
      · subst hk2; rw [Nat.beq_refl, cond_true] at hl; cases hl
      · rw [beq_ne hk2, cond_false] at hl
        exact (rep_hp (its := r) ho.2 hr hl).weak (fun x hx => List.mem_cons_of_mem _ (List.mem_cons_of_mem _ hx)) (by simp [Items.labs, memL_cons, beq_ne hk, beq_ne hk2])
end

structure Ahead (P : Program) (st0 : St) (wr : List Nat) (its : Items) (st : St) : Prop where
  n : st.n = st0.n
  tm : ∀ t, memL t wr = false → st.tm t = st0.tm t
  hp : ∀ l he s, its.base st0 l = some (he, s) → memL l its.labs = false → ∃ s', st.hp l = some (he, s')
  utm : ∀ t, (st0.tm t).uses (fun l => memL l st0.dom = true)
  uhp : ∀ l he s, st0.hp l = some (he, s) → memL l st0.dom = true ∧ he.uses (fun l => memL l st0.dom = true) ∧ s ≤ st0.cnt

theorem base_some {its : Items} {l : Nat} {he : HE} {s : Nat} (h : its.base st0 l = some (he, s)) : st0.hp l = some (he, s) := by
  unfold Items.base at h
  cases hb : memL l (its.gone st0) with
  | true => rw [hb] at h; cases h
  | false => rw [hb] at h; exact h

theorem HEok.re {base : Nat} {he : HE} {v : Value} (hp : ∀ l, p l → ρ' l = ρ l) (h : HEok P base ρ X W he v) (hu : he.uses p) : HEok P base ρ' X W he v := by
  cases he with
  | box own ty cs =>
    obtain ⟨b, arr, h1, h2, h3, h4, h5⟩ := h
    exact ⟨b, arr, h1, h2, h3.re hp hu, h4, h5⟩
  | row nn e K xs => exact h
  | dat nn e K xs => exact h
  | ln e K xs => exact h
  | mp q K es => exact h
  | mat nn e ag e1 K1 xs hole vl =>
    obtain ⟨⟨us, h1, h2⟩, h3⟩ := h
    exact ⟨⟨us, by rw [hp vl hu]; exact h1, h2⟩, h3⟩

theorem OwnB.re {he : HE} {v : Value} {k : Nat} (hp : ∀ l, p l → ρ' l = ρ l) (h : OwnB ρ' he v k) (hu : he.uses p) : OwnB ρ he v k := by
  cases he with
  | mat nn e ag e1 K1 xs hole vl =>
    rcases h with h | ⟨vl', j, u, us, h1, h2, h3, h4⟩
    · exact .inl h
    · have : vl' = vl := by
        cases hh : isHole hole j with
        | true => simp [HE.ver, hh] at h1
        | false => simp only [HE.ver, hh, cond_false, Option.some.injEq] at h1; exact h1.symm
      subst this
      exact .inr ⟨vl', j, u, us, h1, by rw [← hp vl' hu]; exact h2, h3, h4⟩
  | box own ty cs => exact ownB_box.2 (ownB_box.1 h)
  | row nn e K xs => exact ownB_row.2 (ownB_row.1 h)
  | dat nn e K xs => exact ownB_dat.2 (ownB_dat.1 h)
  | ln e K xs => exact ownB_ln.2 (ownB_ln.1 h)
  | mp q K es => exact ownB_mp.2 (ownB_mp.1 h)

def isRM : HE → Bool
  | .row _ _ _ _ => true
  | .mat _ _ _ _ _ _ _ _ => true
  | _ => false

theorem Mt.head (hct : CtOK P glb S) (m : Mt P glb Bk X0 w0 st ρ a W) (its : Items) (wr : List Nat) (hA : Ahead P st0 wr its st) (hnd : nodupL its.labs = true) (hok : its.ok st0 wr = true) {k : its.G → Prop}
    (hget : its.get S (its.kept st0) st [] k) : ∃ g ρh, k g ∧ Mt P glb Bk X0 w0 (its.head st0 wr g) ρh a W ∧ (∀ l, memL l st0.dom = true → ρh l = ρ l) ∧ ∀ k, Xs (its.head st0 wr g) ρh X0 k → Xs st ρ X0 k := by
  obtain ⟨g, L, hk, hrep, hsrc⟩ := get_ok hct m (its.kept st0) its [] k hget
  refine ⟨g, ρ.atHead L st0.dom, hk, ?_⟩
  have hrow : ∀ l v src, (l, v, src) ∈ L → (ρ.atHead L st0.dom) l = some v := by
    intro l v src hq
    unfold Lab.atHead
    rw [rep_look hnd hrep hq]
  have hold : ∀ l, memL l st0.dom = true → (ρ.atHead L st0.dom) l = ρ l := by
    intro l hl
    unfold Lab.atHead
    cases hq : lookL L l with
    | none => simp [hl]
    | some q => exact (rep_old hok hrep (lookL_mem hq) hl).symm
  have hhead : ∀ {l he s}, (its.head st0 wr g).hp l = some (he, s) → HeadIs P 0 st ρ (Xs st ρ X0) W (its.kept st0) L its.labs st0.dom (st0.cnt + 1) (its.base st0) l he s := fun {l he s} h => rep_hp hok hrep h

  have hsource : ∀ {l he s v k}, (its.head st0 wr g).hp l = some (he, s) → (ρ.atHead L st0.dom) l = some v → OwnB (ρ.atHead L st0.dom) he v k →
      ∃ q he2 s2, st.hp q = some (he2, s2) ∧ ρ q = some v ∧ OwnB ρ he2 v k ∧ ((q = l ∧ its.kept st0 l = true ∧ he = he2) ∨ ((l, v, some q) ∈ L ∧ isRM he2 = true ∧ its.kept st0 q = false) ∨ (q = l ∧ memL l its.labs = true ∧ isRM he2 = false ∧ he2.isLn = false)) := by
    intro l he s v k h hv hb
    cases hhead h with
    | old he s h1 h2 =>
      obtain ⟨s', hs'⟩ := hA.hp l he s h2 h1
      obtain ⟨hd, hu, _⟩ := hA.uhp l he s (base_some h2)
      rw [hold l hd] at hv
      exact ⟨l, he, s', hs', hv, hb.re hold hu, .inl ⟨rfl, by simp [Items.kept, h1, h2], rfl⟩⟩
    | row nn e K xs v' src h1 h2 =>
      rw [hrow l v' src h1] at hv
      cases hv
      rw [ownB_row, ownBlk_row] at hb
      obtain ⟨h3, _, h4⟩ := h2
      cases src with
      | none => rw [show v.ownBlock = none from h4] at hb; cases hb
      | some q =>
        obtain ⟨nn', e', K', xs', s', g1, g2, g3⟩ := h4
        exact ⟨q, _, s', g1, g2, by rw [ownB_row, ownBlk_row]; exact hb, .inr (.inl ⟨h1, rfl, g3⟩)⟩
    | mat nn e ag e1 K1 xs vl us v' src h1 h0 h2 =>
      rw [hrow l v' src h1] at hv
      cases hv
      have hbb := (mat_own (hrow vl _ _ h0)).1 hb
      obtain ⟨_, _, _, h4⟩ := h2
      cases src with
      | none =>
        obtain ⟨h5, h6⟩ := h4
        rcases hbb with hbb | ⟨j, u, _, hj, _⟩
        · rw [h5] at hbb; cases hbb
        · rw [h6] at hj; simp at hj
      | some q =>
        obtain ⟨nn', e', ag', e1', K1', xs', vl', s', g1, g2, gu, g3⟩ := h4
        refine ⟨q, _, s', g1, g2, (mat_own gu).2 ?_, .inr (.inl ⟨h1, rfl, g3⟩)⟩
        rcases hbb with hbb | ⟨j, u, _, hj, hk⟩
        · exact .inl hbb
        · exact .inr ⟨j, u, rfl, hj, hk⟩
    | box ty cs b arr ds s h0 hd h1 h2 h3 h4 =>
      rw [hold l hd] at hv
      exact ⟨l, _, s, h2, hv, by rw [h1] at hv; cases hv; rw [ownB_box] at hb ⊢; exact hb, .inr (.inr ⟨rfl, h0, rfl, rfl⟩)⟩
    | mp q K es es0 b arr ck s h0 hd hoff h1 h2 h3 h4 =>
      rw [hold l hd] at hv
      exact ⟨l, _, s, h2, hv, by rw [h1] at hv; cases hv; rw [ownB_mp] at hb ⊢; exact hb, .inr (.inr ⟨rfl, h0, rfl, rfl⟩)⟩
  have hX : ∀ k, Xs (its.head st0 wr g) (ρ.atHead L st0.dom) X0 k → Xs st ρ X0 k := by
    rintro k (h | ⟨l, he, s, v, h1, h2, h3⟩)
    · exact .inl h
    · obtain ⟨q, he2, s2, g1, g2, g3, _⟩ := hsource h1 h2 h3
      exact .inr ⟨q, he2, s2, v, g1, g2, g3⟩
  have ev : Evo (Xs st ρ X0) W (Xs (its.head st0 wr g) (ρ.atHead L st0.dom) X0) W := Evo.mono (fun k hk => m.Xlt k (hX k hk)) hX
  refine ⟨⟨?_, m.dfr, ?_, ?_, ?_, m.x0, m.bk, m.bel, ?_, m.glb.evo ev, ?_, ?_⟩, hold, hX⟩
  · show a.tmps.size = st0.n
    rw [← hA.n]; exact m.size
  · intro t
    show RepV P _ _ W (match its.tm g t with
      | some v => v
      | none => cond (memL t wr) .any (st0.tm t)) _
    cases ht : its.tm g t with
    | some sv => exact (rep_tm hrep hrow ht).mono (Lab.le_refl _) ev
    | none =>
      cases hw : memL t wr with
      | true => trivial
      | false =>
        have h1 := m.tms t
        rw [hA.tm t hw] at h1
        exact (h1.re hold (hA.utm t)).mono (Lab.le_refl _) ev
  · intro l he s h
    cases hhead h with
    | old he s h1 h2 =>
      obtain ⟨s', hs'⟩ := hA.hp l he s h2 h1
      obtain ⟨hd, hu, _⟩ := hA.uhp l he s (base_some h2)
      obtain ⟨v, hv, hok'⟩ := m.hps l he s' hs'
      exact ⟨v, by rw [hold l hd]; exact hv, (hok'.re hold hu).mono (Lab.le_refl _) ev (fun _ _ => rfl)⟩
    | row nn e K xs v src h1 h2 =>
      have h3 : HEok P 0 (ρ.atHead L st0.dom) (Xs st ρ X0) W (.row nn e K xs) v := h2.1
      exact ⟨v, hrow l v src h1, h3.mono (Lab.le_refl _) ev (fun _ _ => rfl)⟩
    | mat nn e ag e1 K1 xs vl us v src h1 h0 h2 => exact ⟨v, hrow l v src h1, ⟨us, hrow vl _ _ h0, h2.1⟩, h2.2.1⟩
    | box ty cs b arr ds s h0 hd h1 h2 h3 h4 =>
      obtain ⟨v', hv', hok'⟩ := m.hps l _ _ h2
      rw [h1] at hv'; cases hv'
      obtain ⟨b', arr', hb', _, _, _, hlo⟩ := hok'
      injection hb' with hb'; injection hb' with hb'; injection hb' with hb'
      subst hb'
      exact ⟨_, by rw [hold l hd]; exact h1, b, arr, rfl, h3, (h4 _ hrow).mono (Lab.le_refl _) ev, fun h => (by cases h), hlo⟩
    | mp q K es es0 b arr ck s h0 hd hoff h1 h2 h3 h4 =>
      have h5 : HEok P 0 (ρ.atHead L st0.dom) (Xs st ρ X0) W (.mp q K es) (.map (some b)) := ⟨hoff, b, arr, ck, rfl, Nat.zero_le _, h3, h4⟩
      exact ⟨_, by rw [hold l hd]; exact h1, h5.mono (Lab.le_refl _) ev (fun _ _ => rfl)⟩
  · intro l l' he he' s s' v v' k h1 h1' h2 h2' h3 h3'
    obtain ⟨q, he2, s2, g1, g2, g3, gt⟩ := hsource h1 h2 h3
    obtain ⟨q', he2', s2', g1', g2', g3', gt'⟩ := hsource h1' h2' h3'
    have hqq := m.dis q q' he2 he2' s2 s2' v v' k g1 g1' g2 g2' g3 g3'
    subst hqq
    rcases gt with ⟨rfl, hk1, _⟩ | ⟨hm, hr1, hk1⟩ | ⟨rfl, hk1, hn1, _⟩ <;> rcases gt' with ⟨hq', hk2, _⟩ | ⟨hm', hr2, hk2⟩ | ⟨hq', hk2, hn2, _⟩
    · exact hq'
    · rw [hk1] at hk2; cases hk2
    · exact hq'
    · subst hq'; rw [hk1] at hk2; cases hk2
    · exact srcOK_inj hsrc hm hm'
    · rw [g1] at g1'; cases g1'; rw [hr1] at hn2; cases hn2
    · exact hq'
    · rw [g1] at g1'; cases g1'; rw [hr2] at hn1; cases hn1
    · exact hq'
  · intro l he s v k h1 h2 h3
    obtain ⟨q, he2, s2, g1, g2, g3, gt⟩ := hsource h1 h2 h3
    have hnb := m.nb q he2 s2 v k g1 g2 g3
    refine ⟨fun hl => hnb.1 ?_, hnb.2⟩
    rcases gt with ⟨_, _, hh⟩ | ⟨_, hr, _⟩ | ⟨_, _, _, hn⟩
    · rw [← hh]; exact hl
    · cases he2 <;> first | rfl | cases hr
    · exact hn
  · intro l v h
    show memL l (its.labs ++ st0.dom) = true
    rw [memL_append]
    unfold Lab.atHead at h
    cases hq : lookL L l with
    | some q => rw [rep_labs hrep (lookL_mem hq)]; rfl
    | none =>
      rw [hq] at h
      cases hd : memL l st0.dom with
      | true => simp
      | false => rw [hd] at h; cases h
  · intro l he s h
    show s ≤ st0.cnt + 1
    cases hhead h with
    | old he s h1 h2 => have := (hA.uhp l he s (base_some h2)).2.2; omega
    | row => exact Nat.le_refl _
    | mat => exact Nat.le_refl _
    | box => exact Nat.le_refl _
    | mp => exact Nat.le_refl _
end
end Go.GX
set_option linter.unusedVariables false
namespace Go.GX
variable [Inhabited BaseD]
open Go.RowKit Go.Shelf Go.Proofs

section
variable {S : Stat} {st : St} {lab : Nat} {o : Oper} {Q : Eff}

abbrev Only (sv : SV) (u : List (Nat × Option HE)) : Eff := fun a b => a = sv ∧ b = u

def Def1 (f : Eff → Prop) : Prop := ∀ Q : Eff, f Q → ∃ sv u, Q sv u ∧ f (Only sv u)

theorem Def1.res (sv : SV) (u : List (Nat × Option HE)) : Def1 fun Q => Q sv u := fun Q h => ⟨sv, u, h, rfl, rfl⟩
theorem Def1.no : Def1 fun Q => False := fun Q h => h.elim
theorem Def1.and {p : Prop} {f : Eff → Prop} (h : Def1 f) : Def1 fun Q => p ∧ f Q := fun Q ⟨hp, hf⟩ => let ⟨sv, u, h1, h2⟩ := h Q hf; ⟨sv, u, h1, hp, h2⟩
theorem Def1.letE {α : Type} {e : α} {f : α → Eff → Prop} (h : ∀ y, Def1 (f y)) : Def1 fun Q => GX.letE e fun y => f y Q := fun Q hq =>
  let ⟨sv, u, h1, h2⟩ := h e Q (hq e rfl)
  ⟨sv, u, h1, fun y hy => by rw [hy]; exact h2⟩
theorem Def1.chk {b : Bool} {f : Eff → Prop} (h : Def1 f) : Def1 fun Q => GX.chk b (f Q) := by
  cases b with
  | false => exact Def1.no
  | true => exact h
theorem Def1.cnd {b : Bool} {f g : Eff → Prop} (h : Def1 f) (k : Def1 g) : Def1 fun Q => GX.cnd b (f Q) (g Q) := by
  cases b with
  | false => exact k
  | true => exact h
theorem Def1.dite {p : Prop} [Decidable p] {f : p → Eff → Prop} (h : ∀ hp, Def1 (f hp)) : Def1 fun Q => if hp : p then f hp Q else False := by
  by_cases hp : p
  · simp only [hp, dite_true]; exact h hp
  · simp only [hp, dite_false]; exact Def1.no
theorem Def1.optK {α : Type} {x : Option α} {f : α → Eff → Prop} (h : ∀ a, Def1 (f a)) : Def1 fun Q => GX.optK x fun a => f a Q := by
  cases x with
  | none => exact Def1.no
  | some a => exact h a
theorem Def1.oneC {v : SV} {f : SC → Eff → Prop} (h : ∀ c, Def1 (f c)) : Def1 fun Q => GX.oneC v fun c => f c Q := by
  unfold GX.oneC
  split
  · exact h _
  · exact Def1.no
theorem Def1.aggC {v w : SV} {f : List SC → List SC → Eff → Prop} {g : Eff → Prop} (h : ∀ cs ds, Def1 (f cs ds)) (k : Def1 g) : Def1 fun Q => GX.aggC v w (fun cs ds => f cs ds Q) (g Q) := by
  unfold GX.aggC
  split
  · exact h _ _
  · exact k
theorem Def1.mkOr {x : Option (TypeId × FuncId)} {f : TypeId × FuncId → Eff → Prop} {g : Eff → Prop} (h : ∀ a, Def1 (f a)) (k : Def1 g) : Def1 fun Q => GX.mkOr x (fun a => f a Q) (g Q) := by
  cases x with
  | none => exact k
  | some a => exact h a
theorem Def1.oneB {v : SV} {f : Bool → Eff → Prop} (h : ∀ c, Def1 (f c)) : Def1 fun Q => GX.oneB v fun c => f c Q := by
  unfold GX.oneB
  split
  · exact h _
  · exact Def1.no
theorem Def1.oneI {v : SV} {f : Int → Eff → Prop} (h : ∀ c, Def1 (f c)) : Def1 fun Q => GX.oneI v fun c => f c Q := by
  unfold GX.oneI
  split
  · exact h _
  · exact Def1.no
theorem Def1.keyS {t : TypeId} {x k : Operand} {f : List memoK.T → memoKeyK.T → Eff → Prop} (h : ∀ xs key, Def1 (f xs key)) : Def1 fun Q => GX.keyS S st t x k fun xs key => f xs key Q := by
  unfold GX.keyS
  refine Def1.oneC fun c => ?_
  split
  · refine Def1.dite fun hK => ?_
    split
    · exact Def1.optK fun p => Def1.chk (h _ _)
    · exact Def1.no
  · exact Def1.no
theorem Def1.oneIK {v : SV} {f : IntKind → Int → Eff → Prop} (h : ∀ k c, Def1 (f k c)) : Def1 fun Q => GX.oneIK v fun k c => f k c Q := by
  unfold GX.oneIK
  split
  · exact h _ _
  · exact Def1.no
theorem Def1.isMp {look : Nat → Option HE} {v : SV} {f : (l : Nat) → (k : IntKind) → (K : Kd) → List (Int × K.T) → Eff → Prop} {g : Eff → Prop} (h : ∀ l k K es, Def1 (f l k K es)) (k : Def1 g) : Def1 fun Q => GX.isMp look v (fun l k K es => f l k K es Q) (g Q) := by
  unfold GX.isMp
  split
  · split
    · exact h _ _ _ _
    · exact k
  · exact k
theorem Def1.mpOf {t : TypeId} {f : TypeId × TypeId → IntKind → TI → Eff → Prop} (h : ∀ p k i, Def1 (f p k i)) : Def1 fun Q => GX.mpOf S t fun p k i => f p k i Q := by
  unfold GX.mpOf
  refine Def1.optK fun p => Def1.optK fun q => ?_
  split
  · exact Def1.optK fun i => h _ _ _
  · exact Def1.no
theorem Def1.cellsOf {v : SV} {f : List SC → Eff → Prop} (h : ∀ c, Def1 (f c)) : Def1 fun Q => GX.cellsOf v fun c => f c Q := by
  unfold GX.cellsOf
  split
  · exact h _
  · exact Def1.no
theorem Def1.optI {x : Option Operand} {d : Int} {f : Int → Eff → Prop} (h : ∀ c, Def1 (f c)) : Def1 fun Q => GX.optI S st x d fun c => f c Q := by
  cases x with
  | none => exact h _
  | some a => exact Def1.oneI h
theorem Def1.giv {α : Type} {g : (α → Prop) → Prop} {f : α → Eff → Prop} (h : ∀ c, Def1 (f c)) : Def1 fun Q => GX.giv true g fun c => f c Q := by
  rintro Q ⟨r, h1, h2⟩
  obtain ⟨sv, u, h3, h4⟩ := h r Q h2
  exact ⟨sv, u, h3, r, h1, h4⟩
theorem Def1.partsS {t : TypeId} {n : Nat} : ∀ (ps : List (Nat × Operand)) {f : List (Nat × List SC) → Eff → Prop}, (∀ c, Def1 (f c)) → Def1 fun Q => GX.partsS S st t n ps fun c => f c Q
  | [], f, h => h []
  | (i, x) :: r, f, h => Def1.optK fun a => Def1.optK fun b => Def1.cellsOf fun c => Def1.chk (Def1.partsS r fun d => h _)
theorem Def1.partsA {e : TypeId} {sz n : Nat} : ∀ (ps : List (Nat × Operand)) {f : List (Nat × List SC) → Eff → Prop}, (∀ c, Def1 (f c)) → Def1 fun Q => GX.partsA S st e sz n ps fun c => f c Q
  | [], f, h => h []
  | (i, x) :: r, f, h => Def1.cellsOf fun c => Def1.chk (Def1.partsA r fun d => h _)
theorem Def1.idxC {j : Int} {f : Nat → Eff → Prop} (h : ∀ k, Def1 (f k)) : ∀ m k, Def1 fun Q => GX.idxC j (fun k => f k Q) k m
  | 0, _ => Def1.no
  | m + 1, k => Def1.cnd (h k) (Def1.idxC h m (k + 1))
theorem Def1.idxArr {ix : Operand} {n : Nat} {f : Nat → Eff → Prop} (h : ∀ k, Def1 (f k)) : Def1 fun Q => GX.idxArr S st ix n fun k => f k Q := by
  unfold GX.idxArr
  split
  · exact Def1.chk (h _)
  · exact Def1.oneI fun j => Def1.and (Def1.and (Def1.idxC h _ _))
theorem Def1.elemsS {t : TypeId} {n : Nat} : ∀ (ps : List (Nat × Operand)) (i : Nat) {f : List SC → Eff → Prop}, (∀ c, Def1 (f c)) → Def1 fun Q => GX.elemsS S st t n i ps fun c => f c Q
  | [], i, f, h => h []
  | (j, x) :: r, i, f, h => Def1.chk (Def1.cellsOf fun c => Def1.chk (Def1.elemsS r (i + 1) fun d => h _))

theorem Def1.bcond {b : Bool} {f g : Eff → Prop} (h : Def1 f) (k : Def1 g) : Def1 fun Q => cond b (f Q) (g Q) := by
  cases b
  · exact k
  · exact h

theorem Def1.orK {α : Type} {o : Option α} {f : α → Eff → Prop} {p : Eff → Prop} (h : ∀ x, Def1 (f x)) (hp : Def1 p) : Def1 fun Q => GX.orK o (fun x => f x Q) (p Q) := by
  cases o with
  | none => exact hp
  | some x => exact h x
theorem Def1.ioS {c : CtW} {cs : List Cap} {args : List Operand} {ts : List TypeId} : Def1 fun Q => GX.ioS S true st c cs args ts Q := by
  unfold GX.ioS
  split
  · refine Def1.oneC fun d => ?_
    split
    · split
      · exact Def1.chk (Def1.dite fun h => Def1.optK fun p => Def1.optK fun q => Def1.chk (Def1.giv fun r => Def1.res _ _))
      · exact Def1.no
    · exact Def1.no
  · exact Def1.no
theorem Def1.hovS {lab : Nat} {c : CtH} {cs : List Cap} {args : List Operand} {ts : List TypeId} : Def1 fun Q => GX.hovS S true st lab c cs args ts Q := by
  unfold GX.hovS
  split
  · refine Def1.oneC fun d => ?_
    split
    · split
      · exact Def1.chk (Def1.dite fun h => Def1.optK fun p => Def1.optK fun q => Def1.chk (Def1.giv fun r => Def1.res _ _))
      · exact Def1.no
    · exact Def1.chk (Def1.optK fun p => Def1.optK fun q => Def1.giv fun r => Def1.res _ _)
    · exact Def1.no
  · exact Def1.no
theorem Def1.idxPt {ix : Operand} {n sz : Nat} {c : SC} {f : SC → Eff → Prop} {p : Eff → Prop} (h : ∀ c, Def1 (f c)) (hp : Def1 p) : Def1 fun Q => GX.idxPt S st ix n sz c (fun c => f c Q) (p Q) := by
  unfold GX.idxPt
  split
  · split
    · exact Def1.bcond (Def1.oneI fun j => Def1.and (Def1.and (h _))) hp
    · exact hp
  · exact hp
theorem Def1.idxV {ix : Operand} {n : Nat} {kd : Kd} {cs : List SC} {f : SC → Eff → Prop} {p : Eff → Prop} (h : ∀ c, Def1 (f c)) (hp : Def1 p) : Def1 fun Q => GX.idxV S st ix n kd cs (fun c => f c Q) (p Q) := by
  unfold GX.idxV
  exact Def1.bcond (Def1.oneI fun j => Def1.and (Def1.and (Def1.optK fun c => h c))) hp

theorem Def1.isNil {look : Nat → Option HE} {c : SC} {f : Bool → Eff → Prop} (h : ∀ c, Def1 (f c)) : Def1 fun Q => GX.isNil true look c fun r => f r Q := by
  have row : ∀ (nn : Bool) (p : Bool → Prop), Def1 fun Q => _root_.cond nn (f false Q) (GX.chk (!true) (∀ b : Bool, p b → f b Q)) := by
    intro nn p
    cases nn with
    | true => exact h false
    | false => exact Def1.no
  cases c with
  | d K x =>
    cases K with
    | sl e K => exact Def1.no
    | nsl e K => exact h _
    | _ => exact Def1.no
  | nl e K => exact h _
  | own l =>
    simp only [GX.isNil]
    split
    · exact row _ _
    · exact row _ _
    · exact Def1.bcond (h _) Def1.no
    · exact Def1.no
  | _ => exact Def1.no

theorem Def1.isMat {look : Nat → Option HE} {b : SC} {f : (m : Nat) → (nn : Bool) → (ag : Bool) → (e1 : TypeId) → (K1 : Kd) → List (List K1.T) → Eff → Prop} {g : Eff → Prop} (h : ∀ m nn ag e1 K1 ys, Def1 (f m nn ag e1 K1 ys)) (k : Def1 g) : Def1 fun Q => GX.isMat look b (fun m nn ag e1 K1 ys => f m nn ag e1 K1 ys Q) (g Q) := by
  unfold GX.isMat
  split
  · split
    · exact h _ _ _ _ _ _
    · exact k
  · exact k

theorem Def1.litS {look : Nat → Option HE} {lab : Nat} {e : TypeId} {i : TI} {cs : List SC} {n : Nat} : Def1 fun Q => GX.litS S look lab e i cs n Q := by
  unfold GX.litS GX.litR
  refine Def1.bcond (Def1.optK fun p => Def1.chk (Def1.res _ _)) ?_
  split
  · exact Def1.optK fun p => Def1.chk (Def1.res _ _)
  · exact Def1.optK fun p => Def1.chk (Def1.res _ _)
  · exact Def1.optK fun p => Def1.chk (Def1.res _ _)

theorem Def1.appM {look : Nat → Option HE} {lab : Nat} {e : TypeId} {i : TI} {a : SC} {m : Nat} {nn' ag : Bool} {e1 : TypeId} {K1 : Kd} {ys : List (List K1.T)} : Def1 fun Q => GX.appM look lab e i a m nn' ag e1 K1 ys Q := by
  unfold GX.appM
  split
  · exact Def1.and (Def1.and (Def1.res _ _))
  · split
    · exact Def1.chk (Def1.dite fun h => Def1.and (Def1.and (Def1.res _ _)))
    · exact Def1.no
  · exact Def1.no

theorem Def1.cmpI {op : BinOp} {x y : Int} {f : Bool → Eff → Prop} (h : ∀ c, Def1 (f c)) : Def1 fun Q => GX.cmpI op x y fun r => f r Q := by
  unfold GX.cmpI
  cases op <;> first | exact h _ | exact Def1.no

theorem sem_def (Q : Eff) (h : sem S true st lab o Q) : ∃ sv u, Q sv u ∧ sem S true st lab o (Only sv u) := by
  have key : Def1 fun Q => sem S true st lab o Q := by
    unfold sem
    cases hop : o.op with
    | move x => exact Def1.res _ _
    | assign x => exact Def1.res _ _
    | pick c x y => exact Def1.oneB fun t => Def1.cnd (Def1.res _ _) (Def1.res _ _)
    | alloc e => exact Def1.optK fun i => Def1.res _ _
    | box e x => exact Def1.optK fun i => Def1.cellsOf fun cs => Def1.chk (Def1.res _ _)
    | build t ps => exact Def1.optK fun i => Def1.mkOr (fun p => Def1.optK fun q => Def1.partsA _ fun c => Def1.chk (Def1.res _ _)) (Def1.partsS _ fun c => Def1.chk (Def1.res _ _))
    | buildSlice t n ps =>
      refine Def1.optK fun e => Def1.optK fun i => Def1.chk (Def1.elemsS _ _ fun cs => Def1.bcond Def1.litS ?_)
      cases n with
      | zero => exact Def1.bcond (Def1.res _ _) (Def1.res _ _)
      | succ n => unfold bslS; exact Def1.bcond (Def1.res _ _) (Def1.optK fun r => Def1.chk (Def1.res _ _))
    | load t x => exact Def1.optK fun i => Def1.oneC fun c => Def1.optK fun cs => Def1.chk (Def1.res _ _)
    | store t x y =>
      refine Def1.optK fun i => Def1.oneC fun c => Def1.cellsOf fun cs => Def1.chk ?_
      cases c with
      | ptr l off =>
        simp only
        split
        · exact Def1.chk (Def1.res _ _)
        · exact Def1.no
      | ep l j sz off =>
        simp only
        split
        · refine Def1.chk ?_
          split
          · exact Def1.chk (Def1.res _ _)
          · exact Def1.no
        · exact Def1.chk (Def1.optK fun p => Def1.chk (Def1.and (Def1.res _ _)))
        · exact Def1.no
      | iep l vl j q sz off =>
        simp only
        split
        · refine Def1.chk ?_
          split
          · exact Def1.chk (Def1.res _ _)
          · exact Def1.no
        · exact Def1.no
      | pt l off n j =>
        simp only
        split
        · exact Def1.chk (Def1.optK fun d => Def1.res _ _)
        · exact Def1.no
      | _ => exact Def1.no
    | nilCheck x =>
      refine Def1.oneC fun c => ?_
      split <;> first | exact Def1.res _ _ | exact Def1.no
    | convert t0 t x =>
      refine Def1.optK fun _ => Def1.optK fun i => Def1.oneI fun n => ?_
      unfold cvtS
      split
      · exact Def1.res _ _
      · exact Def1.no
    | binOp op t x y t' =>
      refine Def1.aggC (fun cs ds => ?_) (Def1.oneC fun c => Def1.oneC fun d => ?_)
      · unfold eqAgg
        refine Def1.optK fun n => Def1.chk (Def1.optK fun b => ?_)
        cases op <;> first | exact Def1.res _ _ | exact Def1.no
      unfold binS
      split
      · unfold shS
        split
        · exact Def1.and (Def1.res _ _)
        · exact Def1.and (Def1.res _ _)
        refine Def1.chk ?_
        unfold binI
        cases op <;> first | exact Def1.res _ _ | exact Def1.and (Def1.res _ _) | exact Def1.cmpI fun _ => Def1.res _ _
      · refine Def1.chk ?_
        unfold binB
        cases op <;> first | exact Def1.res _ _ | exact Def1.no
      · refine Def1.chk ?_
        cases op <;> first | exact Def1.no | exact Def1.isNil fun _ => Def1.res _ _
      · exact Def1.no
    | unOp op t x =>
      refine Def1.oneC fun c => ?_
      unfold unS
      split
      · exact Def1.res _ _
      · exact Def1.res _ _
      · exact Def1.no
    | makeFunc fn fi caps =>
      cases fn with
      | func f =>
        refine Def1.orK (fun it => ?_) (Def1.chk (Def1.optK fun cs => Def1.res _ _))
        split
        · exact Def1.optK fun q => Def1.chk (Def1.and (Def1.res _ _))
        · exact Def1.no
      | _ => exact Def1.no
    | lookup t x k ok =>
      refine Def1.isMp (fun l q K es => Def1.mpOf fun p k' i => Def1.chk (Def1.oneIK fun k'' n => Def1.chk ?_)) (Def1.optK fun _ => Def1.chk (Def1.keyS fun xs key => Def1.giv fun r => Def1.res _ _))
      cases ok with
      | false => exact Def1.letE fun _ => Def1.res _ _
      | true => exact Def1.letE fun _ => Def1.letE fun _ => Def1.res _ _
    | mapUpdate t x k v => exact Def1.isMp (fun l q K es => Def1.mpOf fun p k' i => Def1.chk (Def1.oneIK fun k'' n => Def1.chk (Def1.optK fun r => Def1.chk (Def1.letE fun _ => Def1.res _ _)))) (Def1.optK fun _ => Def1.keyS fun xs key => Def1.oneIK fun q n => Def1.chk (Def1.and (Def1.res _ _)))
    | makeMap t r =>
      cases r with
      | none => exact Def1.mpOf fun p k' i => Def1.res _ _
      | some r => exact Def1.no
    | makeSlice t l c => exact Def1.optK fun e => Def1.optK fun i => Def1.chk (Def1.oneI fun n => Def1.oneI fun m => Def1.and (Def1.and (Def1.and (Def1.res _ _))))
    | slice t x lo hi mx =>
      refine Def1.mkOr (fun p => Def1.chk (Def1.optK fun i => Def1.chk (Def1.oneC fun c => ?_))) (Def1.optK fun e => Def1.optK fun i => Def1.oneC fun c => Def1.bcond ?_ (Def1.optK fun d => Def1.chk (Def1.optI fun l => Def1.optI fun u => Def1.and (Def1.and (Def1.and ?_)))))
      · split
        · exact Def1.optI fun l => Def1.optI fun u => Def1.and (Def1.and (Def1.and (Def1.res _ _)))
        · exact Def1.no
      · unfold subS
        split
        · split
          · exact Def1.chk (Def1.optI fun l => Def1.optI fun u => Def1.and (Def1.and (Def1.and (Def1.res _ _))))
          · exact Def1.no
        · exact Def1.no
      cases mx with
      | none => exact Def1.chk (Def1.res _ _)
      | some a => exact Def1.chk (Def1.oneI fun m => Def1.and (Def1.res _ _))
    | fieldAddr t x f => exact Def1.optK fun e => Def1.optK fun i => Def1.chk (Def1.oneC fun c => Def1.optK fun d => Def1.res _ _)
    | field t x f =>
      refine Def1.optK fun e => Def1.optK fun i => ?_
      split
      · exact Def1.chk (Def1.res _ _)
      · exact Def1.no
    | index t x ix =>
      refine Def1.orK (fun p => Def1.optK fun i => ?_) ?_
      · split
        · exact Def1.idxV (fun c => Def1.res _ _) (Def1.idxArr fun k => Def1.chk (Def1.res _ _))
        · exact Def1.no
      · refine Def1.optK fun i => Def1.chk (Def1.oneC fun c => ?_)
        split
        · exact Def1.oneI fun j => Def1.and (Def1.and (Def1.res _ _))
        · exact Def1.no
    | indexAddr t x ix =>
      refine Def1.mkOr (fun p => Def1.optK fun i => Def1.chk (Def1.oneC fun c => Def1.idxPt (fun c' => Def1.res _ _) (Def1.idxArr fun k => Def1.optK fun c' => Def1.res _ _))) (Def1.optK fun e => Def1.optK fun i => Def1.oneC fun c => Def1.oneI fun j => ?_)
      unfold idxS
      split
      · split
        · exact Def1.chk (Def1.and (Def1.and (Def1.res _ _)))
        · exact Def1.chk (Def1.and (Def1.and (Def1.res _ _)))
        · exact Def1.chk (Def1.and (Def1.and (Def1.res _ _)))
        · exact Def1.chk (Def1.and (Def1.and (Def1.res _ _)))
        · exact Def1.no
      · split
        · exact Def1.chk (Def1.and (Def1.and (Def1.res _ _)))
        · exact Def1.no
      · exact Def1.no
      · exact Def1.optK fun d => Def1.chk (Def1.and (Def1.and (Def1.res _ _)))
    | extract t ix =>
      simp only
      split
      · split
        · exact Def1.res _ _
        · exact Def1.no
      · exact Def1.no
    | call c =>
      simp only
      split
      · split
        · exact Def1.optK fun _ => Def1.oneC fun a => Def1.optK fun d => Def1.res _ _
        · exact Def1.no
      · split
        · refine Def1.optK fun e => Def1.optK fun i => Def1.oneC fun d => ?_
          unfold clearS
          split
          · split
            · exact Def1.chk (Def1.res _ _)
            · exact Def1.no
          · exact Def1.no
        · exact Def1.no
      · split
        · exact Def1.oneIK fun q a => Def1.oneI fun b => Def1.res _ _
        · exact Def1.no
      · split
        · exact Def1.oneIK fun q a => Def1.oneI fun b => Def1.res _ _
        · exact Def1.no
      · split
        · refine Def1.optK fun e => Def1.optK fun i => Def1.oneC fun d => Def1.oneC fun s => ?_
          unfold copyS copyTo
          split
          · split
            · refine Def1.optK fun ys => ?_
              split
              · exact Def1.chk (Def1.dite fun h => Def1.res _ _)
              · exact Def1.no
            · exact Def1.no
          · split
            · refine Def1.chk (Def1.optK fun ys => ?_)
              split
              · exact Def1.chk (Def1.dite fun h => Def1.res _ _)
              · exact Def1.no
            · exact Def1.no
          · exact Def1.no
        · exact Def1.no
      · split
        · refine Def1.chk (Def1.optK fun e => Def1.optK fun i => Def1.oneC fun a => Def1.oneC fun b => Def1.isMat (fun m nn ag e1 K1 ys => Def1.chk Def1.appM) (Def1.optK fun d => Def1.chk (Def1.dite fun h => ?_)))
          unfold appS
          split
          · exact Def1.and (Def1.res _ _)
          · split
            · exact Def1.chk (Def1.dite fun h' => Def1.and (Def1.res _ _))
            · exact Def1.no
          · exact Def1.dite fun h' => Def1.and (Def1.and (Def1.res _ _))
          · split
            · exact Def1.chk (Def1.dite fun h' => Def1.and (Def1.res _ _))
            · exact Def1.no
          · exact Def1.no
        · exact Def1.no
      · refine Def1.oneC fun g => ?_
        split
        · refine Def1.bcond ?_ (Def1.bcond ?_ (Def1.mkOr (fun p => ?_) (Def1.orK (fun w => Def1.ioS) (Def1.orK (fun w => Def1.hovS) (Def1.optK fun ct => Def1.optK fun p => Def1.optK fun q => ?_)))))
          · unfold clipS
            split
            · exact Def1.oneC fun c => Def1.optK fun d => Def1.chk (Def1.res _ _)
            · exact Def1.no
          · unfold inlS
            split
            · exact Def1.oneC fun c => Def1.res _ _
            · exact Def1.no
          · unfold mkS
            split
            · exact Def1.cellsOf fun ds => Def1.res _ _
            · exact Def1.no
          · unfold callS
            cases ct.own with
            | true => exact Def1.chk (Def1.giv fun r => Def1.res _ _)
            | false =>
            cases ct.fresh with
            | true => exact Def1.giv fun r => Def1.res _ _
            | false => exact Def1.chk (Def1.giv fun r => Def1.res _ _)
        · exact Def1.optK fun p => Def1.chk (Def1.giv fun r => Def1.res _ _)
        · exact Def1.no
      · exact Def1.no
    | _ => exact Def1.no
  exact key Q h
end
end Go.GX
set_option linter.unusedVariables false
namespace Go.GX
variable [Inhabited BaseD]
open Go.RowKit Go.Shelf Go.Proofs

theorem ev_dom (S : Stat) (st : St) (d : List Nat) (t : TypeId) (x : Operand) : ev S { st with dom := d } t x = ev S st t x := by cases x <;> rfl

theorem partsS_dom (S : Stat) (st : St) (d : List Nat) (t : TypeId) (n : Nat) : ∀ (ps : List (Nat × Operand)) (k : List (Nat × List SC) → Prop), partsS S { st with dom := d } t n ps k = partsS S st t n ps k
  | [], k => rfl
  | (i, x) :: r, k => by simp only [partsS, ev_dom, partsS_dom S st d t n r]

theorem partsA_dom (S : Stat) (st : St) (d : List Nat) (e : TypeId) (sz n : Nat) : ∀ (ps : List (Nat × Operand)) (k : List (Nat × List SC) → Prop), partsA S { st with dom := d } e sz n ps k = partsA S st e sz n ps k
  | [], k => rfl
  | (i, x) :: r, k => by simp only [partsA, ev_dom, partsA_dom S st d e sz n r]

theorem elemsS_dom (S : Stat) (st : St) (d : List Nat) (e : TypeId) (n : Nat) : ∀ (ps : List (Nat × Operand)) (i : Nat) (k : List SC → Prop), elemsS S { st with dom := d } e n i ps k = elemsS S st e n i ps k
  | [], i, k => rfl
  | (j, x) :: r, i, k => by simp only [elemsS, ev_dom, elemsS_dom S st d e n r]

theorem sem_dom (S : Stat) (dr : Bool) (st : St) (d : List Nat) (lab : Nat) (o : Oper) (Q : Eff) : sem S dr { st with dom := d } lab o Q = sem S dr st lab o Q := by
  unfold sem
  cases o.op <;> try rfl
  case makeMap t r => cases r <;> rfl
  case build t ps => simp only [partsS_dom, partsA_dom]
  case buildSlice t n ps =>
    simp only [elemsS_dom]
    rfl
  case makeFunc fn fi caps =>
    have hev : ev S { st with dom := d } 0 = ev S st 0 := funext fun x => ev_dom S st d 0 x
    cases fn with
    | func f => simp only [itmS]; rw [hev]; rfl
    | _ => rfl

theorem noLnU_spec {l : Nat} {h : HE} : ∀ {u : List (Nat × Option HE)}, noLnU u = true → lastU u l = some (some h) → h.isLn = false
  | (k, x) :: r, hn, hl => by
    simp only [noLnU, Bool.and_eq_true] at hn
    simp only [lastU] at hl
    cases hr : lastU r l with
    | some y =>
      rw [hr] at hl
      cases hl
      exact noLnU_spec hn.2 hr
    | none =>
      rw [hr] at hl
      cases hb : Nat.beq l k with
      | false => rw [hb] at hl; cases hl
      | true =>
        rw [hb] at hl
        cases hl
        have h1 := hn.1
        cases h <;> first | rfl | cases h1

theorem look_hp {st : St} {l : Nat} {h : HE} : st.look l = some h ↔ ∃ s, st.hp l = some (h, s) := by
  constructor
  · exact look_some
  · rintro ⟨s, hs⟩; simp [St.look, hs]

section
variable {P : Program} {glb : Nat → Option GV} {Bk X0 : Nat → Prop} {w0 : World} {st st' : St} {ρ ρ' : Lab} {a : Act} {W W' : World} {S : Stat} {lab : Nat} {o : Oper} {Q : Eff}

theorem xs_look {k : Nat} : Xs st ρ X0 k ↔ X0 k ∨ ∃ l he v, st.look l = some he ∧ ρ l = some v ∧ OwnB ρ he v k := by
  constructor
  · rintro (h | ⟨l, he, s, v, h1, h2, h3⟩)
    · exact .inl h
    · exact .inr ⟨l, he, v, look_hp.2 ⟨s, h1⟩, h2, h3⟩
  · rintro (h | ⟨l, he, v, h1, h2, h3⟩)
    · exact .inl h
    · obtain ⟨s, hs⟩ := look_hp.1 h1
      exact .inr ⟨l, he, s, v, hs, h2, h3⟩

theorem Mt.same (m : Mt P glb Bk X0 w0 st ρ a W) (hn : st'.n = st.n) (htm : ∀ t, st'.tm t = st.tm t) (hl : ∀ l, st'.look l = st.look l) (hd : ∀ l v, ρ l = some v → memL l st'.dom = true) (hs : ∀ l he s, st'.hp l = some (he, s) → s ≤ st'.cnt) : Mt P glb Bk X0 w0 st' ρ a W := by
  have hX : Xs st' ρ X0 = Xs st ρ X0 := by
    funext k
    apply propext
    rw [xs_look, xs_look]
    simp only [hl]
  have back : ∀ {l he s}, st'.hp l = some (he, s) → ∃ s', st.hp l = some (he, s') := by
    intro l he s h
    have := look_hp.2 ⟨s, h⟩
    rw [hl] at this
    exact look_hp.1 this
  refine ⟨by rw [hn]; exact m.size, m.dfr, fun t => by rw [hX, htm]; exact m.tms t, fun l he s h => ?_, fun l l' he he' s s' v v' k h h' => ?_, m.x0, m.bk, m.bel, fun l he s v k h => ?_, by rw [hX]; exact m.glb, hd, hs⟩
  · obtain ⟨s', h'⟩ := back h
    rw [hX]; exact m.hps l he s' h'
  · obtain ⟨s1, h1⟩ := back h
    obtain ⟨s2, h2⟩ := back h'
    exact m.dis l l' he he' s1 s2 v v' k h1 h2
  · obtain ⟨s1, h1⟩ := back h
    exact m.nb l he s1 v k h1

def OwnIn (st : St) (ρ : Lab) (mem : List Nat) (k : Nat) : Prop := ∃ l he v, memL l mem = true ∧ st.look l = some he ∧ ρ l = some v ∧ OwnB ρ he v k

theorem mask_hp {rd mem dom : List Nat} {l : Nat} {he : HE} {s : Nat} (h : (st.mask rd mem dom).hp l = some (he, s)) : memL l mem = true ∧ st.look l = some he ∧ s = 0 := by
  simp only [St.mask] at h
  cases hm : memL l mem with
  | false => rw [hm] at h; cases h
  | true =>
    rw [hm, cond_true] at h
    cases hl : st.look l with
    | none => rw [hl] at h; cases h
    | some x => rw [hl] at h; cases h; exact ⟨rfl, rfl, rfl⟩

theorem mask_look {rd mem dom : List Nat} {l : Nat} : (st.mask rd mem dom).look l = cond (memL l mem) (st.look l) none := by
  simp only [St.mask, St.look]
  cases memL l mem with
  | false => rfl
  | true =>
    simp only [cond_true]
    cases st.hp l <;> rfl

def OwnW (st : St) (ρ : Lab) (mem : List Nat) (k : Nat) : Prop := ∃ l he v, memL l mem = true ∧ st.look l = some he ∧ ρ l = some v ∧ OwnB ρ he v k ∧ he.isLn = false

theorem OwnW.own {ρ : Lab} {mem : List Nat} {k : Nat} (h : OwnW st ρ mem k) : OwnIn st ρ mem k :=
  let ⟨l, he, v, h1, h2, h3, h4, _⟩ := h; ⟨l, he, v, h1, h2, h3, h4⟩

def bkOf (st : St) (ρ : Lab) (mem : List Nat) (W : World) (k : Nat) : Prop := k < W.heap.size ∧ ¬ OwnW st ρ mem k
def xOf (st : St) (ρ : Lab) (X0 : Nat → Prop) (mem : List Nat) (W : World) (k : Nat) : Prop := Xs st ρ X0 k ∧ k < W.heap.size ∧ ¬ OwnIn st ρ mem k

theorem Mt.part (m : Mt P glb Bk X0 w0 st ρ a W) (rd mem : List Nat) : Mt P glb (bkOf st ρ mem W) (xOf st ρ X0 mem W) W (st.mask rd mem st.dom) ρ { a with defers := [] } W := by
  have hsub : ∀ k, Xs (st.mask rd mem st.dom) ρ (xOf st ρ X0 mem W) k → Xs st ρ X0 k := by
    rintro k (h | ⟨l, he, s, v, h1, h2, h3⟩)
    · exact h.1
    · obtain ⟨_, hl, _⟩ := mask_hp h1
      exact xs_look.2 (.inr ⟨l, he, v, hl, h2, h3⟩)
  have ev : Evo (Xs st ρ X0) W (Xs (st.mask rd mem st.dom) ρ (xOf st ρ X0 mem W)) W := Evo.mono (fun k hk => m.Xlt k (hsub k hk)) hsub
  refine ⟨m.size, DefOK.nil, fun t => ?_, fun l he s h => ?_, fun l l' he he' s s' v v' k h h' => ?_, fun k hk => hk.2.1, fun k hk => hk.1, .refl _ _, fun l he s v k h h2 h3 => ?_, ?_, m.dom, fun l he s h => ?_⟩
  · simp only [St.mask]
    cases memL t rd with
    | false => trivial
    | true => exact (m.tms t).mono ρ.le_refl ev
  · obtain ⟨_, hl, _⟩ := mask_hp h
    obtain ⟨s', hs'⟩ := look_hp.1 hl
    obtain ⟨v, hv, hok⟩ := m.hps l he s' hs'
    exact ⟨v, hv, hok.mono ρ.le_refl ev (fun _ _ => rfl)⟩
  · obtain ⟨_, hl, _⟩ := mask_hp h
    obtain ⟨_, hl', _⟩ := mask_hp h'
    obtain ⟨s1, hs1⟩ := look_hp.1 hl
    obtain ⟨s2, hs2⟩ := look_hp.1 hl'
    exact m.dis l l' he he' s1 s2 v v' k hs1 hs2
  · obtain ⟨hm, hl, _⟩ := mask_hp h
    have ho : OwnIn st ρ mem k := ⟨l, he, v, hm, hl, h2, h3⟩
    exact ⟨fun hl2 hb => hb.2 ⟨l, he, v, hm, hl, h2, h3, hl2⟩, fun hx => hx.2.2 ho⟩
  · exact m.glb.evo ev
  · obtain ⟨_, _, hs⟩ := mask_hp h
    rw [hs]; exact Nat.zero_le _

theorem Mt.whole (m : Mt P glb Bk X0 w0 st ρ a W) (rd mem : List Nat) (u : List (Nat × Option HE)) (hu : ∀ l h, lastU u l = some (some h) → h.isLn = false) (hle : ρ.le ρ')
    (m' : Mt P glb (bkOf st ρ mem W) (xOf st ρ X0 mem W) W ((st.mask rd mem st.dom).upds u) ρ' { a with defers := [] } W') :
    Mt P glb Bk X0 w0 (st.upds u) ρ' a W' ∧ (∀ k, Xs (st.upds u) ρ' X0 k → Xs ((st.mask rd mem st.dom).upds u) ρ' (xOf st ρ X0 mem W) k) := by
  have hρ : ∀ {l he}, st.look l = some he → ∀ {v}, ρ' l = some v → ρ l = some v := by
    intro l he h v hv
    obtain ⟨s, hs⟩ := look_hp.1 h
    obtain ⟨v', hv', _⟩ := m.hps l he s hs
    have := hle l v' hv'
    rw [hv] at this; cases this
    exact hv'
  have hρB : ∀ {l he}, st.look l = some he → ∀ {v k}, ρ' l = some v → OwnB ρ' he v k → OwnB ρ he v k := by
    intro l he h v k hv hk
    obtain ⟨s, hs⟩ := look_hp.1 h
    obtain ⟨v', hv', hok⟩ := m.hps l he s hs
    have := hρ h hv
    rw [hv'] at this; cases this
    exact hk.back hok hle

  have look : ∀ l, (st.upds u).look l = ((st.mask rd mem st.dom).upds u).look l ∨ (lastU u l = none ∧ memL l mem = false ∧ (st.upds u).look l = st.look l) := by
    intro l
    rw [upds_look, upds_look, mask_look]
    cases lastU u l with
    | some x => exact .inl rfl
    | none =>
      cases memL l mem with
      | true => exact .inl rfl
      | false => exact .inr ⟨rfl, rfl, rfl⟩
  have notIn : ∀ {l he v k}, memL l mem = false → st.look l = some he → ρ l = some v → OwnB ρ he v k → k < W.heap.size ∧ ¬ OwnIn st ρ mem k := by
    intro l he v k hm hl hv hk
    obtain ⟨s, hs⟩ := look_hp.1 hl
    refine ⟨m.Xlt k (xs_look.2 (.inr ⟨l, he, v, hl, hv, hk⟩)), ?_⟩
    rintro ⟨l2, he2, v2, hm2, hl2, hv2, hk2⟩
    obtain ⟨s2, hs2⟩ := look_hp.1 hl2
    have := m.dis l l2 he he2 s s2 v v2 k hs hs2 hv hv2 hk hk2
    subst this
    rw [hm] at hm2; cases hm2
  have ownX : ∀ {k}, OwnIn st ρ mem k → Xs st ρ X0 k := by
    rintro k ⟨l, he, v, _, g1, g2, g3⟩
    exact xs_look.2 (.inr ⟨l, he, v, g1, g2, g3⟩)
  have bk0 : ∀ {k}, Bk k → bkOf st ρ mem W k := by
    intro k hk
    refine ⟨Nat.lt_of_lt_of_le (m.bk k hk) m.bel.size, ?_⟩
    rintro ⟨l, he, v, _, g1, g2, g3, g4⟩
    obtain ⟨s, hs⟩ := look_hp.1 g1
    exact (m.nb l he s v k hs g2 g3).1 g4 hk
  have sub : ∀ k, Xs (st.upds u) ρ' X0 k → Xs ((st.mask rd mem st.dom).upds u) ρ' (xOf st ρ X0 mem W) k := by
    intro k hk
    rcases xs_look.1 hk with h | ⟨l, he, v, h1, h2, h3⟩
    · refine .inl ⟨.inl h, m.x0 k h, ?_⟩
      rintro ⟨l, he, v, _, g1, g2, g3⟩
      obtain ⟨s, hs⟩ := look_hp.1 g1
      exact (m.nb l he s v k hs g2 g3).2 h
    · rcases look l with hl | ⟨_, hm, hl⟩
      · rw [hl] at h1
        exact xs_look.2 (.inr ⟨l, he, v, h1, h2, h3⟩)
      · rw [hl] at h1
        have hv := hρ h1 h2
        have h3 := hρB h1 h2 h3
        exact .inl ⟨xs_look.2 (.inr ⟨l, he, v, h1, hv, h3⟩), notIn hm h1 hv h3⟩
  have hsz : W.heap.size ≤ W'.heap.size := m'.bel.size
  have ev : Evo (Xs st ρ X0) W (Xs (st.upds u) ρ' X0) W' := by
    refine ⟨hsz, fun k hk hx => m'.bel.block k ⟨(let ⟨_, _, _, h⟩ := hk; (Array.getElem?_eq_some_iff.1 h).1), fun ho => hx (ownX ho.own)⟩ (noMap_cells hk), fun k hk hlt => ?_, fun k hk => m'.Xlt k (sub k hk), fun mm xs hp hg => m'.bel.memo mm xs (hp.mono fun k hx hk hn => hn ⟨cells_lt hk, fun ho => hx (ownX ho.own)⟩) hg⟩
    rcases xs_look.1 (sub k hk) with h | ⟨l, he, v, h1, h2, h3⟩
    · exact h.1
    · obtain ⟨s, hs⟩ := look_hp.1 h1
      have hnb := m'.nb l he s v k hs h2 h3
      cases hl2 : he.isLn with
      | false => exact Classical.byContradiction fun hn => hnb.1 hl2 ⟨hlt, fun ho => hn (ownX ho.own)⟩
      | true =>
        rw [upds_look] at h1
        cases hq : lastU u l with
        | some x =>
          rw [hq] at h1
          subst h1
          rw [hu l he hq] at hl2; cases hl2
        | none =>
          rw [hq, mask_look] at h1
          cases hm : memL l mem with
          | false => rw [hm] at h1; cases h1
          | true =>
            rw [hm] at h1
            have h1 : st.look l = some he := h1
            exact ownX ⟨l, he, v, hm, h1, hρ h1 h2, hρB h1 h2 h3⟩
  have ev' : Evo (Xs ((st.mask rd mem st.dom).upds u) ρ' (xOf st ρ X0 mem W)) W' (Xs (st.upds u) ρ' X0) W' := Evo.mono (fun k hk => m'.Xlt k (sub k hk)) sub
  refine ⟨⟨by rw [upds_n]; exact m.size, m.dfr.keep (fun D hD => m'.bel.block D ⟨(Array.getElem?_eq_some_iff.1 hD).1, ?_⟩ (fun _ es c h => (by rw [hD] at h; cases h))), fun t => ?_, fun l he s h => ?_, fun l l' he he' s s' v v' k h h' h2 h2' h3 h3' => ?_, fun k hk => Nat.lt_of_lt_of_le (m.x0 k hk) hsz, m.bk, ?_, fun l he s v k h h2 h3 => ?_, m.glb.evo ev, fun l v hv => ?_, ?_⟩, sub⟩
  · rintro ⟨l, he, v, _, g1, g2, g3, _⟩
    obtain ⟨s, hs⟩ := look_hp.1 g1
    obtain ⟨v2, hv2, hok⟩ := m.hps l he s hs
    rw [g2] at hv2; injection hv2 with hv2; subst hv2
    exact hok.no g3 hD (fun _ _ _ h => by cases h) (fun _ _ h => by cases h)
  · rw [upds_tm]; exact (m.tms t).mono hle ev
  · have hlk := look_hp.2 ⟨s, h⟩
    rcases look l with hl | ⟨_, hm, hl⟩
    · rw [hl] at hlk
      obtain ⟨s', hs'⟩ := look_hp.1 hlk
      obtain ⟨v, hv, hok⟩ := m'.hps l he s' hs'
      exact ⟨v, hv, hok.mono ρ'.le_refl ev' (fun _ _ => rfl)⟩
    · rw [hl] at hlk
      obtain ⟨s', hs'⟩ := look_hp.1 hlk
      obtain ⟨v, hv, hok⟩ := m.hps l he s' hs'
      exact ⟨v, hle l v hv, hok.mono hle ev (fun k hk => m'.bel.block k ⟨(notIn hm hlk hv hk).1, fun ho => (notIn hm hlk hv hk).2 ho.own⟩ (hok.noMap hk))⟩
  · have hlk := look_hp.2 ⟨s, h⟩
    have hlk' := look_hp.2 ⟨s', h'⟩
    rcases look l with hl | ⟨_, hm, hl⟩ <;> rcases look l' with hl' | ⟨_, hm', hl'⟩ <;> rw [hl] at hlk <;> rw [hl'] at hlk'
    · obtain ⟨s1, hs1⟩ := look_hp.1 hlk
      obtain ⟨s2, hs2⟩ := look_hp.1 hlk'
      exact m'.dis l l' he he' s1 s2 v v' k hs1 hs2 h2 h2' h3 h3'
    · obtain ⟨s1, hs1⟩ := look_hp.1 hlk
      have h3' := hρB hlk' h2' h3'
      have hn := notIn hm' hlk' (hρ hlk' h2') h3'
      exact absurd (show xOf st ρ X0 mem W k from ⟨xs_look.2 (.inr ⟨l', he', v', hlk', hρ hlk' h2', h3'⟩), hn⟩) (m'.nb l he s1 v k hs1 h2 h3).2
    · obtain ⟨s2, hs2⟩ := look_hp.1 hlk'
      have h3 := hρB hlk h2 h3
      have hn := notIn hm hlk (hρ hlk h2) h3
      exact absurd (show xOf st ρ X0 mem W k from ⟨xs_look.2 (.inr ⟨l, he, v, hlk, hρ hlk h2, h3⟩), hn⟩) (m'.nb l' he' s2 v' k hs2 h2' h3').2
    · obtain ⟨s1, hs1⟩ := look_hp.1 hlk
      obtain ⟨s2, hs2⟩ := look_hp.1 hlk'
      exact m.dis l l' he he' s1 s2 v v' k hs1 hs2 (hρ hlk h2) (hρ hlk' h2') (hρB hlk h2 h3) (hρB hlk' h2' h3')
  · exact m.bel.trans (m'.bel.mono fun k hk => bk0 hk)
  · have hlk := look_hp.2 ⟨s, h⟩
    rcases look l with hl | ⟨_, hm, hl⟩ <;> rw [hl] at hlk
    · obtain ⟨s1, hs1⟩ := look_hp.1 hlk
      have h4 := m'.nb l he s1 v k hs1 h2 h3
      refine ⟨fun hl2 hb => h4.1 hl2 (bk0 hb), fun hx => h4.2 ⟨.inl hx, m.x0 k hx, ?_⟩⟩
      rintro ⟨l, he, v, _, g1, g2, g3⟩
      obtain ⟨s, hs⟩ := look_hp.1 g1
      exact (m.nb l he s v k hs g2 g3).2 hx
    · obtain ⟨s1, hs1⟩ := look_hp.1 hlk
      exact m.nb l he s1 v k hs1 (hρ hlk h2) (hρB hlk h2 h3)
  · have := m'.dom l v hv
    rw [upds_dom] at this ⊢
    exact this
  · exact upds_stamp u st m.stamp
end
end Go.GX
set_option linter.unusedVariables false
namespace Go.GX
variable [Inhabited BaseD]
open Go.RowKit Go.Shelf Go.Proofs

structure Ef where
  r : Rec
  sv : SV
  u : List (Nat × Option HE)

def Ef.app (e : Ef) (st : St) : St := (st.upds e.u).put e.r.wr e.sv
def allE (es : List Ef) (st : St) : St := es.foldl (fun st e => e.app st) st
def appD (D : Nat → Bool) : List Ef → Nat → St → St
  | [], _, st => st
  | e :: r, q, st => appD D r (q + 1) (cond (D q) (e.app st) st)

theorem app_tm (e : Ef) (st : St) (t : Nat) : (e.app st).tm t = match e.r.wr with
    | some d => cond (Nat.beq t d) e.sv (st.tm t)
    | none => st.tm t := by
  unfold Ef.app
  cases e.r.wr with
  | none => simp [St.put, upds_tm]
  | some d => simp [St.put, updf, upds_tm]

theorem put_look (st : St) (d : Option Nat) (sv : SV) (l : Nat) : (st.put d sv).look l = st.look l := by cases d <;> rfl
theorem put_n (st : St) (d : Option Nat) (sv : SV) : (st.put d sv).n = st.n := by cases d <;> rfl
theorem put_dom (st : St) (d : Option Nat) (sv : SV) : (st.put d sv).dom = st.dom := by cases d <;> rfl
theorem put_hp (st : St) (d : Option Nat) (sv : SV) : (st.put d sv).hp = st.hp := by cases d <;> rfl
theorem put_cnt (st : St) (d : Option Nat) (sv : SV) : (st.put d sv).cnt = st.cnt := by cases d <;> rfl

theorem app_look (e : Ef) (st : St) (l : Nat) : (e.app st).look l = match lastU e.u l with
    | some x => x
    | none => st.look l := by
  unfold Ef.app
  rw [put_look, upds_look]
  cases lastU e.u l <;> rfl

theorem app_n (e : Ef) (st : St) : (e.app st).n = st.n := by unfold Ef.app; rw [put_n, upds_n]
theorem app_dom (e : Ef) (st : St) (l : Nat) : memL l (e.app st).dom = (memL l (e.u.map (·.1)) || memL l st.dom) := by unfold Ef.app; rw [put_dom, upds_dom]
theorem app_frm (e : Ef) (st : St) (wr : List Nat) (h : ∀ d, e.r.wr = some d → d ∈ wr) : Frm st (e.app st) wr := (upds_frm wr e.u st).trans (put_frm _ _ _ _ h)
theorem app_stamp (e : Ef) (st : St) (h : ∀ l he s, st.hp l = some (he, s) → s ≤ st.cnt) : ∀ l he s, (e.app st).hp l = some (he, s) → s ≤ (e.app st).cnt := by
  unfold Ef.app
  rw [put_hp, put_cnt]
  exact upds_stamp e.u st h

def EqOn (rd mem : List Nat) (st st' : St) : Prop := (∀ t, memL t rd = true → st.tm t = st'.tm t) ∧ ∀ l, memL l mem = true → st.look l = st'.look l
def NoTouch (e : Ef) (rd mem : List Nat) : Prop := (∀ d, e.r.wr = some d → memL d rd = false) ∧ ∀ l, memL l mem = true → memL l (e.u.map (·.1)) = false

theorem EqOn.app {rd mem : List Nat} {st st' : St} (h : EqOn rd mem st st') (e : Ef) : EqOn rd mem (e.app st) (e.app st') := by
  refine ⟨fun t ht => ?_, fun l hl => ?_⟩
  · rw [app_tm, app_tm, h.1 t ht]
  · rw [app_look, app_look, h.2 l hl]

theorem NoTouch.left {rd mem : List Nat} {st st' : St} {e : Ef} (hn : NoTouch e rd mem) (h : EqOn rd mem st st') : EqOn rd mem (e.app st) st' := by
  refine ⟨fun t ht => ?_, fun l hl => ?_⟩
  · rw [app_tm]
    cases hw : e.r.wr with
    | none => exact h.1 t ht
    | some d =>
      have : t ≠ d := by
        intro hh; subst hh
        rw [hn.1 t hw] at ht; cases ht
      simp only [beq_ne this, cond_false]
      exact h.1 t ht
  · rw [app_look, lastU_none (hn.2 l hl)]
    exact h.2 l hl

theorem EqOn.symm {rd mem : List Nat} {st st' : St} (h : EqOn rd mem st st') : EqOn rd mem st' st := ⟨fun t ht => (h.1 t ht).symm, fun l hl => (h.2 l hl).symm⟩

theorem part_eq (D : Nat → Bool) (rd mem : List Nat) (i : Nat) : ∀ (es : List Ef) (q : Nat) (st st' : St), EqOn rd mem st st' →
    (∀ k e, es[k]? = some e → q + k < i → D (q + k) = false → NoTouch e rd mem) → (∀ k e, es[k]? = some e → i ≤ q + k → D (q + k) = true → NoTouch e rd mem) →
    EqOn rd mem (appD D es q st) (allE (es.take (i - q)) st')
  | [], q, st, st', h, _, _ => by simpa [allE, appD] using h
  | e :: r, q, st, st', h, h1, h2 => by
    have h1' : ∀ k e, r[k]? = some e → q + 1 + k < i → D (q + 1 + k) = false → NoTouch e rd mem := fun k e he hk hd => h1 (k + 1) e (by simpa using he) (by omega) (by rw [show q + (k + 1) = q + 1 + k by omega]; exact hd)
    have h2' : ∀ k e, r[k]? = some e → i ≤ q + 1 + k → D (q + 1 + k) = true → NoTouch e rd mem := fun k e he hk hd => h2 (k + 1) e (by simpa using he) (by omega) (by rw [show q + (k + 1) = q + 1 + k by omega]; exact hd)
    by_cases hq : q < i
    · have : i - q = (i - (q + 1)) + 1 := by omega
      rw [this, List.take_succ_cons]
      simp only [appD, allE, List.foldl_cons]
      refine part_eq D rd mem i r (q + 1) _ _ ?_ h1' h2'
      cases hd : D q with
      | true => exact h.app e
      | false => exact (NoTouch.left (h1 0 e rfl (by omega) (by simpa using hd)) h.symm).symm
    · have hz : i - q = 0 := by omega
      rw [hz, List.take_zero]
      have := part_eq D rd mem i r (q + 1) (cond (D q) (e.app st) st) st' (by
        cases hd : D q with
        | true => exact NoTouch.left (h2 0 e rfl (by omega) (by simpa using hd)) h
        | false => exact h) h1' h2'
      have hz' : i - (q + 1) = 0 := by omega
      rw [hz', List.take_zero] at this
      exact this

def EqAll (st st' : St) : Prop := (∀ t, st.tm t = st'.tm t) ∧ ∀ l, st.look l = st'.look l
theorem EqAll.refl (st : St) : EqAll st st := ⟨fun _ => rfl, fun _ => rfl⟩
theorem EqAll.trans {a b c : St} (h : EqAll a b) (k : EqAll b c) : EqAll a c := ⟨fun t => (h.1 t).trans (k.1 t), fun l => (h.2 l).trans (k.2 l)⟩
theorem EqAll.app {st st' : St} (h : EqAll st st') (e : Ef) : EqAll (e.app st) (e.app st') := by
  refine ⟨fun t => ?_, fun l => ?_⟩
  · rw [app_tm, app_tm, h.1 t]
  · rw [app_look, app_look, h.2 l]

def Comm (e f : Ef) : Prop := (∀ d, e.r.wr = some d → f.r.wr ≠ some d) ∧ ∀ l, memL l (e.u.map (·.1)) = true → memL l (f.u.map (·.1)) = false

theorem Comm.swap {e f : Ef} (h : Comm e f) (st : St) : EqAll (e.app (f.app st)) (f.app (e.app st)) := by
  refine ⟨fun t => ?_, fun l => ?_⟩
  · rw [app_tm, app_tm, app_tm, app_tm]
    cases he : e.r.wr with
    | none => rfl
    | some d =>
      cases hf : f.r.wr with
      | none => rfl
      | some d' =>
        simp only
        by_cases h1 : t = d
        · subst h1
          have : t ≠ d' := by intro hh; subst hh; exact h.1 t he hf
          simp [beq_ne this]
        · rw [beq_ne h1]; rfl
  · rw [app_look, app_look, app_look, app_look]
    cases hm : memL l (e.u.map (·.1)) with
    | true =>
      obtain ⟨x, hx⟩ := lastU_some hm
      rw [hx, lastU_none (h.2 l hm)]
    | false => rw [lastU_none hm]

theorem appD_eqAll (D : Nat → Bool) : ∀ (es : List Ef) (q : Nat) {st st' : St}, EqAll st st' → EqAll (appD D es q st) (appD D es q st')
  | [], q, st, st', h => h
  | e :: r, q, st, st', h => by
    simp only [appD]
    refine appD_eqAll D r (q + 1) ?_
    cases D q with
    | true => exact h.app e
    | false => exact h

theorem appD_comm (D : Nat → Bool) (f : Ef) : ∀ (es : List Ef) (q : Nat) (st : St), (∀ k e, es[k]? = some e → D (q + k) = true → Comm e f) → EqAll (appD D es q (f.app st)) (f.app (appD D es q st))
  | [], q, st, _ => EqAll.refl _
  | e :: r, q, st, h => by
    simp only [appD]
    have ih := fun st => appD_comm D f r (q + 1) st (fun k e he hd => h (k + 1) e (by simpa using he) (by rw [show q + (k + 1) = q + 1 + k by omega]; exact hd))
    cases hd : D q with
    | true => exact (appD_eqAll D r (q + 1) ((h 0 e rfl (by simpa using hd)).swap st)).trans (ih _)
    | false => exact ih _

theorem appD_congr {D D' : Nat → Bool} : ∀ (es : List Ef) (q : Nat) (st : St), (∀ k, q ≤ k → D k = D' k) → appD D es q st = appD D' es q st
  | [], q, st, _ => rfl
  | e :: r, q, st, h => by
    simp only [appD]
    rw [h q (Nat.le_refl _)]
    exact appD_congr r (q + 1) _ (fun k hk => h k (by omega))

theorem appD_insert {D D' : Nat → Bool} (i : Nat) (f : Ef) (hD : D i = false) (hD' : D' i = true) (hDD : ∀ k, k ≠ i → D' k = D k) : ∀ (es : List Ef) (q : Nat) (st : St), q ≤ i → es[i - q]? = some f → (∀ k e, es[k]? = some e → i < q + k → D (q + k) = true → Comm e f) →
    EqAll (appD D' es q st) (f.app (appD D es q st))
  | [], q, st, _, h, _ => by simp at h
  | e :: r, q, st, hq, hf, h => by
    simp only [appD]
    by_cases hqi : q = i
    · subst hqi
      rw [Nat.sub_self] at hf
      simp only [List.getElem?_cons_zero, Option.some.injEq] at hf
      subst hf
      rw [hD, hD', cond_true, cond_false]
      rw [appD_congr (D := D') (D' := D) r (q + 1) _ (fun k hk => hDD k (by omega))]
      exact appD_comm D e r (q + 1) st (fun k e' he' hd => h (k + 1) e' (by simpa using he') (by omega) (by rw [show q + (k + 1) = q + 1 + k by omega]; exact hd))
    · rw [hDD q hqi]
      have hs : i - q = (i - (q + 1)) + 1 := by omega
      rw [hs, List.getElem?_cons_succ] at hf
      exact appD_insert i f hD hD' hDD r (q + 1) _ (by omega) hf (fun k e' he' hk hd => h (k + 1) e' (by simpa using he') (by omega) (by rw [show q + (k + 1) = q + 1 + k by omega]; exact hd))

theorem appD_all {D : Nat → Bool} : ∀ (es : List Ef) (q : Nat) (st : St), (∀ k, k < es.length → D (q + k) = true) → appD D es q st = allE es st
  | [], q, st, _ => rfl
  | e :: r, q, st, h => by
    have h0 := h 0 (by simp)
    rw [Nat.add_zero] at h0
    simp only [appD, h0, cond_true, allE, List.foldl_cons]
    exact appD_all r (q + 1) _ (fun k hk => by have := h (k + 1) (by simpa using hk); rwa [show q + (k + 1) = q + 1 + k by omega] at this)

theorem appD_none {D : Nat → Bool} : ∀ (es : List Ef) (q : Nat) (st : St), (∀ k, D k = false) → appD D es q st = st
  | [], q, st, _ => rfl
  | e :: r, q, st, h => by
    simp only [appD, h q, cond_false]
    exact appD_none r (q + 1) st h

theorem allE_n : ∀ (es : List Ef) (st : St), (allE es st).n = st.n
  | [], st => rfl
  | e :: r, st => by simp only [allE, List.foldl_cons]; exact (allE_n r (e.app st)).trans (app_n e st)

theorem allE_dom {l : Nat} : ∀ (es : List Ef) (st : St), memL l (allE es st).dom = true ↔ memL l st.dom = true ∨ ∃ e, e ∈ es ∧ memL l (e.u.map (·.1)) = true
  | [], st => by simp [allE]
  | e :: r, st => by
    simp only [allE, List.foldl_cons]
    refine (allE_dom r (e.app st)).trans ?_
    rw [app_dom, Bool.or_eq_true]
    constructor
    · rintro ((h | h) | ⟨e', he', h⟩)
      · exact .inr ⟨e, List.mem_cons_self, h⟩
      · exact .inl h
      · exact .inr ⟨e', List.mem_cons_of_mem _ he', h⟩
    · rintro (h | ⟨e', he', h⟩)
      · exact .inl (.inr h)
      · rcases List.mem_cons.1 he' with rfl | he'
        · exact .inl (.inl h)
        · exact .inr ⟨e', he', h⟩

theorem allE_frm (wr : List Nat) : ∀ (es : List Ef) (st : St), (∀ e, e ∈ es → ∀ d, e.r.wr = some d → d ∈ wr) → Frm st (allE es st) wr
  | [], st, _ => Frm.refl st wr
  | e :: r, st, h => by
    simp only [allE, List.foldl_cons]
    exact (app_frm e st wr (h e List.mem_cons_self)).trans (allE_frm wr r _ (fun e' he' => h e' (List.mem_cons_of_mem _ he')))

theorem allE_stamp : ∀ (es : List Ef) (st : St), (∀ l he s, st.hp l = some (he, s) → s ≤ st.cnt) → ∀ l he s, (allE es st).hp l = some (he, s) → s ≤ (allE es st).cnt
  | [], st, h => h
  | e :: r, st, h => by
    simp only [allE, List.foldl_cons]
    exact allE_stamp r _ (app_stamp e st h)

section
variable (S : Stat) (all : List Oper) (lab : Nat) (lk : Option Nat)

def Guard (st : St) (o : Oper) (e : Ef) (want : Bool) : Prop := ∃ j w d oj, o.guard = some (j, w) ∧ st.tm d = boolSV (cond want w (!w)) ∧ d < st.n ∧ memL d e.r.rd = true ∧ all[j]? = some oj ∧ oj.dst = some d

def GuardU (st : St) (o : Oper) (e : Ef) : Prop := ∃ j w d oj, o.guard = some (j, w) ∧ st.tm d = .tup [] ∧ d < st.n ∧ memL d e.r.rd = true ∧ all[j]? = some oj ∧ oj.dst = some d

structure Fact (i : Nat) (e : Ef) (st : St) (o : Oper) : Prop where
  op : all[i]? = some o
  wr : e.r.wr = o.dst
  dst : dstOK st.n o.dst = true
  new : freshL (lab + i) st.dom = true
  edges : edgesOK i o = true
  tch : e.r.tch = e.u.map (·.1)
  nln : noLnU e.u = true
  out : ((o.guard = none ∨ Guard all st o e true) ∧ (∀ t, memL t (opTmps o) = true → memL t e.r.rd = true) ∧ sem S true (st.mask (opTmps o) e.r.mem []) (lab + i) o (Only e.sv e.u)) ∨
    ((Guard all st o e false ∨ GuardU all st o e) ∧ e.sv = .tup [] ∧ e.u = []) ∨ lk = some i

def Facts (st0 : St) (es : List Ef) : Prop := ∀ i e, es[i]? = some e → ∃ o, Fact S all lab lk i e (allE (es.take i) st0) o ∧ e.r.anc = ancOf ((es.take i).map (·.r)) o ∧ Rec.apartAll lab i e.r 0 ((es.take i).map (·.r)) = true

theorem facts_snoc {st0 : St} {es : List Ef} {e : Ef} {o : Oper} (h : Facts S all lab lk st0 es) (hf : Fact S all lab lk es.length e (allE es st0) o) (ha : e.r.anc = ancOf (es.map (·.r)) o) (hp : Rec.apartAll lab es.length e.r 0 (es.map (·.r)) = true) : Facts S all lab lk st0 (es ++ [e]) := by
  intro i e' he'
  by_cases hi : i < es.length
  · rw [List.getElem?_append_left hi] at he'
    rw [List.take_append_of_le_length (by omega)]
    exact h i e' he'
  · have hi' : i = es.length := by
      have := (List.getElem?_eq_some_iff.1 he').1
      simp at this; omega
    subst hi'
    rw [List.getElem?_concat_length] at he'
    cases he'
    rw [List.take_left]
    exact ⟨o, hf, ha, hp⟩

theorem allE_snoc (es : List Ef) (e : Ef) (st : St) : allE (es ++ [e]) st = e.app (allE es st) := by simp [allE]

theorem put_known {st : St} {d : Nat} {sv : SV} (h : st.tm d = sv) : st.put (some d) sv = st := by
  have : updf st.tm d sv = st.tm := by
    funext t
    by_cases ht : t = d
    · subst ht; rw [updf_same, h]
    · rw [updf_other _ _ ht]
  simp [St.put, this]

theorem text_run (K : St → Prop) (st0 : St) : ∀ (rest : List Oper) (i : Nat) (es0 : List Ef) (st : St), es0.length = i → (∀ j x, rest[j]? = some x → all[i + j]? = some x) → Facts S all lab lk st0 es0 → st = allE es0 st0 → vcAny S all lab rest i (es0.map (·.r)) st K →
    ∃ es, es.length = i + rest.length ∧ Facts S all lab lk st0 es ∧ K (allE es st0)
  | [], i, es0, st, hl, hr, hf, hst, h => ⟨es0, by simpa using hl, hf, by rw [← hst]; exact h⟩
  | o :: rest, i, es0, st, hl, hr, hf, hst, h => by
    have hr' : ∀ j x, rest[j]? = some x → all[i + 1 + j]? = some x := fun j x hx => by have := hr (j + 1) x (by rwa [List.getElem?_cons_succ]); rw [← this]; congr 1; omega
    have ho : all[i]? = some o := by have := hr 0 o rfl; simpa using this
    have next : ∀ (e : Ef) , Facts S all lab lk st0 (es0 ++ [e]) → vcAny S all lab rest (i + 1) (es0.map (·.r) ++ [e.r]) (e.app st) K → ∃ es, es.length = i + (o :: rest).length ∧ Facts S all lab lk st0 es ∧ K (allE es st0) := by
      intro e hfe hv
      obtain ⟨es, h1, h2, h3⟩ := text_run K st0 rest (i + 1) (es0 ++ [e]) (e.app st) (by simp [hl]) hr' hfe (by rw [allE_snoc, hst]) (by simpa using hv)
      exact ⟨es, by rw [h1]; simp; omega, h2, h3⟩
    simp only [vcAny] at h
    obtain ⟨hb, h⟩ := chk_iff.1 h
    simp only [Bool.and_eq_true, Bool.not_eq_true'] at hb
    obtain ⟨⟨hb1, hb2⟩, hb3⟩ := hb
    cases hgd : o.guard with
    | none =>
      rw [hgd] at h
      simp only [anyRun0] at h
      obtain ⟨sv, u, hQ, hs⟩ := sem_def _ h
      obtain ⟨hap0, hk⟩ := chk_iff.1 hQ
      simp only [Bool.and_eq_true] at hap0
      obtain ⟨hnln, hap⟩ := hap0
      refine next ⟨⟨ancOf (es0.map (·.r)) o, opTmps o, o.dst, memOf st o, u.map (·.1)⟩, sv, u⟩ (facts_snoc S all lab lk hf (o := o) ?_ rfl (by rw [hl]; exact hap)) hk
      rw [hl, ← hst]
      exact ⟨ho, rfl, hb2, hb1, hb3, rfl, hnln, .inl ⟨.inl hgd, fun t ht => ht, hs⟩⟩
    | some p =>
      obtain ⟨j, want⟩ := p
      rw [hgd] at h
      simp only at h
      cases hu : undS st all j with
      | some d =>
        rw [hu] at h
        obtain ⟨ht, hlt, oj, hoj, hojd⟩ := undS_ok hu
        simp only [anySkip] at h
        obtain ⟨hap, hk⟩ := chk_iff.1 h
        refine next ⟨⟨ancOf (es0.map (·.r)) o, [d], o.dst, [], []⟩, .tup [], []⟩ (facts_snoc S all lab lk hf (o := o) ?_ rfl (by rw [hl]; exact hap)) hk
        rw [hl, ← hst]
        exact ⟨ho, rfl, hb2, hb1, hb3, rfl, rfl, .inr (.inl ⟨.inr ⟨j, want, d, oj, hgd, ht, hlt, by simp [memL_cons], hoj, hojd⟩, rfl, rfl⟩)⟩
      | none =>
      rw [hu] at h
      simp only at h
      unfold yieldS at h
      cases hoj : all[j]? with
      | none => rw [hoj] at h; exact h.elim
      | some oj =>
        rw [hoj] at h
        simp only at h
        cases hd : oj.dst with
        | none => rw [hd] at h; exact h.elim
        | some d =>
          rw [hd] at h
          simp only at h
          obtain ⟨hlt, h⟩ := chk_iff.1 h
          have hlt : d < st.n := by simpa [Nat.blt_eq] using hlt
          have hb : ∃ b, st.tm d = boolSV b ∧ gdS b want (anyRun S lab o i (es0.map (·.r)) (st.put (some d) (boolSV want)) d fun x st => vcAny S all lab rest (i + 1) (es0.map (·.r) ++ [x]) st K)
              (anySkip lab o i (es0.map (·.r)) (st.put (some d) (boolSV (!want))) d fun x st => vcAny S all lab rest (i + 1) (es0.map (·.r) ++ [x]) st K) := by
            unfold oneB at h
            split at h
            · rename_i b hbb
              exact ⟨b, hbb, h⟩
            · exact h.elim
          obtain ⟨b, hbv, h⟩ := hb
          obtain ⟨k1, k2⟩ := gdS_iff.1 h
          by_cases hbw : b = want
          · have h3 := k1 hbw
            rw [hbw] at hbv
            rw [put_known hbv] at h3
            simp only [anyRun] at h3
            obtain ⟨sv, u, hQ, hs⟩ := sem_def _ h3
            obtain ⟨hap0, hk⟩ := chk_iff.1 hQ
            simp only [Bool.and_eq_true] at hap0
            obtain ⟨hnln, hap⟩ := hap0
            refine next ⟨⟨ancOf (es0.map (·.r)) o, d :: opTmps o, o.dst, memOf st o, u.map (·.1)⟩, sv, u⟩ (facts_snoc S all lab lk hf (o := o) ?_ rfl (by rw [hl]; exact hap)) hk
            rw [hl, ← hst]
            refine ⟨ho, rfl, hb2, hb1, hb3, rfl, hnln, .inl ⟨.inr ⟨j, want, d, oj, hgd, hbv, hlt, by simp [memL_cons], hoj, hd⟩, fun t ht => by simp [memL_cons, ht], hs⟩⟩
          · have h3 := k2 hbw
            have hbn : b = !want := by cases b <;> cases want <;> first | rfl | exact absurd rfl hbw
            rw [hbn] at hbv
            rw [put_known hbv] at h3
            simp only [anySkip] at h3
            obtain ⟨hap, hk⟩ := chk_iff.1 h3
            refine next ⟨⟨ancOf (es0.map (·.r)) o, [d], o.dst, [], []⟩, .tup [], []⟩ (facts_snoc S all lab lk hf (o := o) ?_ rfl (by rw [hl]; exact hap)) hk
            rw [hl, ← hst]
            exact ⟨ho, rfl, hb2, hb1, hb3, rfl, rfl, .inr (.inl ⟨.inl ⟨j, want, d, oj, hgd, hbv, hlt, by simp [memL_cons], hoj, hd⟩, rfl, rfl⟩)⟩

theorem text_runP (K : St → Prop) (st0 : St) : ∀ (rest : List Oper) (i : Nat) (es0 : List Ef) (st : St), es0.length = i → (∀ j x, rest[j]? = some x → all[i + j]? = some x) → Facts S all lab lk st0 es0 → st = allE es0 st0 → vcAny S all lab rest i (es0.map (·.r)) st K →
    ∃ es, es.length = i + rest.length ∧ Facts S all lab lk st0 es ∧ K (allE es st0) ∧ es0 <+: es
  | [], i, es0, st, hl, hr, hf, hst, h => ⟨es0, by simpa using hl, hf, by rw [← hst]; exact h, List.prefix_refl _⟩
  | o :: rest, i, es0, st, hl, hr, hf, hst, h => by
    have hr' : ∀ j x, rest[j]? = some x → all[i + 1 + j]? = some x := fun j x hx => by have := hr (j + 1) x (by rwa [List.getElem?_cons_succ]); rw [← this]; congr 1; omega
    have ho : all[i]? = some o := by have := hr 0 o rfl; simpa using this
    have next : ∀ (e : Ef) , Facts S all lab lk st0 (es0 ++ [e]) → vcAny S all lab rest (i + 1) (es0.map (·.r) ++ [e.r]) (e.app st) K → ∃ es, es.length = i + (o :: rest).length ∧ Facts S all lab lk st0 es ∧ K (allE es st0) ∧ es0 <+: es := by
      intro e hfe hv
      obtain ⟨es, h1, h2, h3, h4⟩ := text_runP K st0 rest (i + 1) (es0 ++ [e]) (e.app st) (by simp [hl]) hr' hfe (by rw [allE_snoc, hst]) (by simpa using hv)
      exact ⟨es, by rw [h1]; simp; omega, h2, h3, (List.prefix_append _ _).trans h4⟩
    simp only [vcAny] at h
    obtain ⟨hb, h⟩ := chk_iff.1 h
    simp only [Bool.and_eq_true, Bool.not_eq_true'] at hb
    obtain ⟨⟨hb1, hb2⟩, hb3⟩ := hb
    cases hgd : o.guard with
    | none =>
      rw [hgd] at h
      simp only [anyRun0] at h
      obtain ⟨sv, u, hQ, hs⟩ := sem_def _ h
      obtain ⟨hap0, hk⟩ := chk_iff.1 hQ
      simp only [Bool.and_eq_true] at hap0
      obtain ⟨hnln, hap⟩ := hap0
      refine next ⟨⟨ancOf (es0.map (·.r)) o, opTmps o, o.dst, memOf st o, u.map (·.1)⟩, sv, u⟩ (facts_snoc S all lab lk hf (o := o) ?_ rfl (by rw [hl]; exact hap)) hk
      rw [hl, ← hst]
      exact ⟨ho, rfl, hb2, hb1, hb3, rfl, hnln, .inl ⟨.inl hgd, fun t ht => ht, hs⟩⟩
    | some p =>
      obtain ⟨j, want⟩ := p
      rw [hgd] at h
      simp only at h
      cases hu : undS st all j with
      | some d =>
        rw [hu] at h
        obtain ⟨ht, hlt, oj, hoj, hojd⟩ := undS_ok hu
        simp only [anySkip] at h
        obtain ⟨hap, hk⟩ := chk_iff.1 h
        refine next ⟨⟨ancOf (es0.map (·.r)) o, [d], o.dst, [], []⟩, .tup [], []⟩ (facts_snoc S all lab lk hf (o := o) ?_ rfl (by rw [hl]; exact hap)) hk
        rw [hl, ← hst]
        exact ⟨ho, rfl, hb2, hb1, hb3, rfl, rfl, .inr (.inl ⟨.inr ⟨j, want, d, oj, hgd, ht, hlt, by simp [memL_cons], hoj, hojd⟩, rfl, rfl⟩)⟩
      | none =>
      rw [hu] at h
      simp only at h
      unfold yieldS at h
      cases hoj : all[j]? with
      | none => rw [hoj] at h; exact h.elim
      | some oj =>
        rw [hoj] at h
        simp only at h
        cases hd : oj.dst with
        | none => rw [hd] at h; exact h.elim
        | some d =>
          rw [hd] at h
          simp only at h
          obtain ⟨hlt, h⟩ := chk_iff.1 h
          have hlt : d < st.n := by simpa [Nat.blt_eq] using hlt
          have hb : ∃ b, st.tm d = boolSV b ∧ gdS b want (anyRun S lab o i (es0.map (·.r)) (st.put (some d) (boolSV want)) d fun x st => vcAny S all lab rest (i + 1) (es0.map (·.r) ++ [x]) st K)
              (anySkip lab o i (es0.map (·.r)) (st.put (some d) (boolSV (!want))) d fun x st => vcAny S all lab rest (i + 1) (es0.map (·.r) ++ [x]) st K) := by
            unfold oneB at h
            split at h
            · rename_i b hbb
              exact ⟨b, hbb, h⟩
            · exact h.elim
          obtain ⟨b, hbv, h⟩ := hb
          obtain ⟨k1, k2⟩ := gdS_iff.1 h
          by_cases hbw : b = want
          · have h3 := k1 hbw
            rw [hbw] at hbv
            rw [put_known hbv] at h3
            simp only [anyRun] at h3
            obtain ⟨sv, u, hQ, hs⟩ := sem_def _ h3
            obtain ⟨hap0, hk⟩ := chk_iff.1 hQ
            simp only [Bool.and_eq_true] at hap0
            obtain ⟨hnln, hap⟩ := hap0
            refine next ⟨⟨ancOf (es0.map (·.r)) o, d :: opTmps o, o.dst, memOf st o, u.map (·.1)⟩, sv, u⟩ (facts_snoc S all lab lk hf (o := o) ?_ rfl (by rw [hl]; exact hap)) hk
            rw [hl, ← hst]
            refine ⟨ho, rfl, hb2, hb1, hb3, rfl, hnln, .inl ⟨.inr ⟨j, want, d, oj, hgd, hbv, hlt, by simp [memL_cons], hoj, hd⟩, fun t ht => by simp [memL_cons, ht], hs⟩⟩
          · have h3 := k2 hbw
            have hbn : b = !want := by cases b <;> cases want <;> first | rfl | exact absurd rfl hbw
            rw [hbn] at hbv
            rw [put_known hbv] at h3
            simp only [anySkip] at h3
            obtain ⟨hap, hk⟩ := chk_iff.1 h3
            refine next ⟨⟨ancOf (es0.map (·.r)) o, [d], o.dst, [], []⟩, .tup [], []⟩ (facts_snoc S all lab lk hf (o := o) ?_ rfl (by rw [hl]; exact hap)) hk
            rw [hl, ← hst]
            exact ⟨ho, rfl, hb2, hb1, hb3, rfl, rfl, .inr (.inl ⟨.inl ⟨j, want, d, oj, hgd, hbv, hlt, by simp [memL_cons], hoj, hd⟩, rfl, rfl⟩)⟩

theorem text_runR (K : List Rec → St → Prop) (st0 : St) : ∀ (rest : List Oper) (i : Nat) (es0 : List Ef) (st : St), es0.length = i → (∀ j x, rest[j]? = some x → all[i + j]? = some x) → Facts S all lab lk st0 es0 → st = allE es0 st0 → vcAnyR S all lab rest i (es0.map (·.r)) st K →
    ∃ es, es.length = i + rest.length ∧ Facts S all lab lk st0 es ∧ K (es.map (·.r)) (allE es st0)
  | [], i, es0, st, hl, hr, hf, hst, h => ⟨es0, by simpa using hl, hf, by rw [← hst]; exact h⟩
  | o :: rest, i, es0, st, hl, hr, hf, hst, h => by
    have hr' : ∀ j x, rest[j]? = some x → all[i + 1 + j]? = some x := fun j x hx => by have := hr (j + 1) x (by rwa [List.getElem?_cons_succ]); rw [← this]; congr 1; omega
    have ho : all[i]? = some o := by have := hr 0 o rfl; simpa using this
    have next : ∀ (e : Ef) , Facts S all lab lk st0 (es0 ++ [e]) → vcAnyR S all lab rest (i + 1) (es0.map (·.r) ++ [e.r]) (e.app st) K → ∃ es, es.length = i + (o :: rest).length ∧ Facts S all lab lk st0 es ∧ K (es.map (·.r)) (allE es st0) := by
      intro e hfe hv
      obtain ⟨es, h1, h2, h3⟩ := text_runR K st0 rest (i + 1) (es0 ++ [e]) (e.app st) (by simp [hl]) hr' hfe (by rw [allE_snoc, hst]) (by simpa using hv)
      exact ⟨es, by rw [h1]; simp; omega, h2, h3⟩
    simp only [vcAnyR] at h
    obtain ⟨hb, h⟩ := chk_iff.1 h
    simp only [Bool.and_eq_true, Bool.not_eq_true'] at hb
    obtain ⟨⟨hb1, hb2⟩, hb3⟩ := hb
    cases hgd : o.guard with
    | none =>
      rw [hgd] at h
      simp only [anyRun0] at h
      obtain ⟨sv, u, hQ, hs⟩ := sem_def _ h
      obtain ⟨hap0, hk⟩ := chk_iff.1 hQ
      simp only [Bool.and_eq_true] at hap0
      obtain ⟨hnln, hap⟩ := hap0
      refine next ⟨⟨ancOf (es0.map (·.r)) o, opTmps o, o.dst, memOf st o, u.map (·.1)⟩, sv, u⟩ (facts_snoc S all lab lk hf (o := o) ?_ rfl (by rw [hl]; exact hap)) hk
      rw [hl, ← hst]
      exact ⟨ho, rfl, hb2, hb1, hb3, rfl, hnln, .inl ⟨.inl hgd, fun t ht => ht, hs⟩⟩
    | some p =>
      obtain ⟨j, want⟩ := p
      rw [hgd] at h
      simp only at h
      cases hu : undS st all j with
      | some d =>
        rw [hu] at h
        obtain ⟨ht, hlt, oj, hoj, hojd⟩ := undS_ok hu
        simp only [anySkip] at h
        obtain ⟨hap, hk⟩ := chk_iff.1 h
        refine next ⟨⟨ancOf (es0.map (·.r)) o, [d], o.dst, [], []⟩, .tup [], []⟩ (facts_snoc S all lab lk hf (o := o) ?_ rfl (by rw [hl]; exact hap)) hk
        rw [hl, ← hst]
        exact ⟨ho, rfl, hb2, hb1, hb3, rfl, rfl, .inr (.inl ⟨.inr ⟨j, want, d, oj, hgd, ht, hlt, by simp [memL_cons], hoj, hojd⟩, rfl, rfl⟩)⟩
      | none =>
      rw [hu] at h
      simp only at h
      unfold yieldS at h
      cases hoj : all[j]? with
      | none => rw [hoj] at h; exact h.elim
      | some oj =>
        rw [hoj] at h
        simp only at h
        cases hd : oj.dst with
        | none => rw [hd] at h; exact h.elim
        | some d =>
          rw [hd] at h
          simp only at h
          obtain ⟨hlt, h⟩ := chk_iff.1 h
          have hlt : d < st.n := by simpa [Nat.blt_eq] using hlt
          have hb : ∃ b, st.tm d = boolSV b ∧ gdS b want (anyRun S lab o i (es0.map (·.r)) (st.put (some d) (boolSV want)) d fun x st => vcAnyR S all lab rest (i + 1) (es0.map (·.r) ++ [x]) st K)
              (anySkip lab o i (es0.map (·.r)) (st.put (some d) (boolSV (!want))) d fun x st => vcAnyR S all lab rest (i + 1) (es0.map (·.r) ++ [x]) st K) := by
            unfold oneB at h
            split at h
            · rename_i b hbb
              exact ⟨b, hbb, h⟩
            · exact h.elim
          obtain ⟨b, hbv, h⟩ := hb
          obtain ⟨k1, k2⟩ := gdS_iff.1 h
          by_cases hbw : b = want
          · have h3 := k1 hbw
            rw [hbw] at hbv
            rw [put_known hbv] at h3
            simp only [anyRun] at h3
            obtain ⟨sv, u, hQ, hs⟩ := sem_def _ h3
            obtain ⟨hap0, hk⟩ := chk_iff.1 hQ
            simp only [Bool.and_eq_true] at hap0
            obtain ⟨hnln, hap⟩ := hap0
            refine next ⟨⟨ancOf (es0.map (·.r)) o, d :: opTmps o, o.dst, memOf st o, u.map (·.1)⟩, sv, u⟩ (facts_snoc S all lab lk hf (o := o) ?_ rfl (by rw [hl]; exact hap)) hk
            rw [hl, ← hst]
            refine ⟨ho, rfl, hb2, hb1, hb3, rfl, hnln, .inl ⟨.inr ⟨j, want, d, oj, hgd, hbv, hlt, by simp [memL_cons], hoj, hd⟩, fun t ht => by simp [memL_cons, ht], hs⟩⟩
          · have h3 := k2 hbw
            have hbn : b = !want := by cases b <;> cases want <;> first | rfl | exact absurd rfl hbw
            rw [hbn] at hbv
            rw [put_known hbv] at h3
            simp only [anySkip] at h3
            obtain ⟨hap, hk⟩ := chk_iff.1 h3
            refine next ⟨⟨ancOf (es0.map (·.r)) o, [d], o.dst, [], []⟩, .tup [], []⟩ (facts_snoc S all lab lk hf (o := o) ?_ rfl (by rw [hl]; exact hap)) hk
            rw [hl, ← hst]
            exact ⟨ho, rfl, hb2, hb1, hb3, rfl, rfl, .inr (.inl ⟨.inl ⟨j, want, d, oj, hgd, hbv, hlt, by simp [memL_cons], hoj, hd⟩, rfl, rfl⟩)⟩
end
end Go.GX
