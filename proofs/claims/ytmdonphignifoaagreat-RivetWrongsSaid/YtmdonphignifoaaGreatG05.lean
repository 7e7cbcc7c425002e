/- Part 5 of the texts behind the proof: Gx21, Gx22, Gx23, Gx24, Gx29, Gx31, RzS, RzO0, RzC1, RzC2, RzC3, RzC4, Gx25, RzBr. -/
import Derived.Test.YtmdonphignifoaaGreatG04
import Derived.Test.YtmdonphignifoaaGreatProg
import Derived.ProofKit
import Derived.OpenShut
import Derived.Test.YtmdonphignifoaaGreatRows
import Derived.LaidMore
import Derived.Lay
import Derived.SevenTiedAt
set_option linter.unusedSimpArgs false
set_option linter.unusedVariables false
set_option linter.unusedSectionVars false
set_option linter.unusedVariables false
namespace Go.GX
variable [Inhabited BaseD]
open Go.RowKit Go.Shelf Go.Proofs

def Xt.ex : Xt → Exit
  | .norm => .normal
  | .exit i => .exit i
  | .ret => .ret

theorem hp_notlab {c : Nat} {h : Nat → Option (HE × Nat)} {l : Nat} : ∀ {its : Items} {g : its.G}, memL l its.labs = false → its.hp c h g l = h l
  | [], g, _ => rfl
  | .t t K :: r, g, hl => hp_notlab (its := r) hl
  | .row t l0 nn e K :: r, g, hl => by
    simp only [Items.labs, memL_cons, Bool.or_eq_false_iff] at hl
    simp only [Items.hp, hl.1, cond_false]
    exact hp_notlab (its := r) hl.2
  | .cell l0 ty K :: r, g, hl => by
    simp only [Items.labs, memL_cons, Bool.or_eq_false_iff] at hl
    simp only [Items.hp, hl.1, cond_false]
    exact hp_notlab (its := r) hl.2
  | .crow l0 ty m nn e K K2 :: r, g, hl => by
    simp only [Items.labs, memL_cons, Bool.or_eq_false_iff] at hl
    simp only [Items.hp, hl.1, hl.2.1, cond_false]
    exact hp_notlab (its := r) hl.2.2
  | .crow2 l0 ty m nn e K K2 m' nn' e' K' :: r, g, hl => by
    simp only [Items.labs, memL_cons, Bool.or_eq_false_iff] at hl
    simp only [Items.hp, hl.1, hl.2.1, hl.2.2.1, cond_false]
    exact hp_notlab (its := r) hl.2.2.2
  | .drow l0 ty K2 m nn e K :: r, g, hl => by
    simp only [Items.labs, memL_cons, Bool.or_eq_false_iff] at hl
    simp only [Items.hp, hl.1, hl.2.1, cond_false]
    exact hp_notlab (its := r) hl.2.2
  | .lrow l0 nn e K :: r, g, hl => by
    simp only [Items.labs, memL_cons, Bool.or_eq_false_iff] at hl
    simp only [Items.hp, hl.1, cond_false]
    exact hp_notlab (its := r) hl.2
  | .mat t l0 vl nn e ag e1 K1 :: r, g, hl => by
    simp only [Items.labs, memL_cons, Bool.or_eq_false_iff] at hl
    simp only [Items.hp, hl.1, hl.2.1, cond_false]
    exact hp_notlab (its := r) hl.2.2
  | .lmat l0 vl nn e ag e1 K1 :: r, g, hl => by
    simp only [Items.labs, memL_cons, Bool.or_eq_false_iff] at hl
    simp only [Items.hp, hl.1, hl.2.1, cond_false]
    exact hp_notlab (its := r) hl.2.2

theorem hp_cases {c : Nat} {h : Nat → Option (HE × Nat)} {l : Nat} {he : HE} {s : Nat} : ∀ {its : Items} {g : its.G}, its.hp c h g l = some (he, s) → s = c ∨ h l = some (he, s)
  | [], g, hl => .inr hl
  | .t t K :: r, g, hl => hp_cases (its := r) hl
  | .row t l0 nn e K :: r, g, hl => by
    simp only [Items.hp] at hl
    cases hb : Nat.beq l l0 with
    | true => rw [hb] at hl; cases hl; exact .inl rfl
    | false => rw [hb] at hl; exact hp_cases (its := r) hl
  | .cell l0 ty K :: r, g, hl => by
    simp only [Items.hp] at hl
    cases hb : Nat.beq l l0 with
    | true => rw [hb] at hl; cases hl; exact .inl rfl
    | false => rw [hb] at hl; exact hp_cases (its := r) hl
  | .crow l0 ty m nn e K K2 :: r, g, hl => by
    simp only [Items.hp] at hl
    cases hb : Nat.beq l l0 with
    | true => rw [hb] at hl; cases hl; exact .inl rfl
    | false =>
      rw [hb, cond_false] at hl
      cases hb2 : Nat.beq l m with
      | true => rw [hb2] at hl; cases hl; exact .inl rfl
      | false => rw [hb2] at hl; exact hp_cases (its := r) hl
  | .crow2 l0 ty m nn e K K2 m' nn' e' K' :: r, g, hl => by
    simp only [Items.hp] at hl
    cases hb : Nat.beq l l0 with
    | true => rw [hb] at hl; cases hl; exact .inl rfl
    | false =>
      rw [hb, cond_false] at hl
      cases hb2 : Nat.beq l m with
      | true => rw [hb2] at hl; cases hl; exact .inl rfl
      | false =>
        rw [hb2, cond_false] at hl
        cases hb3 : Nat.beq l m' with
        | true => rw [hb3] at hl; cases hl; exact .inl rfl
        | false => rw [hb3] at hl; exact hp_cases (its := r) hl
  | .drow l0 ty K2 m nn e K :: r, g, hl => by
    simp only [Items.hp] at hl
    cases hb : Nat.beq l l0 with
    | true => rw [hb] at hl; cases hl; exact .inl rfl
    | false =>
      rw [hb, cond_false] at hl
      cases hb2 : Nat.beq l m with
      | true => rw [hb2] at hl; cases hl; exact .inl rfl
      | false => rw [hb2] at hl; exact hp_cases (its := r) hl
  | .lrow l0 nn e K :: r, g, hl => by
    simp only [Items.hp] at hl
    cases hb : Nat.beq l l0 with
    | true => rw [hb] at hl; cases hl; exact .inl rfl
    | false => rw [hb] at hl; exact hp_cases (its := r) hl
  | .mat t l0 vl nn e ag e1 K1 :: r, g, hl => by
    simp only [Items.hp] at hl
    cases hb : Nat.beq l l0 with
    | true => rw [hb] at hl; cases hl; exact .inl rfl
    | false =>
      rw [hb, cond_false] at hl
      cases hb2 : Nat.beq l vl with
      | true => rw [hb2] at hl; cases hl
      | false => rw [hb2] at hl; exact hp_cases (its := r) hl
  | .lmat l0 vl nn e ag e1 K1 :: r, g, hl => by
    simp only [Items.hp] at hl
    cases hb : Nat.beq l l0 with
    | true => rw [hb] at hl; cases hl; exact .inl rfl
    | false =>
      rw [hb, cond_false] at hl
      cases hb2 : Nat.beq l vl with
      | true => rw [hb2] at hl; cases hl
      | false => rw [hb2] at hl; exact hp_cases (its := r) hl

theorem head_tm_off {its : Items} {st0 : St} {wr : List Nat} {g : its.G} (hok : its.ok st0 wr = true) {t : Nat} (ht : memL t wr = false) : (its.head st0 wr g).tm t = st0.tm t := by
  show (match its.tm g t with
      | some v => v
      | none => cond (memL t wr) .any (st0.tm t)) = _
  cases h : its.tm g t with
  | some sv => rw [tm_wr hok h] at ht; cases ht
  | none => simp only [ht, cond_false]

theorem head_frm {its : Items} {st0 : St} {wr : List Nat} (g : its.G) (hok : its.ok st0 wr = true) : Frm st0 (its.head st0 wr g) wr := by
  refine ⟨rfl, Nat.le_succ _, fun t ht => head_tm_off hok ht, fun l he s h hs => ?_⟩
  rcases hp_cases (its := its) (g := g) h with h1 | h1
  · omega
  · exact base_some h1

theorem kept_spec {labs : List Nat} {st0 st' : St} : ∀ {ls : List Nat}, keptOK labs st0 st' ls = true → ∀ l, memL l ls = true → memL l labs = true ∨ sameStamp (st'.hp l) (st0.hp l) = true
  | [], _, l, hl => by cases hl
  | k :: r, h, l, hl => by
    simp only [keptOK, Bool.and_eq_true, Bool.or_eq_true] at h
    rw [memL_cons, Bool.or_eq_true] at hl
    rcases hl with hl | hl
    · have := Nat.eq_of_beq_eq_true hl
      subst this
      exact h.1
    · exact kept_spec h.2 l hl

theorem All_spec : ∀ {its : Items} {p : its.G → Prop}, its.All p → ∀ g, p g
  | [], p, h, g => h
  | it :: r, p, h, g => All_spec (its := r) (h g.1) g.2

theorem exists_least {p : Nat → Prop} : ∀ n, p n → ∃ m, p m ∧ ∀ k, p k → m ≤ k := by
  intro n
  induction n using Nat.strongRecOn with
  | _ n ih =>
    intro hn
    by_cases h : ∃ k, k < n ∧ p k
    · obtain ⟨k, hk, hp⟩ := h
      exact ih k hk hp
    · exact ⟨n, hn, fun k hk => Nat.le_of_not_lt fun hlt => h ⟨k, hlt, hk⟩⟩

noncomputable def least {G : Type} (I : G → Act → World → Prop) (μ : G → Nat) (a : Act) (W : World) : Nat :=
  Classical.epsilon fun m => (∃ g, I g a W ∧ μ g = m) ∧ ∀ k, (∃ g, I g a W ∧ μ g = k) → m ≤ k

theorem least_spec {G : Type} {I : G → Act → World → Prop} {μ : G → Nat} {a : Act} {W : World} {g : G} (h : I g a W) : (∃ g', I g' a W ∧ μ g' = least I μ a W) ∧ ∀ k, (∃ g, I g a W ∧ μ g = k) → least I μ a W ≤ k :=
  Classical.epsilon_spec (exists_least (p := fun n => ∃ g, I g a W ∧ μ g = n) (μ g) ⟨g, h, rfl⟩)

theorem least_le {G : Type} {I : G → Act → World → Prop} {μ : G → Nat} {a : Act} {W : World} {g : G} (h : I g a W) : least I μ a W ≤ μ g := (least_spec h).2 _ ⟨g, h, rfl⟩
theorem least_at {G : Type} {I : G → Act → World → Prop} {μ : G → Nat} {a : Act} {W : World} {g : G} (h : I g a W) : ∃ g', I g' a W ∧ μ g' = least I μ a W := (least_spec h).1

section
variable {P : Program} {glb : Nat → Option GV} {Bk X0 : Nat → Prop} {w0 : World} {st st0 st' : St} {ρ ρ' : Lab} {a : Act} {W W' : World} {S : Stat} {F : Fence} {n : Nat}

def PostX (P : Program) (glb : Nat → Option GV) (Bk X0 : Nat → Prop) (w0 : World) (st : St) (ρ : Lab) (wr : List Nat) (K : Xt → St → Prop) (e : Exit) (a : Act) (W : World) : Prop :=
  ∃ x st' ρ', e = x.ex ∧ K x st' ∧ (Frm st st' wr ∧ ρ.le ρ') ∧ Mt P glb Bk X0 w0 st' ρ' a W

theorem Mt.ahead (m : Mt P glb Bk X0 w0 st0 ρ a W) (its : Items) (wr : List Nat) : Ahead P st0 wr its st0 := by
  have hp : ∀ l v, ρ l = some v → memL l st0.dom = true := m.dom
  refine ⟨rfl, fun t _ => rfl, fun l he s h _ => ⟨s, base_some h⟩, fun t => (m.tms t).uses hp, fun l he s h => ?_⟩
  obtain ⟨v, hv, hok⟩ := m.hps l he s h
  refine ⟨m.dom l v hv, ?_, m.stamp l he s h⟩
  cases he with
  | box own ty cs =>
    obtain ⟨b, arr, _, _, hcs, _⟩ := hok
    exact hcs.uses hp
  | mat nn e ag e1 K1 xs hole vl =>
    obtain ⟨⟨us, hu, _⟩, _⟩ := hok
    exact m.dom vl _ hu
  | _ => trivial

theorem Ahead.next {its : Items} {wr : List Nat} {g : its.G} (h : Ahead P st0 wr its st0) (hok : its.ok st0 wr = true) (hf : Frm (its.head st0 wr g) st' wr) (hk : keptOK its.labs (its.head st0 wr g) st' (its.labs ++ st0.dom) = true) : Ahead P st0 wr its st' := by
  refine ⟨hf.n, fun t ht => (hf.tm t ht).trans (head_tm_off hok ht), fun l he s hb hl => ?_, h.utm, h.uhp⟩
  obtain ⟨hd, _, hs⟩ := h.uhp l he s (base_some hb)
  have hhd : (its.head st0 wr g).hp l = some (he, s) := (hp_notlab hl).trans hb
  rcases kept_spec hk l (by rw [memL_append, hd, Bool.or_true]) with h1 | h1
  · rw [hl] at h1; cases h1
  · rw [hhd] at h1
    cases hq : st'.hp l with
    | none => rw [hq] at h1; cases h1
    | some p =>
      obtain ⟨he', s'⟩ := p
      rw [hq] at h1
      have hss : s' = s := Nat.eq_of_beq_eq_true h1
      subst hss
      have := hf.hp l he' s' hq (by show s' ≤ st0.cnt + 1; omega)
      rw [hhd] at this
      cases this
      exact ⟨s', rfl⟩

theorem Ahead.next0 {its : Items} {wr : List Nat} (h : Ahead P st0 wr its st0) (hf : Frm st0 st' wr) (hk : keptOK (its.labs ++ its.gone st0) st0 st' (its.labs ++ st0.dom) = true) : Ahead P st0 wr its st' := by
  refine ⟨hf.n, fun t ht => hf.tm t ht, fun l he s hb hl => ?_, h.utm, h.uhp⟩
  obtain ⟨hd, _, hs⟩ := h.uhp l he s (base_some hb)
  have hhd : st0.hp l = some (he, s) := base_some hb
  rcases kept_spec hk l (by rw [memL_append, hd, Bool.or_true]) with h1 | h1
  · have hng : memL l (its.gone st0) = false := by
      have hb2 : cond (memL l (its.gone st0)) none (st0.hp l) = some (he, s) := hb
      cases hg : memL l (its.gone st0) with
      | false => rfl
      | true => rw [hg] at hb2; cases hb2
    rw [memL_append, hl, hng] at h1; cases h1
  · rw [hhd] at h1
    cases hq : st'.hp l with
    | none => rw [hq] at h1; cases h1
    | some p =>
      obtain ⟨he', s'⟩ := p
      rw [hq] at h1
      have hss : s' = s := Nat.eq_of_beq_eq_true h1
      subst hss
      have := hf.hp l he' s' hq (by show s' ≤ st0.cnt; omega)
      rw [hhd] at this
      cases this
      exact ⟨s', rfl⟩
theorem join_post (hct : CtOK P glb S) {its : Items} (m : Mt P glb Bk X0 w0 st ρ a W) {wr : List Nat} {K : Xt → St → Prop} (hnd : nodupL its.labs = true) (hok : its.ok st wr = true) {I : its.Cur Prop} (h2 : its.All fun g => its.app I g → K .norm (its.head st wr g))
    {e : Exit} {a1 : Act} {W1 : World} (h : PostX P glb Bk X0 w0 st ρ wr (thruK K fun st' => chk (keptOK (its.labs ++ its.gone st) st st' (its.labs ++ st.dom)) <| its.get S (its.kept st) st' [] fun g => its.app I g) e a1 W1) : PostX P glb Bk X0 w0 st ρ wr K e a1 W1 := by
  obtain ⟨x, st', ρ', he, hk, hf, m'⟩ := h
  cases x with
  | ret => exact ⟨.ret, st', ρ', he, hk, hf, m'⟩
  | exit i => exact ⟨.exit i, st', ρ', he, hk, hf, m'⟩
  | norm =>
    obtain ⟨hkept, hget⟩ := chk_iff.1 hk
    have hA := m.ahead its wr
    obtain ⟨g, ρh, hI, mh, hold, _⟩ := m'.head hct its wr (hA.next0 hf.1 hkept) hnd hok hget
    exact ⟨.norm, its.head st wr g, ρh, he, All_spec h2 g hI, ⟨head_frm g hok, fun l v hv => by rw [hold l (m.dom l v hv)]; exact hf.2 l v hv⟩, mh⟩

theorem vc_block (an : Nat → Items) (id : Nat) (c : Code) (K : Xt → St → Prop) (hc : ∀ b, c ≠ .loop b) (hc2 : ∀ f ps x y, c ≠ .rangeFunc f ps x y) : vc S an (.block id c) st K = vc S an c st fun x st' => match x with
    | .norm => K .norm st'
    | .exit i => cond (Nat.beq i id) (K .norm st') (K (.exit i) st')
    | .ret => K .ret st' := by
  cases c <;> first | rfl | exact absurd rfl (hc _) | exact absurd rfl (hc2 _ _ _ _)

theorem block_post {id : Nat} {wr : List Nat} {K K' : Xt → St → Prop} {Q : Exit → Act → World → Prop} (hQ : ∀ e a W, PostX P glb Bk X0 w0 st ρ wr K e a W → Q e a W)
    (h1 : ∀ st', K' .norm st' → K .norm st') (h2 : ∀ i st', K' (.exit i) st' → cond (Nat.beq i id) (K .norm st') (K (.exit i) st')) (h3 : ∀ st', K' .ret st' → K .ret st') (e : Exit) (a : Act) (W : World) (h : PostX P glb Bk X0 w0 st ρ wr K' e a W) : Exit.inBlock id Q e a W := by
  obtain ⟨x, st', ρ', rfl, hk, hf, m⟩ := h
  cases x with
  | norm => exact hQ _ _ _ ⟨.norm, st', ρ', rfl, h1 _ hk, hf, m⟩
  | ret => exact hQ _ _ _ ⟨.ret, st', ρ', rfl, h3 _ hk, hf, m⟩
  | exit i =>
    have := h2 i st' hk
    show if i = id then Q .normal a W else Q (.exit i) a W
    by_cases hi : i = id
    · subst hi
      rw [if_pos rfl]
      rw [Nat.beq_refl, cond_true] at this
      exact hQ _ _ _ ⟨.norm, st', ρ', rfl, this, hf, m⟩
    · rw [if_neg hi]
      rw [beq_ne hi, cond_false] at this
      exact hQ _ _ _ ⟨.exit i, st', ρ', rfl, this, hf, m⟩

theorem mem_filterMap_dst {ops : List Oper} {j : Nat} {o : Oper} {d : Nat} (h : ops[j]? = some o) (hd : o.dst = some d) : d ∈ ops.filterMap (·.dst) :=
  List.mem_filterMap.2 ⟨o, List.mem_of_getElem? h, hd⟩

def VcOK (P : Program) (glb : Nat → Option GV) (Bk X0 : Nat → Prop) (w0 : World) (F : Fence) (n : Nat) (S : Stat) (an : Nat → Items) (c : Code) : Prop :=
  ∀ (st : St) (ρ : Lab) (a : Act) (W : World) (K : Xt → St → Prop), Mt P glb Bk X0 w0 st ρ a W → vc S an c st K → c.wpIn F n P (PostX P glb Bk X0 w0 st ρ (codeWrites c) K) a W

theorem loop_ok (hct : CtOK P glb S) (an : Nat → Items) (id : Nat) (body : Code) (ih : VcOK P glb Bk X0 w0 F n S an body) : VcOK P glb Bk X0 w0 F n S an (.block id (.loop body)) := by
  intro st ρ a W K m h
  simp only [vc] at h
  obtain ⟨hc, I, μ, h1, h2⟩ := chk_iff.1 h
  simp only [Bool.and_eq_true] at hc
  obtain ⟨⟨hln0, hnd⟩, hok⟩ := hc
  have fst0 : Frm st ((an id).pre st) (codeWrites body) := upds_frm _ _ _
  have m := (m.frz ((an id).frzL st) hln0).1
  change Mt P glb Bk X0 w0 ((an id).pre st) ρ a W at m
  clear h hln0
  refine wpIn_mono (Q := PostX P glb Bk X0 w0 ((an id).pre st) ρ (codeWrites body) K) ?_ (fun e a W hp => ?_)
  case refine_2 =>
    obtain ⟨x, st2, ρ2, hx, hk, hf, m2⟩ := hp
    exact ⟨x, st2, ρ2, hx, hk, ⟨fst0.trans hf.1, hf.2⟩, m2⟩
  revert h1 h2 hok hnd m
  generalize (an id).pre st = st
  intro h1 h2 hok hnd m
  have hA := m.ahead (an id) (codeWrites body)
  refine wpIn_block ?_
  let Inv : (an id).G → Act → World → Prop := fun g a W => (an id).app I g ∧ ∃ ρ', Mt P glb Bk X0 w0 ((an id).head st (codeWrites body) g) ρ' a W ∧ ρ.le ρ'
  refine wpIn_loop (fun a W => ∃ g, Inv g a W) (least Inv ((an id).app μ)) ?_ ?_
  · obtain ⟨g, ρh, hk, mh⟩ := m.head hct (an id) (codeWrites body) hA hnd hok h1
    exact ⟨g, hk, ρh, mh.1, fun l v hv => by rw [mh.2.1 l (m.dom l v hv)]; exact hv⟩
  · rintro a1 W1 ⟨g0, hg0⟩
    obtain ⟨g, ⟨hI, ρg, mg, hleg⟩, hμ⟩ := least_at (μ := (an id).app μ) hg0
    refine wpIn_mono (ih _ ρg a1 W1 _ mg (All_spec h2 g hI)) ?_
    rintro e a2 W2 ⟨xt, st2, ρ2, rfl, hk, hf, m2⟩
    have hfr : Frm st st2 (codeWrites body) ∧ ρ.le ρ2 := ⟨(head_frm g hok).trans hf.1, hleg.trans hf.2⟩
    cases xt with
    | norm =>
      obtain ⟨hkept0, hget⟩ := chk_iff.1 hk
      simp only [Bool.and_eq_true] at hkept0
      obtain ⟨hln2, hkept⟩ := hkept0
      have m2 := (m2.frz ((an id).frzL st2) hln2).1
      change Mt P glb Bk X0 w0 ((an id).pre st2) ρ2 a2 W2 at m2
      obtain ⟨g', ρ', ⟨hI', hlt⟩, m0, hold', _⟩ := m2.head hct (an id) (codeWrites body) (hA.next hok (hf.1.trans (upds_frm _ _ _)) hkept) hnd hok hget
      have m' := And.intro m0 (show ρ.le ρ' from fun l v hv => by rw [hold' l (m.dom l v hv)]; exact hfr.2 l v hv)
      refine ⟨⟨g', hI', ρ', m'⟩, ?_⟩
      rw [← hμ]
      exact Nat.lt_of_le_of_lt (least_le (I := Inv) ⟨hI', ρ', m'⟩) hlt
    | ret => exact ⟨.ret, st2, ρ2, rfl, hk, hfr, m2⟩
    | exit i =>
      show if i = id then _ else _
      by_cases hi : i = id
      · subst hi
        rw [if_pos rfl]
        have hk' : cond (Nat.beq i i) (K .norm st2) (K (.exit i) st2) := hk
        rw [Nat.beq_refl, cond_true] at hk'
        exact ⟨.norm, st2, ρ2, rfl, hk', hfr, m2⟩
      · rw [if_neg hi]
        have hk' : cond (Nat.beq i id) (K .norm st2) (K (.exit i) st2) := hk
        rw [beq_ne hi, cond_false] at hk'
        exact ⟨.exit i, st2, ρ2, rfl, hk', hfr, m2⟩

def VcAll (P : Program) (glb : Nat → Option GV) (S : Stat) (an : Nat → Items) (c : Code) : Prop :=
  ∀ (Bk X0 : Nat → Prop) (w0 : World) (F : Fence) (n : Nat), Wide F P → (F.round = none ∨ noRF c = true) → VcOK P glb Bk X0 w0 F n S an c

theorem seqC_ok {c : SC} {k : (A : Kd) → List A.T → Prop} (h : seqC c k) : ∃ A xs, c = .d (.seq A) xs ∧ k A xs := by
  unfold seqC at h
  split at h
  · exact ⟨_, _, rfl, h⟩
  · exact h.elim

structure RfI (P : Program) (glb : Nat → Option GV) (Bk X0 : Nat → Prop) (w0 : World) (its : Items) (I : its.G → Prop) (st : St) (ρ : Lab) (tmps : Array Value) (W : World) (Ds : List Nat) (l : Nat) (r : Loop) (Ib : Nat → Prop) (W2 : World) : Prop where
  ex : ∃ g ρg, I g ∧ Mt P glb Bk (fun k => X0 k ∨ Ib k) w0 (its.head st [] g) ρg ⟨tmps, []⟩ W2 ∧ ρ.le ρg ∧ Evo (Xs st ρ X0) W (Xs (its.head st [] g) ρg (fun k => X0 k ∨ Ib k)) W2
  lp : W2.heap[l]? = some (.loop r)
  dfr : ∀ D, D ∈ Ds → W2.heap[D]? = some (.deferred (some []))
  low : ∀ k, Ib k → l < k

structure RfX (P : Program) (glb : Nat → Option GV) (Bk X0 : Nat → Prop) (w0 : World) (KX : Xt → St → Prop) (st : St) (ρ : Lab) (tmps : Array Value) (Ds : List Nat) (l : Nat) (rd : Code → Loop) (Ib : Nat → Prop) (W2 : World) : Prop where
  ex : ∃ xt c st' ρ', ((xt = .ret ∧ c = .ret) ∨ ∃ i, xt = .exit i ∧ c = .exit i) ∧ KX xt st' ∧ Frm st st' [] ∧ ρ.le ρ' ∧ Mt P glb Bk (fun k => X0 k ∨ Ib k) w0 st' ρ' ⟨tmps, []⟩ W2 ∧ W2.heap[l]? = some (.loop (rd c))
  dfr : ∀ D, D ∈ Ds → W2.heap[D]? = some (.deferred (some []))
  low : ∀ k, Ib k → l < k

theorem turned_low {Ib I' : Nat → Prop} {l : Nat} (ht : Turned Ib W I' W') (hl : l < W.heap.size) (h : ∀ k, Ib k → l < k) : ∀ k, I' k → l < k := by
  intro k hk
  rcases ht.new k hk with h1 | h1
  · exact h k h1
  · omega

theorem turned_at {Ib I' : Nat → Prop} {l k : Nat} {o : Obj} (ht : Turned Ib W I' W') (h : ∀ k, Ib k → l < k) (hk : k ≤ l) (ho : W.heap[k]? = some o) (hm : ∀ es c, o ≠ .map es c) : W'.heap[k]? = some o :=
  (ht.keep k (Array.getElem?_eq_some_iff.1 ho).1 (fun hi => by have := h k hi; omega) (fun _ es c hc => by rw [ho] at hc; cases hc; exact (hm es c rfl).elim)).trans ho

theorem RfI.turned {its : Items} {I : its.G → Prop} {tmps : Array Value} {W0 : World} {Ds : List Nat} {l : Nat} {r : Loop} {Ib I' : Nat → Prop} (h : RfI P glb Bk X0 w0 its I st ρ tmps W0 Ds l r Ib W) (ht : Turned Ib W I' W') (hB : ∀ k, Bk k → k ≤ l) (hD : ∀ D, D ∈ Ds → D ≤ l) :
    RfI P glb Bk X0 w0 its I st ρ tmps W0 Ds l r I' W' := by
  have hlt := (Array.getElem?_eq_some_iff.1 h.lp).1
  obtain ⟨g, ρg, hI, m, hle, hev⟩ := h.ex
  obtain ⟨m', ev'⟩ := m.turned (B := l + 1) ht (fun k hk => h.low k hk) (fun k hk => Nat.lt_succ_of_le (hB k hk)) DefOK.nil
  exact ⟨⟨g, ρg, hI, m', hle, hev.trans ev'⟩, turned_at ht h.low (Nat.le_refl _) h.lp (fun _ _ h => (by cases h)), fun D hDm => turned_at ht h.low (hD D hDm) (h.dfr D hDm) (fun _ _ h => (by cases h)), turned_low ht hlt h.low⟩

theorem RfX.turned {KX : Xt → St → Prop} {tmps : Array Value} {Ds : List Nat} {l : Nat} {rd : Code → Loop} {Ib I' : Nat → Prop} (h : RfX P glb Bk X0 w0 KX st ρ tmps Ds l rd Ib W) (ht : Turned Ib W I' W') (hB : ∀ k, Bk k → k ≤ l) (hD : ∀ D, D ∈ Ds → D ≤ l) :
    RfX P glb Bk X0 w0 KX st ρ tmps Ds l rd I' W' := by
  obtain ⟨xt, c, st', ρ', hc, hk, hf, hle, m, hrec⟩ := h.ex
  have hlt := (Array.getElem?_eq_some_iff.1 hrec).1
  obtain ⟨m', ev'⟩ := m.turned (B := l + 1) ht (fun k hk => h.low k hk) (fun k hk => Nat.lt_succ_of_le (hB k hk)) DefOK.nil
  exact ⟨⟨xt, c, st', ρ', hc, hk, hf, hle, m', turned_at ht h.low (Nat.le_refl _) hrec (fun _ _ h => (by cases h))⟩, fun D hDm => turned_at ht h.low (hD D hDm) (h.dfr D hDm) (fun _ _ h => (by cases h)), turned_low ht hlt h.low⟩

theorem round_end {Bk0 : Nat → Prop} {w00 : World} {XI X1 Bk2 : Nat → Prop} {sth st3 : St} {ρg ρ3 : Lab} {tmps : Array Value} {ds0 : List Deferred} {a5 : Act} {L l : Nat} {r r2 : Loop} {W2 W4 W5 : World} {o : Obj}
    (m0 : Mt P glb Bk0 X0 w00 st ρ ⟨tmps, ds0⟩ W) (hev : Evo (Xs st ρ X0) W (Xs sth ρg XI) W2) (hle : ρ.le ρ3) (hn : st3.n = st.n)
    (mg : Mt P glb Bk XI w0 sth ρg ⟨tmps, []⟩ W2) (hBk2 : ∀ k, Bk2 k ↔ k < W2.heap.size ∧ ¬ OwnWr sth ρg k)
    (m5 : Mt P glb Bk2 X1 W4 st3 ρ3 a5 W5) (h24 : Bel (fun k => Bk2 k ∧ k ≠ l) W2 W4)
    (hl : W4.heap[l]? = some (.loop r)) (hlW2 : W2.heap[l]? = some (.loop r2)) (hl2 : Bk2 l) (hBl : ¬ Bk l) (hX1 : ∀ k, XI k → Xs st3 ρ3 X1 k)
    (hnl : noLn (strike st3 L).look st3.dom = true) :
    Mt P glb Bk XI w0 (backSt st L st3) ρ3 ⟨tmps, []⟩ (W5.putObj l o) ∧ Evo (Xs sth ρg XI) W2 (Xs (backSt st L st3) ρ3 XI) (W5.putObj l o) ∧ Bel (fun k => Bk2 k ∧ k ≠ l) W2 (W5.putObj l o) := by
  have hl5 : W5.heap[l]? = some (.loop r) := (m5.bel.block l hl2 (fun _ es c hc => by rw [hl] at hc; cases hc)).trans hl
  have other : ∀ {l' he s}, (strike st3 L).hp l' = some (he, s) → l' ≠ L ∧ st3.hp l' = some (he, s) := by
    intro l' he s h
    by_cases hl' : l' = L
    · subst hl'; rw [show (strike st3 l').hp = updf st3.hp l' none from rfl, updf_same] at h; cases h
    · rw [show (strike st3 L).hp = updf st3.hp L none from rfl, updf_other _ _ hl'] at h; exact ⟨hl', h⟩
  have nln : ∀ {l' he s}, l' ≠ L → st3.hp l' = some (he, s) → he.isLn = false := by
    intro l' he s hne h
    obtain ⟨v, hv, _⟩ := m5.hps l' he s h
    refine noLn_spec hnl l' (memL_iff.1 (m5.dom l' v hv)) he ?_
    show ((updf st3.hp L none) l').map (·.1) = some he
    rw [updf_other _ _ hne, h]; rfl
  have hBB : ∀ k, Bk k → Bk2 k := fun k hk => (hBk2 k).2 ⟨Nat.lt_of_lt_of_le (mg.bk k hk) mg.bel.size, fun ⟨l', he, s, v, h1, h2, h3, h4⟩ => (mg.nb l' he s v k h1 h2 h3).1 h4 hk⟩
  have hIB : ∀ k, XI k → Bk2 k := fun k hk => (hBk2 k).2 ⟨mg.x0 k hk, fun ⟨l', he, s, v, h1, h2, h3, h4⟩ => (mg.nb l' he s v k h1 h2 h3).2 hk⟩
  have same : Bel (fun k => Bk2 k ∧ k ≠ l) W2 (W5.putObj l o) := (h24.trans (m5.bel.mono fun k hk => hk.1)).trans
    ⟨rfl, rfl, rfl, by simp, fun k hk _ => World.putObj_heap_other hk.2, fun mm xs _ hg => GoodAt.keep hg fun k hk => World.putObj_heap_other (by rintro rfl; obtain ⟨_, _, hc⟩ := hk; rw [hl5] at hc; cases hc)⟩
  have hsz5 : W2.heap.size ≤ W5.heap.size := Nat.le_trans h24.size m5.bel.size
  have mA : Mt P glb (fun _ => False) X1 W5 st3 ρ3 a5 W5 := m5.reguard (fun _ h => h.elim) (.refl _ _) (fun _ _ _ _ _ _ _ _ _ h => h) (m5.dfr.noBk (fun _ h => h.elim))
  have mB := mA.putLoop hl5 (fun h => h) o
  have mC : Mt P glb Bk X1 w0 st3 ρ3 a5 (W5.putObj l o) := by
    refine mB.reguard mg.bk (mg.bel.trans (same.mono fun k hk => ⟨hBB k hk, fun hh => hBl (hh ▸ hk)⟩))
      (fun l' he s v k h1 h2 h3 h4 hk => (m5.nb l' he s v k h1 h2 h3).1 h4 (hBB k hk)) ?_
    refine (m5.dfr.keep (W' := W5.putObj l o) (fun D hD => World.putObj_heap_other (fun hh => ?_))).noBk hBB
    subst hh; rw [hl5] at hD; cases hD
  have mD : Mt P glb Bk XI w0 (strike st3 L) ρ3 a5 (W5.putObj l o) := by
    refine mC.struck ?_ (fun l' he s v k hne h1 h2 h3 hX => ?_) (fun k hk => ?_)
    · rintro k (h | ⟨l', he, s, v, h1, h2, h3⟩)
      · exact hX1 k h
      · exact .inr ⟨l', he, s, v, (other h1).2, h2, h3⟩
    · exact (m5.nb l' he s v k h1 h2 h3).1 (nln hne h1) (hIB k hX)
    · have := mg.x0 k hk
      simp only [World.putObj_size]; omega
  have ev : Evo (Xs sth ρg XI) W2 (Xs (strike st3 L) ρ3 XI) (W5.putObj l o) := by
    have ne : ∀ k, (∃ cs t fr, W2.heap[k]? = some (.cells cs t fr)) → k ≠ l := by
      rintro k ⟨cs, t, fr, hc⟩ rfl
      rw [hlW2] at hc; cases hc
    refine ⟨by simpa using hsz5, fun k hc hx => ?_, fun k hk hlt => ?_, mD.Xlt, fun mm xs hp hg => same.memo mm xs (hp.mono fun k hx hk hn => hn ⟨(hBk2 k).2 ⟨cells_lt hk, fun h => hx h.xs⟩, ne k hk⟩) hg⟩
    · exact same.block k ⟨(hBk2 k).2 ⟨cells_lt hc, fun h => hx (h.xs)⟩, ne k hc⟩ (noMap_cells hc)
    · rcases hk with hk | ⟨l', he, s, v, h1, h2, h3⟩
      · exact .inl hk
      · obtain ⟨hne, h1⟩ := other h1
        have hnb := (m5.nb l' he s v k h1 h2 h3).1 (nln hne h1)
        exact Classical.byContradiction fun hno => hnb ((hBk2 k).2 ⟨hlt, fun h => hno h.xs⟩)
  refine ⟨mD.retm (tm' := st.tm) (tmps' := tmps) (m0.size.trans hn.symm) (fun t => (m0.tms t).mono hle (hev.trans ev)) DefOK.nil, ev, same⟩

theorem sameStamp_some {a b : Option (HE × Nat)} {he : HE} {n : Nat} (h : sameStamp a b = true) (hb : b = some (he, n)) : ∃ he', a = some (he', n) := by
  subst hb
  cases a with
  | none => cases h
  | some p => obtain ⟨he', m⟩ := p; have := Nat.eq_of_beq_eq_true h; subst this; exact ⟨he', rfl⟩

theorem base_frm_back {st : St} {L : Nat} {st1 st2 st3 : St} {its : Items} {g : its.G} {wa wb : List Nat} (hok : its.ok st [] = true) (hoth : ∀ l, l ≠ L → st1.hp l = (its.head st [] g).hp l) (hcnt1 : st1.cnt = (its.head st [] g).cnt) (hn1 : st1.n = (its.head st [] g).n)
    (hf2 : Frm st1 st2 wa) (hf3 : Frm st2 st3 wb) : Frm st (backSt st L st3) [] := by
  have hh := head_frm (st0 := st) (wr := []) g hok
  refine ⟨hf3.n.trans (hf2.n.trans (hn1.trans hh.n)), Nat.le_trans hh.cnt (hcnt1 ▸ Nat.le_trans hf2.cnt hf3.cnt), fun _ _ => rfl, fun l he s h hs => ?_⟩
  have h' : updf st3.hp L none l = some (he, s) := h
  by_cases hl : l = L
  · subst hl; rw [updf_same] at h'; cases h'
  · rw [updf_other _ _ hl] at h'
    have e1 : st.cnt ≤ st1.cnt := by rw [hcnt1]; exact hh.cnt
    have h2 := hf3.hp l he s h' (Nat.le_trans hs (Nat.le_trans e1 hf2.cnt))
    have h1 := hf2.hp l he s h2 (Nat.le_trans hs e1)
    rw [hoth l hl] at h1
    exact hh.hp l he s h1 hs

theorem ahead_back {st : St} {L : Nat} {st1 st2 st3 : St} {its : Items} {g : its.G} {wa wb : List Nat} (hA : Ahead P st [] its st) (hLd : memL L st.dom = false) (hoth : ∀ l, l ≠ L → st1.hp l = (its.head st [] g).hp l) (hcnt1 : st1.cnt = (its.head st [] g).cnt) (hn1 : st1.n = (its.head st [] g).n)
    (hf2 : Frm st1 st2 wa) (hf3 : Frm st2 st3 wb) (hk : keptOK its.labs st1 st3 (its.labs ++ st.dom) = true) : Ahead P st [] its (backSt st L st3) := by
  refine ⟨hf3.n.trans (hf2.n.trans (hn1.trans rfl)), fun _ _ => rfl, fun l he s hb hl => ?_, hA.utm, hA.uhp⟩
  obtain ⟨hd, _, hs⟩ := hA.uhp l he s (base_some hb)
  have hne : l ≠ L := by rintro rfl; rw [hd] at hLd; cases hLd
  have hhd : st1.hp l = some (he, s) := (hoth l hne).trans ((hp_notlab hl).trans hb)
  show ∃ s', updf st3.hp L none l = some (he, s')
  rw [updf_other _ _ hne]
  rcases kept_spec hk l (by rw [memL_append, hd, Bool.or_true]) with h1 | h1
  · rw [hl] at h1; cases h1
  · obtain ⟨he', h3⟩ := sameStamp_some h1 hhd
    have e1 : s ≤ st1.cnt := by rw [hcnt1]; show s ≤ st.cnt + 1; omega
    have h2 := hf2.hp l he' s (hf3.hp l he' s h3 (Nat.le_trans e1 hf2.cnt)) e1
    rw [hhd] at h2; cases h2
    exact ⟨s, h3⟩

theorem rf_ok (hF : Wide F P) (hro : F.round = none) (hS : StatOK P S) (hct : CtOK P glb S) (hg : S.glb = glb) (an : Nat → Items) (id : Nat) (f : Operand) (ps : Array Tmp) (asg body : Code) (iha : VcAll P glb S an asg) (ihb : VcAll P glb S an body) :
    VcOK P glb Bk X0 w0 F n S an (.block id (.rangeFunc f ps asg body)) := by
  intro st ρ a W K m h
  simp only [vc] at h
  obtain ⟨hc, h⟩ := chk_iff.1 h
  simp only [Bool.and_eq_true, Bool.not_eq_true'] at hc
  obtain ⟨⟨⟨⟨⟨⟨hnd, hok⟩, hheap⟩, hnra⟩, hnrb⟩, hps⟩, hL⟩ := hc
  have hpsn : ∀ p, p ∈ ps.toList → p < st.n := fun p hp => by have := List.all_eq_true.1 hps p hp; simpa [Nat.blt_eq] using this
  rw [memL_append, Bool.or_eq_false_iff] at hL
  obtain ⟨c, hk, hv⟩ := oneC_ok h (ev_ok hS hg m 0 f)
  obtain ⟨A, xs, rfl, I, hget, hrounds, hend⟩ := seqC_ok hk
  obtain ⟨u, hu, _, _, hseq⟩ := hv
  cases hu
  have hA := m.ahead (an id) []
  refine wpIn_block (wpIn_rangeFunc fun fn hfn => ?_)
  rw [hro]
  obtain ⟨rec, hrec⟩ : ∃ rec : LoopState → Option Code → Loop, rec = fun st pe => { state := st, pending := pe, fn, tmps := a.tmps, params := ps, assign := asg, body, defers := W.heap.size } := ⟨_, rfl⟩
  obtain ⟨W1, hW1⟩ : ∃ W1, (W.alloc (.deferred (some []))).alloc (.loop (rec .ready none)) = W1 := ⟨_, rfl⟩
  have hL1 : W1.heap[W.heap.size + 1]? = some (.loop (rec .ready none)) := by
    rw [← hW1]; have := World.alloc_heap_new (W.alloc (.deferred (some []))) (.loop (rec .ready none)); rwa [World.size_alloc] at this
  have hK1 : W1.heap[W.heap.size]? = some (.deferred (some [])) := by
    rw [← hW1]; exact (Below.heap_alloc _ _ _ (by simp)).trans (World.alloc_heap_new W _)
  have hb1 : Below W.heap.size W W1 := by
    rw [← hW1]; exact (((Below.refl _ W).alloc (Nat.le_refl _) _).alloc (by simp) _)
  have hsz1 : W1.heap.size = W.heap.size + 2 := by rw [← hW1]; simp
  obtain ⟨l, hl⟩ : ∃ l, l = W.heap.size + 1 := ⟨_, rfl⟩
  rw [← hl] at hL1
  obtain ⟨Ds, hDs, hDnd, hDD⟩ := m.dfr
  have hDlt : ∀ D, D ∈ Ds → D < W.heap.size := fun D hD => (Array.getElem?_eq_some_iff.1 (hDD D hD).1).1
  have hBlt : ∀ k, Bk k → k < W.heap.size := fun k hk => Nat.lt_of_lt_of_le (m.bk k hk) m.bel.size
  have ev1 := m.evoBelow hb1
  have m1 := m.below hb1
  have m1' : Mt P glb Bk X0 w0 st ρ ⟨a.tmps, []⟩ W1 := m1.retm (tm' := st.tm) (tmps' := a.tmps) m1.size m1.tms DefOK.nil
  obtain ⟨gf, fi, cap, hfv, hent, hrun⟩ := hseq _ W1 ev1
  refine ⟨l, [{ target := .collected W.heap.size, args := #[] }], W1, { target := .fn (.func gf) cap, args := fi ++ #[.func (.yield l) #[] #[]] }, W1, gf,
    fi ++ #[.func (.yield l) #[] #[]] ++ cap, W1, ?_, ?_, fun f' _ => hF.fn f', ?_, fun hd => (by rw [hF.depth] at hd; cases hd), ?_⟩
  · rw [← hW1, hrec, hl]; exact run_enterLoop_outer _ _ _ _ _
  · simp only [resolve, hfv]
    simp [go_sem]
  · simp [invoke, go_sem, hent _ _]
  · obtain ⟨Q, hQ⟩ : ∃ Q, Q = Exit.inBlock id (PostX P glb Bk X0 w0 st ρ (codeWrites (.block id (.rangeFunc f ps asg body))) K) := ⟨_, rfl⟩
    rw [← hQ]
    obtain ⟨KX, hKX⟩ : ∃ KX : Xt → St → Prop, KX = fun xt st' => match xt with
      | .norm => False
      | .exit i => cond (Nat.beq i id) (K .norm st') (K (.exit i) st')
      | .ret => K .ret st' := ⟨_, rfl⟩
    have key := hrun 0 l (fun pre Ib W2 => RfI P glb Bk X0 w0 (an id) (fun g => (an id).app (I pre) g) st ρ a.tmps W1 (W.heap.size :: Ds) l (rec .ready none) Ib W2)
      (fun Ib W2 => RfX P glb Bk X0 w0 KX st ρ a.tmps (W.heap.size :: Ds) l (fun c => rec .done (some c)) Ib W2)
      (fun pre Ib W2 I' W3 h ht => h.turned ht (fun k hk => by have := hBlt k hk; omega) (fun D hD => by
        rcases List.mem_cons.1 hD with rfl | hD
        · omega
        · have := hDlt D hD; omega))
      (fun Ib W2 I' W3 h ht => h.turned ht (fun k hk => by have := hBlt k hk; omega) (fun D hD => by
        rcases List.mem_cons.1 hD with rfl | hD
        · omega
        · have := hDlt D hD; omega))
      ?_ ?_
    · refine hF.calls _ _ _ _ _ ((callsIn_wide.1 key).mono ?_)
      have hne : ∀ D, D ∈ W.heap.size :: Ds → D ≠ l ∧ ¬ Bk D := by
        intro D hD
        rcases List.mem_cons.1 hD with rfl | hD
        · exact ⟨by omega, fun hb => by have := hBlt _ hb; omega⟩
        · exact ⟨by have := hDlt D hD; omega, (hDD D hD).2⟩
      have hdef : ∀ (W2 : World) (o : Obj), (∀ D, D ∈ W.heap.size :: Ds → W2.heap[D]? = some (.deferred (some []))) → DefOK Bk (W2.putObj l o) ([{ target := .collected W.heap.size, args := #[] }] ++ a.defers) := by
        intro W2 o hd
        refine ⟨W.heap.size :: Ds, by rw [hDs]; rfl, List.nodup_cons.2 ⟨fun hm => by have := hDlt _ hm; omega, hDnd⟩, fun D hD => ⟨(World.putObj_heap_other (hne D hD).1).trans (hd D hD), (hne D hD).2⟩⟩
      have hBl : ¬ Bk l := fun hb => by have := hBlt _ hb; omega
      have hsub : ∀ t, t ∈ ([] : List Nat) → t ∈ codeWrites (.block id (.rangeFunc f ps asg body)) := fun t ht => by simp at ht
      rintro e W2 ⟨⟨v, rfl⟩, Ib, hJ | hJ⟩
      · obtain ⟨g, ρg, hI, mg, hle, hev⟩ := hJ.ex
        refine ⟨none, _, (by have := run_endLoop (P := P) hJ.lp (by rw [hrec]; simp); rw [hrec] at this; exact this), ?_⟩
        have mE := (mg.freeX (X0 := X0) (fun k hk => .inl hk)).putLoop hJ.lp hBl (.loop { rec .ready none with state := .exhausted })
        have mF := mE.retm (tm' := ((an id).head st [] g).tm) (tmps' := a.tmps) mE.size mE.tms (hdef W2 _ hJ.dfr)
        rw [hQ]
        exact ⟨.norm, (an id).head st [] g, ρg, rfl, All_spec hend g hI, ⟨(head_frm g hok).sub hsub, hle⟩, by rw [hrec] at mF; exact mF⟩
      · obtain ⟨xt, c, st', ρ', hc, hk, hf, hle, mg, hlp⟩ := hJ.ex
        refine ⟨some c, _, (by have := run_endLoop (P := P) hlp (by rw [hrec]; simp); rw [hrec] at this; exact this), ?_⟩
        have mE := (mg.freeX (X0 := X0) (fun k hk => .inl hk)).putLoop hlp hBl (.loop { rec .done (some c) with state := .exhausted })
        have mF := mE.retm (tm' := st'.tm) (tmps' := a.tmps) mE.size mE.tms (hdef W2 _ hJ.dfr)
        rw [hrec] at mF
        rw [hKX] at hk
        rcases hc with ⟨rfl, rfl⟩ | ⟨i, rfl, rfl⟩
        · refine wpIn_ret ?_
          rw [hQ]
          exact ⟨.ret, st', ρ', rfl, hk, ⟨hf.sub hsub, hle⟩, mF⟩
        · refine wpIn_exit ?_
          rw [hQ]
          show if i = id then _ else _
          have hk' : cond (Nat.beq i id) (K .norm st') (K (.exit i) st') := hk
          by_cases hi : i = id
          · subst hi
            rw [if_pos rfl]
            rw [Nat.beq_refl, cond_true] at hk'
            exact ⟨.norm, st', ρ', rfl, hk', ⟨hf.sub hsub, hle⟩, mF⟩
          · rw [if_neg hi]
            rw [beq_ne hi, cond_false] at hk'
            exact ⟨.exit i, st', ρ', rfl, hk', ⟨hf.sub hsub, hle⟩, mF⟩
    ·
      rintro pre x rest Ib W2 vs hxs hJ hlow hWs hvals
      obtain ⟨g, ρg, hIg, mg, hle, hev⟩ := hJ.ex
      obtain ⟨st1, hst1, hvc⟩ := optK_ok (All_spec (hrounds pre x rest hxs) g hIg)
      have mr := mg.rebase
      have hLh : memL (id * 100 + 90) ((an id).head st [] g).dom = false := by show memL _ ((an id).labs ++ st.dom) = false; rw [memL_append, hL.1, hL.2]; rfl
      obtain ⟨ρ1, X1, hle1, m2, hoth, hcnt1, hn1, hX1, hLc⟩ := round_ok mr hLh (I := Ib) (fun k hk => .inr hk) hst1 hvals hpsn
      have hsz := roundSt_len hst1 hvals
      have hy := run_yield (P := P) (args := vs.toArray) hJ.lp (by rw [hrec]; simp [hsz])
      have htm : (((rec .ready none).params.zip vs.toArray).foldl (fun tmps (x : Nat × Value) => tmps.setIfInBounds x.1 x.2) (rec .ready none).tmps) = layTm a.tmps ps.toList vs := by
        rw [hrec, ← foldl_layTm, ← Array.foldl_toList]
        simp
      rw [htm] at hy
      obtain ⟨Bk2, hBk2⟩ : ∃ Bk2 : Nat → Prop, Bk2 = fun k => k < W2.heap.size ∧ ¬ OwnWr ((an id).head st [] g) ρg k := ⟨_, rfl⟩
      rw [← hBk2] at m2
      have hBi : ∀ k, Bk2 k ↔ k < W2.heap.size ∧ ¬ OwnWr ((an id).head st [] g) ρg k := fun k => by rw [hBk2]
      have notCells : ∀ {k : Nat} {o : Obj}, W2.heap[k]? = some o → (∀ cs t fr, o ≠ .cells cs t fr) → Bk2 k := by
        intro k o ho hno
        refine (hBi k).2 ⟨(Array.getElem?_eq_some_iff.1 ho).1, fun ⟨l', he, s, v, h1, h2, h3, _⟩ => ?_⟩
        obtain ⟨v', hv', hok'⟩ := mg.hps l' he s h1
        rw [h2] at hv'; cases hv'
        obtain ⟨cs, t, fr, hc⟩ := hok'.cells h3
        rw [ho] at hc; cases hc; exact hno _ _ _ rfl
      have hBl2 : Bk2 l := notCells hJ.lp (fun _ _ _ h => by cases h)
      have hfnr : rec .ready none = { state := .ready, pending := none, fn, tmps := a.tmps, params := ps, assign := asg, body, defers := W.heap.size } := by rw [hrec]
      refine ⟨fn, _, asg, body, (by rw [hfnr] at hy; exact hy), roundIn_of_wpIn trivial ?_⟩
      refine wpIn_mono (iha _ _ W2 (Fence.wide.inRound l) 0 (Wide.inRound P l) (.inr hnra) st1 ρ1 _ W2 _ m2 hvc) ?_
      rintro e a2 W3 ⟨y, st2, ρ2, rfl, hk2, hf2, m3⟩
      cases y with
      | exit i => exact hk2.elim
      | ret => exact hk2.elim
      | norm =>
      have hl3 : W3.heap[l]? = some (.loop (rec .ready none)) := (m3.bel.block l hBl2 (fun _ es c hc => by rw [hJ.lp] at hc; cases hc)).trans hJ.lp
      refine ⟨_, run_beginRound hl3 (by rw [hrec]), ?_⟩
      obtain ⟨W4, hW4⟩ : ∃ W4, W3.putObj l (.loop { rec .ready none with state := .busy }) = W4 := ⟨_, rfl⟩
      rw [hW4]
      have m4 : Mt P glb Bk2 X1 W4 st2 ρ2 a2 W4 := by
        have mA : Mt P glb (fun _ => False) X1 W3 st2 ρ2 a2 W3 := m3.reguard (fun _ h => h.elim) (.refl _ _) (fun _ _ _ _ _ _ _ _ _ h => h) (m3.dfr.noBk (fun _ h => h.elim))
        have mB := mA.putLoop hl3 (fun h => h) (.loop { rec .ready none with state := .busy })
        rw [hW4] at mB
        refine mB.reguard (fun k hk => ?_) (.refl _ _) (fun l' he s v k h1 h2 h3 h4 => (m3.nb l' he s v k h1 h2 h3).1 h4) ?_
        · have := m3.bk k hk
          have := m3.bel.size
          rw [← hW4, World.putObj_size]; omega
        · refine m3.dfr.keep (fun D hD => ?_)
          rw [← hW4]
          exact World.putObj_heap_other (fun hh => by subst hh; rw [hl3] at hD; cases hD)
      refine wpIn_mono (ihb Bk2 X1 W4 (Fence.wide.inRound l) 0 (Wide.inRound P l) (.inr hnrb) st2 ρ2 a2 W4 _ m4 hk2) ?_
      rintro e a5 W5 ⟨z, st3, ρ3, rfl, hk3, hf3, m5⟩
      obtain ⟨hck, hk3⟩ := chk_iff.1 hk3
      simp only [Bool.and_eq_true] at hck
      obtain ⟨hst, hnl⟩ := hck
      have hl4 : W4.heap[l]? = some (.loop { rec .ready none with state := .busy }) := by
        rw [← hW4]; exact World.putObj_heap_same (Array.getElem?_eq_some_iff.1 hl3).1
      have hl5 : W5.heap[l]? = some (.loop { rec .ready none with state := .busy }) := (m5.bel.block l hBl2 (fun _ es c hc => by rw [hl4] at hc; cases hc)).trans hl4
      have h24 : Bel (fun k => Bk2 k ∧ k ≠ l) W2 W4 := by
        rw [← hW4]
        exact (m3.bel.mono fun k hk => hk.1).trans ⟨rfl, rfl, rfl, by simp, fun k hk _ => World.putObj_heap_other hk.2, fun mm xs _ hg => GoodAt.keep hg fun k hk => World.putObj_heap_other (by rintro rfl; obtain ⟨_, _, hc⟩ := hk; rw [hl3] at hc; cases hc)⟩
      have hX13 : ∀ k, (X0 k ∨ Ib k) → Xs st3 ρ3 X1 k := by
        intro k hk
        rcases hLc with ⟨rfl, _⟩ | ⟨he, v, h1, h2, h3, rfl⟩
        · exact .inl hk
        · by_cases hb : ownBlk he v = some k
          · obtain ⟨he', h4⟩ := sameStamp_some hst h1
            have e1 : ((an id).head st [] g).cnt ≤ st1.cnt := by rw [hcnt1]; exact Nat.le_refl _
            have h5 := hf2.1.hp _ he' _ (hf3.1.hp _ he' _ h4 (Nat.le_trans e1 hf2.1.cnt)) e1
            rw [h1] at h5; cases h5
            exact .inr ⟨_, he, _, v, h4, hf3.2 _ _ (hf2.2 _ _ h3), .inl hb⟩
          · exact .inl ⟨hk, hb⟩
      have hle3 : ρ.le ρ3 := fun l' v hv => hf3.2 _ _ (hf2.2 _ _ (hle1 _ _ (hle _ _ hv)))
      have fin : ∀ (jump : Option Code), (Instr.endRound l jump).run P W5 = .ok (.bool jump.isNone) (W5.putObj l (.loop (rec (if jump.isNone then .ready else .done) jump))) ∧
          Mt P glb Bk (fun k => X0 k ∨ Ib k) w0 (backSt st (id * 100 + 90) st3) ρ3 ⟨a.tmps, []⟩ (W5.putObj l (.loop (rec (if jump.isNone then .ready else .done) jump))) ∧
          Evo (Xs ((an id).head st [] g) ρg (fun k => X0 k ∨ Ib k)) W2 (Xs (backSt st (id * 100 + 90) st3) ρ3 (fun k => X0 k ∨ Ib k)) (W5.putObj l (.loop (rec (if jump.isNone then .ready else .done) jump))) ∧
          (W5.putObj l (.loop (rec (if jump.isNone then .ready else .done) jump))).heap[l]? = some (.loop (rec (if jump.isNone then .ready else .done) jump)) ∧
          (∀ D, D ∈ W.heap.size :: Ds → (W5.putObj l (.loop (rec (if jump.isNone then .ready else .done) jump))).heap[D]? = some (.deferred (some []))) ∧
          Kept (Xs st ρ X0) W1 Ib W2 (W5.putObj l (.loop (rec (if jump.isNone then .ready else .done) jump))) := by
        intro jump
        have hr := run_endRound (P := P) jump hl5
        have hrr : ({ ({ rec .ready none with state := .busy } : Loop) with state := if jump.isNone then .ready else .done, pending := jump } : Loop) = rec (if jump.isNone then .ready else .done) jump := by rw [hrec]
        rw [hrr] at hr
        obtain ⟨mE, ev6, same⟩ := round_end (o := .loop (rec (if jump.isNone then .ready else .done) jump)) m1' hev hle3 (hf3.1.n.trans (hf2.1.n.trans (hn1.trans rfl))) mg hBi m5 h24 hl4 hJ.lp hBl2 (fun hb => by have := hBlt _ hb; omega) hX13 hnl
        have hneD : ∀ D, D ∈ W.heap.size :: Ds → D ≠ l := by
          intro D hD
          rcases List.mem_cons.1 hD with rfl | hD
          · omega
          · have := hDlt D hD; omega
        refine ⟨hr, mE, ev6, World.putObj_heap_same (Array.getElem?_eq_some_iff.1 hl5).1, fun D hD => (same.block D ⟨notCells (hJ.dfr D hD) (fun _ _ _ h => by cases h), hneD D hD⟩ (fun _ es c hc => by rw [hJ.dfr D hD] at hc; cases hc)).trans (hJ.dfr D hD), ?_⟩
        have ne : ∀ k, (∃ cs t fr, W2.heap[k]? = some (.cells cs t fr)) → k ≠ l := by
          rintro k ⟨cs, t, fr, hc⟩ rfl
          rw [hJ.lp] at hc; cases hc
        have inI : ∀ k, Ib k → Bk2 k ∧ k ≠ l := fun k hk => ⟨(hBi k).2 ⟨mg.x0 k (.inr hk), fun ⟨l', he, s, v, h1, h2, h3, _⟩ => (mg.nb l' he s v k h1 h2 h3).2 (.inr hk)⟩, by have := hJ.low k hk; omega⟩
        have inO : ∀ k, (∃ cs t fr, W2.heap[k]? = some (.cells cs t fr)) → k < W1.heap.size → ¬ Xs st ρ X0 k → Bk2 k ∧ k ≠ l := fun k hc hlt hx => ⟨(hBi k).2 ⟨cells_lt hc, fun ho => hev.notIn hx hlt ho.xs⟩, ne k hc⟩
        refine ⟨same.os, same.tape, same.output, ev6.size, fun k hk hn => same.block k (inI k hk) hn, fun k hc hlt hx => same.block k (inO k hc hlt hx) (noMap_cells hc), fun mm xs hp hg => same.memo mm xs (hp.mono fun k hx hc hn => hx ?_) hg⟩
        rintro (h | h)
        · exact hn (inI k h)
        · exact hn (inO k hc h.1 h.2)
      have frmB : Frm st (backSt st (id * 100 + 90) st3) [] := base_frm_back (g := g) hok hoth hcnt1 hn1 hf2.1 hf3.1
      cases z with
      | norm =>
        obtain ⟨hkept, hget'⟩ := chk_iff.1 hk3
        obtain ⟨hr, mE, ev6, hlp6, hd6, hK6⟩ := fin none
        refine ⟨_, _, hr, .inl ⟨rfl, ?_, hK6⟩⟩
        obtain ⟨g', ρ', hI', mh', hold', hXh'⟩ := mE.head hct (an id) [] (ahead_back hA hL.2 hoth hcnt1 hn1 hf2.1 hf3.1 hkept) hnd hok hget'
        exact ⟨⟨g', ρ', hI', mh', fun l' v hv => by rw [hold' l' (m.dom l' v hv)]; exact hle3 l' v hv, (hev.trans ev6).trans (Evo.mono mh'.Xlt hXh')⟩, hlp6, hd6, hJ.low⟩
      | exit i =>
        obtain ⟨hr, mE, ev6, hlp6, hd6, hK6⟩ := fin (some (.exit i))
        refine ⟨_, _, hr, .inr ⟨rfl, ⟨⟨.exit i, .exit i, _, ρ3, .inr ⟨i, rfl, rfl⟩, by rw [hKX]; exact hk3, frmB, hle3, mE, hlp6⟩, hd6, hJ.low⟩, hK6⟩⟩
      | ret =>
        obtain ⟨hr, mE, ev6, hlp6, hd6, hK6⟩ := fin (some .ret)
        refine ⟨_, _, hr, .inr ⟨rfl, ⟨⟨.ret, .ret, _, ρ3, .inl ⟨rfl, rfl⟩, by rw [hKX]; exact hk3, frmB, hle3, mE, hlp6⟩, hd6, hJ.low⟩, hK6⟩⟩
    ·
      obtain ⟨g, ρh, hI, mh, hold, hXh⟩ := m1'.head hct (an id) [] hA hnd hok hget
      have mi := mh.freeX (X0 := fun k => X0 k ∨ False) (fun k hk => hk.elim (fun h => h) False.elim)
      refine ⟨⟨g, ρh, hI, mi, fun l v hv => by rw [hold l (m.dom l v hv)]; exact hv, Evo.mono mi.Xlt (fun k hk => hXh k ?_)⟩, hL1, fun D hD => ?_, fun k hk => hk.elim⟩
      · rcases hk with (hk | hk) | hk
        · exact .inl hk
        · exact hk.elim
        · exact .inr hk
      · rcases List.mem_cons.1 hD with rfl | hD
        · exact hK1
        · exact (hb1.block D (hDlt D hD)).trans (hDD D hD).1
theorem oneB_get {v : SV} {k : Bool → Prop} (h : oneB v k) : ∃ b, v = .mk false [.d .bool b] ∧ k b := by
  unfold oneB at h
  split at h
  · exact ⟨_, rfl, h⟩
  · exact h.elim
theorem known_eq {S : Stat} {st : St} {c : Operand} {b : Bool} (h : ev S st 0 c = .mk false [.d .bool b]) : known st c b = st := by
  cases c with
  | tmp t =>
    have h : st.tm t = .mk false [.d .bool b] := h
    have : updf st.tm t (.mk false [.d .bool b]) = st.tm := by
      funext i
      unfold updf
      cases hi : Nat.beq i t with
      | true => rw [Nat.eq_of_beq_eq_true hi]; exact h.symm
      | false => rfl
    exact congrArg (fun f => ({ st with tm := f } : St)) this
  | const => rfl
  | global => rfl
  | func => rfl
theorem rfOr {F : Fence} {x y z : Code} (h : F.round = none ∨ noRF z = true) (hz : noRF z = (noRF x && noRF y)) : (F.round = none ∨ noRF x = true) ∧ (F.round = none ∨ noRF y = true) := by
  rcases h with h | h
  · exact ⟨.inl h, .inl h⟩
  · rw [hz, Bool.and_eq_true] at h
    exact ⟨.inr h.1, .inr h.2⟩

def runR (S : Stat) (id : Nat) (ops : List Oper) (draw : Bool) (st : St) (k : St → Prop) : Prop :=
  match draw with
  | false => vcOps S ops (id * 100) ops 0 st k
  | true => runAny S ops (id * 100) st k
theorem vc_ok_all (hS : StatOK P S) (hct : CtOK P glb S) (hg : S.glb = glb) (an : Nat → Items) (c : Code) : VcAll P glb S an c ∧ (∀ b, c = .loop b → VcAll P glb S an b) ∧ ∀ f ps x y, c = .rangeFunc f ps x y → VcAll P glb S an x ∧ VcAll P glb S an y := by
  have no : ∀ {c : Code}, (∀ b, c ≠ .loop b) → (∀ f ps x y, c ≠ .rangeFunc f ps x y) → VcAll P glb S an c → VcAll P glb S an c ∧ (∀ b, c = .loop b → VcAll P glb S an b) ∧ ∀ f ps x y, c = .rangeFunc f ps x y → VcAll P glb S an x ∧ VcAll P glb S an y :=
    fun h1 h2 h => ⟨h, fun b hb => absurd hb (h1 b), fun f ps x y hb => absurd hb (h2 f ps x y)⟩
  induction c with
  | skip => refine no (fun _ h => by cases h) (fun _ _ _ _ h => by cases h) (fun Bk X0 w0 F n hF hrf st ρ a W K m h => wpIn_skip ⟨.norm, st, ρ, rfl, h, ⟨Frm.refl _ _, ρ.le_refl⟩, m⟩)
  | exit id => refine no (fun _ h => by cases h) (fun _ _ _ _ h => by cases h) (fun Bk X0 w0 F n hF hrf st ρ a W K m h => wpIn_exit ⟨.exit id, st, ρ, rfl, h, ⟨Frm.refl _ _, ρ.le_refl⟩, m⟩)
  | ret => refine no (fun _ h => by cases h) (fun _ _ _ _ h => by cases h) (fun Bk X0 w0 F n hF hrf st ρ a W K m h => wpIn_ret ⟨.ret, st, ρ, rfl, h, ⟨Frm.refl _ _, ρ.le_refl⟩, m⟩)
  | region id ops draw =>
    refine no (fun _ h => by cases h) (fun _ _ _ _ h => by cases h) (fun Bk X0 w0 F n hF hrf st ρ a W K m h => ?_)
    have base : ∀ K' : Xt → St → Prop, runR S id ops.toList draw st (K' .norm) → (Code.region id ops draw).wpIn F n P (PostX P glb Bk X0 w0 st ρ (codeWrites (.region id ops draw)) K') a W := by
      intro K' h
      cases draw with
      | false =>
        refine wpIn_region_list ?_
        have := vcOps_ok (F := F) (n := n) hF hS hct hg ops.toList (id * 100) (K' .norm) (PostX P glb Bk X0 w0 st ρ (codeWrites (.region id ops false)) K') st ρ (codeWrites (.region id ops false)) (fun j o d ho hd => mem_filterMap_dst ho hd)
          (fun a W hp => let ⟨st', ρ', h1, h2, h3⟩ := hp; ⟨.norm, st', ρ', rfl, h1, h2, h3⟩) ops.toList 0 st ρ a W (fun j => by rw [Nat.zero_add]) ⟨Frm.refl _ _, ρ.le_refl⟩ m h
        simpa using this
      | true =>
        have h : runAny S ops.toList (id * 100) st (K' .norm) := h
        unfold runAny at h
        split at h
        · exact vcAny_ok hF hS hct hg id ops (id * 100) (K' .norm) _ (codeWrites (.region id ops true)) (fun j o d ho hd => mem_filterMap_dst ho hd) m h
            (fun a W hp => let ⟨st', ρ', h1, h2, h3⟩ := hp; ⟨.norm, st', ρ', rfl, h1, h2, h3⟩)
        · rename_i p _
          obtain ⟨hpv, h⟩ := chk_iff.1 h
          exact vcLook_ok hF hS hct hg id ops (id * 100) p (K' .norm) _ (codeWrites (.region id ops true)) (fun j o d ho hd => mem_filterMap_dst ho hd) m hpv h
            (fun a W hp => let ⟨st', ρ', h1, h2, h3⟩ := hp; ⟨.norm, st', ρ', rfl, h1, h2, h3⟩)
    have hj : joinS S (an (1000000 + id)) st (ops.toList.filterMap (·.dst)) (runR S id ops.toList draw st) (K .norm) := by
      cases draw with
      | false => exact h
      | true => exact h
    generalize an (1000000 + id) = its at hj
    cases its with
    | nil => exact base K hj
    | cons i r =>
      obtain ⟨hc, I, h1, h2⟩ := chk_iff.1 hj
      simp only [Bool.and_eq_true] at hc
      exact wpIn_mono (base (thruK K fun st' => chk (keptOK (Items.labs (i :: r) ++ Items.gone st (i :: r)) st st' (Items.labs (i :: r) ++ st.dom)) <| Items.get S (Items.kept (i :: r) st) st' (i :: r) [] fun g => Items.app (i :: r) I g) h1) (fun e a1 W1 hp => join_post hct m hc.1 hc.2 h2 hp)
  | seq x y ihx ihy =>
    refine no (fun _ h => by cases h) (fun _ _ _ _ h => by cases h) (fun Bk X0 w0 F n hF hrf st ρ a W K m h => ?_)
    refine wpIn_seq (wpIn_mono (ihx.1 Bk X0 w0 F n hF (rfOr hrf rfl).1 st ρ a W _ m h) ?_)
    rintro e a1 W1 ⟨xt, st1, ρ1, rfl, hk, hf, m1⟩
    have hfx : Frm st st1 (codeWrites x ++ codeWrites y) ∧ ρ.le ρ1 := ⟨hf.1.sub (fun t ht => List.mem_append.2 (.inl ht)), hf.2⟩
    cases xt with
    | norm =>
      refine wpIn_mono (ihy.1 Bk X0 w0 F n hF (rfOr hrf rfl).2 st1 ρ1 a1 W1 K m1 hk) ?_
      rintro e a2 W2 ⟨xt2, st2, ρ2, he, hk2, hf2, m2⟩
      exact ⟨xt2, st2, ρ2, he, hk2, ⟨hfx.1.trans (hf2.1.sub (fun t ht => List.mem_append.2 (.inr ht))), hfx.2.trans hf2.2⟩, m2⟩
    | exit i => exact ⟨.exit i, st1, ρ1, rfl, hk, hfx, m1⟩
    | ret => exact ⟨.ret, st1, ρ1, rfl, hk, hfx, m1⟩
  | cond c x y ihx ihy =>
    refine no (fun _ h => by cases h) (fun _ _ _ _ h => by cases h) (fun Bk X0 w0 F n hF hrf st ρ a W K m h => ?_)
    have base : ∀ K' : Xt → St → Prop, (oneB (ev S st 0 c) fun b => cnd b (vc S an x (known st c true) K') (vc S an y (known st c false) K')) → (Code.cond c x y).wpIn F n P (PostX P glb Bk X0 w0 st ρ (codeWrites (.cond c x y)) K') a W := by
      intro K h
      obtain ⟨b, he0, hk⟩ := oneB_get h
      obtain ⟨b', hbb, hv⟩ := oneB_ok (k := fun x => x = b) (by rw [he0]; exact rfl) (ev_ok hS hg m 0 c)
      obtain ⟨k1, k2⟩ := cnd_iff.1 hk
      subst hbb
      replace k1 : b' = true → vc S an x st K := fun hb => by have := k1 hb; rwa [← hb, known_eq he0] at this
      replace k2 : b' = false → vc S an y st K := fun hb => by have := k2 hb; rwa [← hb, known_eq he0] at this
      refine wpIn_cond_split hv (fun hb => ?_) (fun hb => ?_)
      · refine wpIn_mono (ihx.1 Bk X0 w0 F n hF (rfOr hrf rfl).1 st ρ a W K m (k1 hb)) ?_
        rintro e a1 W1 ⟨xt, st1, ρ1, he, hk, hf, m1⟩
        exact ⟨xt, st1, ρ1, he, hk, ⟨hf.1.sub (fun t ht => List.mem_append.2 (.inl ht)), hf.2⟩, m1⟩
      · refine wpIn_mono (ihy.1 Bk X0 w0 F n hF (rfOr hrf rfl).2 st ρ a W K m (k2 hb)) ?_
        rintro e a1 W1 ⟨xt, st1, ρ1, he, hk, hf, m1⟩
        exact ⟨xt, st1, ρ1, he, hk, ⟨hf.1.sub (fun t ht => List.mem_append.2 (.inr ht)), hf.2⟩, m1⟩
    simp only [vc] at h
    generalize an (2000000 + firstR x) = its at h
    cases its with
    | nil => exact base K h
    | cons i r =>
      obtain ⟨hc, I, h1, h2⟩ := chk_iff.1 h
      simp only [Bool.and_eq_true] at hc
      exact wpIn_mono (base _ h1) (fun e a1 W1 hp => join_post hct m hc.1 hc.2 h2 hp)
  | block id c ih =>
    refine no (fun _ h => by cases h) (fun _ _ _ _ h => by cases h) (fun Bk X0 w0 F n hF hrf => ?_)
    by_cases hc : ∃ b, c = .loop b
    · obtain ⟨b, rfl⟩ := hc
      exact loop_ok hct an id b (ih.2.1 b rfl Bk X0 w0 F n hF hrf)
    by_cases hrf2 : ∃ f ps x y, c = .rangeFunc f ps x y
    · obtain ⟨f, ps, x, y, rfl⟩ := hrf2
      have h2 := ih.2.2 f ps x y rfl
      exact rf_ok hF (hrf.resolve_right (by simp [noRF])) hS hct hg an id f ps x y h2.1 h2.2
    · intro st ρ a W K m h
      have hc2 : ∀ f ps x y, c ≠ .rangeFunc f ps x y := fun f ps x y hb => hrf2 ⟨f, ps, x, y, hb⟩
      have hc' : ∀ b, c ≠ .loop b := fun b hb => hc ⟨b, hb⟩
      rw [vc_block an id c K hc' hc2] at h
      refine wpIn_block (wpIn_mono (ih.1 Bk X0 w0 F n hF hrf st ρ a W _ m h) ?_)
      intro e a W hp
      refine block_post (id := id) (K := K) (wr := codeWrites c) ?_ ?_ ?_ ?_ e a W hp
      · exact fun e a W hp => hp
      · exact fun st' hk => hk
      · exact fun i st' hk => hk
      · exact fun st' hk => hk
  | loop c ih => exact ⟨fun Bk X0 w0 F n hF hrf st ρ a W K m h => h.elim, (fun b hb => by cases hb; exact fun Bk X0 w0 F n hF hrf => ih.1 Bk X0 w0 F n hF hrf), (fun f ps x y hb => by cases hb)⟩
  | rangeFunc f ps x y ihx ihy => exact ⟨fun Bk X0 w0 F n hF hrf st ρ a W K m h => h.elim, (fun b hb => by cases hb), (fun f ps x y hb => by cases hb; exact ⟨ihx.1, ihy.1⟩)⟩
  | scope c ih => refine no (fun _ h => by cases h) (fun _ _ _ _ h => by cases h) (fun Bk X0 w0 F n hF hrf st ρ a W K m h => h.elim)
  | label l => refine no (fun _ h => by cases h) (fun _ _ _ _ h => by cases h) (fun Bk X0 w0 F n hF hrf st ρ a W K m h => h.elim)
  | goto l => refine no (fun _ h => by cases h) (fun _ _ _ _ h => by cases h) (fun Bk X0 w0 F n hF hrf st ρ a W K m h => h.elim)
  | refuse s => refine no (fun _ h => by cases h) (fun _ _ _ _ h => by cases h) (fun Bk X0 w0 F n hF hrf st ρ a W K m h => h.elim)

theorem vc_ok (hF : Wide F P) (hrf : F.round = none) (hS : StatOK P S) (hct : CtOK P glb S) (hg : S.glb = glb) (an : Nat → Items) (c : Code) : VcOK P glb Bk X0 w0 F n S an c := (vc_ok_all hS hct hg an c).1 Bk X0 w0 F n hF (.inl hrf)
end
end Go.GX
set_option linter.unusedVariables false
namespace Go.GX
variable [Inhabited BaseD]
open Go.RowKit Go.Shelf Go.Proofs

theorem argsSV_length : ∀ (K : Kd) (x : K.T), (argsSV K x).length = K.ar
  | .pair A B, x => by simp [argsSV, Kd.ar, argsSV_length B]
  | .unit, _ => rfl
  | .agg K, x => rfl
  | .int k, x => rfl
  | .bool, x => rfl
  | .str, x => rfl
  | .sl e K, x => rfl
  | .nsl e K, x => rfl
  | .fn A R, x => rfl
  | .ptr t K, x => rfl
  | .seq A, x => rfl
  | .mem A, x => rfl

theorem tmOf_append (l1 l2 : List SV) : ∀ i, tmOf (l1 ++ l2) i = if i < l1.length then tmOf l1 i else tmOf l2 (i - l1.length) := by
  induction l1 with
  | nil => intro i; simp
  | cons s r ih =>
    intro i
    cases i with
    | zero => simp [tmOf]
    | succ i =>
      simp only [List.cons_append, tmOf, List.length_cons, Nat.succ_lt_succ_iff, Nat.add_sub_add_right]
      exact ih i

theorem tmOf_past : ∀ (l : List SV) (i : Nat), l.length ≤ i → tmOf l i = .any
  | [], i, _ => by cases i <;> rfl
  | s :: r, 0, h => by simp at h
  | s :: r, i + 1, h => tmOf_past r i (by simpa using h)

section
variable {P : Program} {glb : Nat → Option GV} {Bk X0 : Nat → Prop} {w0 : World} {st : St} {ρ : Lab} {a : Act} {W : World} {S : Stat}

def resOne (tmps : Array Value) : ResultVar → Sem Value
  | .tmp t => pure (tmps.getD t undef)
  | .cell c t => do loadVar t (← asAddr (tmps.getD c undef))

theorem resSV_ok (hS : StatOK P S) (m : Mt P glb Bk X0 w0 st ρ a W) (rv : ResultVar) (h : resSV S st rv ≠ .any) : ∃ v, (resOne a.tmps rv).run P W = .ok v W ∧ RepV P ρ (Xs st ρ X0) W (resSV S st rv) v := by
  cases rv with
  | tmp t => exact ⟨_, rfl, m.tms t⟩
  | cell c t =>
    simp only [resSV] at h ⊢
    cases hi : S.ty t with
    | none => rw [hi] at h; exact absurd rfl h
    | some i =>
      rw [hi] at h
      simp only at h ⊢
      have hv := m.tms c
      split at h
      · rename_i sc hsc
        rw [hsc] at hv
        obtain ⟨c', hc', hrc⟩ := hv
        cases hc'
        split at h
        · rename_i cs hcs
          cases hn : Nat.ble i.kd.n cs.length with
          | false => rw [hn] at h; exact absurd rfl h
          | true =>
            have hn := Nat.le_of_ble_eq_true hn
            simp only [cond_true]
            obtain ⟨ad, us, he, hr, hcell⟩ := cellsAt_ok m hcs hrc
            have hlen := hr.length
            have hsz := run_sizeOf hS hi W
            obtain ⟨harg, _, hagg⟩ := hS.ty t i hi
            have hagg := hagg W
            have hr' := hr.take i.kd.n
            cases hb : i.kd.isAgg with
            | true =>
              rw [hb] at hagg
              have hl : (loadCells ad (us.take i.kd.n).length).run P W = .ok (us.take i.kd.n).toArray W := run_loadCells_list W ad _ (fun j v hv => by
                rw [List.getElem?_take] at hv
                split at hv
                · exact hcell j v hv
                · cases hv)
              rw [List.length_take, Nat.min_eq_left (by omega)] at hl
              refine ⟨.agg (us.take i.kd.n).toArray, ?_, _, rfl, hr'⟩
              simp only [resOne, he]
              simp only [asAddr, loadVar, Sem.run_bind, Sem.run_pure, Result.andThen_ok, hagg, if_true, hsz, hl]
            | false =>
              rw [hb] at hagg
              have h1 := kd_n_one harg hb
              rw [h1] at hn hr' ⊢
              cases us with
              | nil => simp at hlen; omega
              | cons u us =>
                cases cs with
                | nil => simp at hn
                | cons c0 cs =>
                  obtain ⟨v0, vs0, hv0, hrc', _⟩ := hr
                  cases hv0
                  have hc0 := hcell 0 u rfl
                  rw [addZero] at hc0
                  refine ⟨u, ?_, c0, rfl, hrc'⟩
                  simp only [resOne, he]
                  simp [asAddr, loadVar, hagg, run_load, hc0]
        · exact absurd rfl h
      · exact absurd rfl h

theorem decArgs_any {d1 : (K : Kd) → SC → Option (K.T × List Nat)} : ∀ (K : Kd) (ss : List SV) (x : K.T) (ls : List Nat), decArgs d1 K ss = some (x, ls) → ∀ s, s ∈ ss → s ≠ .any := by
  have single : ∀ (K : Kd) (ss : List SV) (x : K.T) (ls : List Nat), decArg d1 K ss = some (x, ls) → ∀ s, s ∈ ss → s ≠ .any := by
    intro K ss x ls h s hs
    unfold decArg at h
    split at h
    · rcases List.mem_singleton.1 hs with rfl
      simp
    · cases h
  intro K
  induction K with
  | unit =>
    intro ss x ls h s hs
    cases ss with
    | nil => simp at hs
    | cons s' r => cases s' <;> cases h
  | pair A B ihA ihB =>
    intro ss x ls h s hs
    cases ss with
    | nil => simp at hs
    | cons s' r =>
      cases s' with
      | mk ag cs =>
        rcases List.mem_cons.1 hs with rfl | hs
        · simp
        · simp only [decArgs] at h
          split at h
          · split at h
            · rename_i y l hd
              cases hr : decArgs d1 B r with
              | none => rw [hr] at h; cases h
              | some q => exact ihB r q.1 q.2 hr s hs
            · cases h
          · cases h
      | any => cases h
      | tup l => cases h
  | _ => intro ss x ls h s hs; exact single _ ss x ls h s hs

theorem results_ok (hS : StatOK P S) (m : Mt P glb Bk X0 w0 st ρ a W) : ∀ (rs : List ResultVar), (∀ r, r ∈ rs → resSV S st r ≠ .any) →
    ∃ vs : List Value, (rs.mapM (resOne a.tmps)).run P W = .ok vs W ∧ RepVs P ρ (Xs st ρ X0) W (rs.map (resSV S st)) vs
  | [], _ => ⟨[], rfl, rfl⟩
  | r :: rs, h => by
    obtain ⟨v, h1, h2⟩ := resSV_ok hS m r (h r List.mem_cons_self)
    obtain ⟨vs, h3, h4⟩ := results_ok hS m rs (fun r' hr' => h r' (List.mem_cons_of_mem _ hr'))
    refine ⟨v :: vs, ?_, v, vs, rfl, h2, h4⟩
    rw [List.mapM_cons, Sem.run_bind, h1]
    simp only [Result.andThen_ok, Sem.run_bind, h3, Sem.run_pure]

theorem ret_of_vals {R : Kd} {X : Nat → Prop} {x : R.T} {vs : List Value} (h : (R.sem P).vals X W x vs) (hr : R.retOK = true) : (R.sem P).ret X W x (if h : vs.toArray.size = 1 then vs.toArray[0] else .tuple vs.toArray) := by
  cases R with
  | unit =>
    have h : vs = [] := h
    subst h
    rfl
  | pair A B =>
    obtain ⟨v, vs', rfl, h1, h2⟩ := h
    have hne : vs' ≠ [] := by
      intro hn
      subst hn
      cases B <;> first
        | (simp [Kd.retOK] at hr; done)
        | (obtain ⟨_, _, h, _⟩ := h2; cases h; done)
        | (obtain ⟨_, h, _⟩ := h2; cases h; done)
    have : ¬ (v :: vs').toArray.size = 1 := by
      cases vs' with
      | nil => exact absurd rfl hne
      | cons w r => simp
    rw [dif_neg this]
    exact ⟨v, vs', rfl, h1, h2⟩
  | agg K => obtain ⟨cs, rfl, h1⟩ := h; exact ⟨cs, rfl, h1⟩
  | int k => obtain ⟨v, rfl, h1⟩ := h; exact h1
  | bool => obtain ⟨v, rfl, h1⟩ := h; exact h1
  | str => obtain ⟨v, rfl, h1⟩ := h; exact h1
  | sl e K => obtain ⟨v, rfl, h1⟩ := h; exact h1
  | nsl e K => obtain ⟨v, rfl, h1⟩ := h; exact h1
  | fn A R => obtain ⟨v, rfl, h1⟩ := h; exact h1
  | ptr t K => obtain ⟨v, rfl, h1⟩ := h; exact h1
  | seq A => obtain ⟨v, rfl, h1⟩ := h; exact h1
  | mem A => obtain ⟨v, rfl, h1⟩ := h; exact h1
end

def takeAll (W : World) : List Nat → World
  | [] => W
  | D :: r => takeAll (W.putObj D (.deferred none)) r

theorem takeAll_leaves {F : Fence} {n : Nat} {P : Program} {fn : Func} {tmps : Array Value} {R : Ending → World → Prop} : ∀ (Ds : List Nat) (W : World), Ds.Nodup → (∀ D : Nat, D ∈ Ds → W.heap[D]? = some (Obj.deferred (some []))) →
    (∃ v, (results fn tmps).run P (takeAll W Ds) = .ok v (takeAll W Ds) ∧ R (.returned v) (takeAll W Ds)) → LeavesInM F n P fn tmps R (Ds.map fun D => ({ target := .collected D, args := #[] } : Deferred)) .returning W
  | [], W, _, _, h => h
  | D :: r, W, hn, hD, h => by
    obtain ⟨h1, h2⟩ := List.nodup_cons.1 hn
    refine ⟨by simp, .inl ⟨D, W.putObj D (.deferred none), rfl, run_takeDeferred (hD D List.mem_cons_self), takeAll_leaves r _ h2 (fun E hE => ?_) h⟩⟩
    rw [World.putObj_heap_other (by intro hh; subst hh; exact h1 hE)]
    exact hD E (List.mem_cons_of_mem _ hE)

theorem takeAll_spec : ∀ (Ds : List Nat) (W : World), (takeAll W Ds).heap.size = W.heap.size ∧ (takeAll W Ds).os = W.os ∧ (takeAll W Ds).tape = W.tape ∧ (takeAll W Ds).output = W.output ∧ ∀ k, k ∉ Ds → (takeAll W Ds).heap[k]? = W.heap[k]?
  | [], W => ⟨rfl, rfl, rfl, rfl, fun _ _ => rfl⟩
  | D :: r, W => by
    obtain ⟨h1, h2, h3, h4, h5⟩ := takeAll_spec r (W.putObj D (.deferred none))
    refine ⟨h1.trans (by simp [World.putObj]), h2, h3, h4, fun k hk => ?_⟩
    simp only [List.mem_cons, not_or] at hk
    exact (h5 k hk.2).trans (World.putObj_heap_other hk.1)

theorem decFresh_any {st : St} {R : Kd} {rs : List SV} {x : R.T} (h : decFresh st R rs = some x) : ∀ s, s ∈ rs → s ≠ .any := by
  intro s hs
  unfold decFresh at h
  split at h
  · rcases List.mem_singleton.1 hs with rfl; simp
  · rcases List.mem_singleton.1 hs with rfl; simp
  · cases h

theorem decFresh_ok {P : Program} {glb : Nat → Option GV} {X0 : Nat → Prop} {w0 : World} {st : St} {ρ : Lab} {a : Act} {W : World} (m : Mt P glb (fun k => k < w0.heap.size) X0 w0 st ρ a W) {R : Kd} {rs : List SV} {x : R.T} (h : decFresh st R rs = some x) {vs : List Value} (hv : RepVs P ρ (Xs st ρ X0) W rs vs) :
    (R.sem P).vals (fun k => k < w0.heap.size) W x vs := by
  unfold decFresh at h
  split at h
  · rename_i l
    obtain ⟨v, vs', rfl, ⟨c, hc, hcc⟩, hvs⟩ := hv
    have hvs : vs' = [] := hvs
    subst hvs
    cases hc
    obtain ⟨hρ, _⟩ := hcc
    split at h
    · rename_i nn e K' xs hl
      obtain ⟨s, hs⟩ := look_some hl
      cases hf : K'.flat with
      | false => rw [hf] at h; cases h
      | true =>
        rw [hf, cond_true] at h
        have hval : ∀ e : TypeId, ((Kd.sl e K').sem P).val (fun k => k < w0.heap.size) W xs v := by
          intro e'
          obtain ⟨A, cap, h1, h2, h3, h4⟩ := m.rowElems hs hρ
          refine ⟨A, cap, h1, h2, h3, fun hne => ?_⟩
          obtain ⟨g, rfl, hget⟩ := h4 hne
          have hnb := m.nb l _ s v g hs hρ (by rw [h1]; exact .inl rfl)
          obtain ⟨v2, hv2, hok⟩ := m.hps l _ s hs
          rw [hρ] at hv2; cases hv2
          have hlt := (hok.lt (k := g) (by rw [h1]; exact .inl rfl)).2
          refine ⟨_, rfl, hnb.1 rfl, hlt, fun j y hy => ?_⟩
          obtain ⟨ecs, k1, k2⟩ := hget j y hy
          exact ⟨ecs, Kd.flat_cells P K' hf k1, fun i u hu => by rw [plainAdd, Nat.zero_add]; exact k2 i u hu⟩
        split at h
        · rename_i e2 K
          split at h
          · rename_i hk
            subst hk
            cases h
            exact vals_one (hval e2) rfl
          · cases h
        · rename_i e2 K
          split at h
          · rename_i hk
            subst hk
            split at h
            · rename_i hnn
              cases h
              obtain ⟨v2, hv2, hok⟩ := m.hps l _ s hs
              rw [hρ] at hv2; cases hv2
              obtain ⟨a2, n2, c2, hv3⟩ := hok.2.2 hnn
              refine vals_one (K := .nsl e2 K') ?_ rfl
              show (some xs = none → v = Value.slice none 0 0) ∧ ∀ ys, some xs = some ys → _
              refine ⟨fun hx => (by cases hx), fun ys hy => ?_⟩
              cases hy
              obtain ⟨A, c, g1, g2, g3, g4⟩ := hval e2
              refine ⟨A, c, g1, ?_, g2, g3, g4⟩
              rw [hv3] at g1
              injection g1 with g1
              rw [← g1]
              simp
            · cases h
          · cases h
        · cases h
    · cases h
  · obtain ⟨v, vs', rfl, ⟨c, hc, hcc⟩, hvs⟩ := hv
    have hvs : vs' = [] := hvs
    subst hvs
    cases hc
    have hcc : v = .slice none 0 0 := hcc
    subst hcc
    split at h
    · cases h
      exact ⟨_, rfl, none, 0, rfl, Nat.le_refl _, by unfold maxLen; omega, fun h => absurd rfl h⟩
    · cases h
      exact ⟨_, rfl, fun _ => rfl, fun xs hx => by cases hx⟩
    · cases h
  · cases h

section
variable {P : Program}

theorem toList_nodup {o : Option Nat} : o.toList.Nodup := by cases o <;> simp

theorem mat_fp {W : World} {e e1 : TypeId} {K1 : Kd} {xs : List (List K1.T)} {us : List Value} {v : Value} (mo : MatOK P W e e1 K1 xs none us v) : (v.ownBlock.toList ++ us.flatMap fun u => u.ownBlock.toList).Nodup := by
  rw [List.nodup_append]
  refine ⟨toList_nodup, ?_, ?_⟩
  · have go : ∀ (ws : List Value), (∀ (j j' : Nat) u u' k, j ≠ j' → ws[j]? = some u → ws[j']? = some u' → u.ownBlock = some k → u'.ownBlock ≠ some k) → (ws.flatMap fun u => u.ownBlock.toList).Nodup := by
      intro ws
      induction ws with
      | nil => intro _; simp
      | cons w r ih =>
        intro h
        rw [List.flatMap_cons, List.nodup_append]
        refine ⟨toList_nodup, ih (fun j j' u u' k hne hj hj' => h (j + 1) (j' + 1) u u' k (by omega) (by simpa using hj) (by simpa using hj')), fun k hk k' hk' hkk => ?_⟩
        subst hkk
        obtain ⟨u, hu, hku⟩ := List.mem_flatMap.1 hk'
        obtain ⟨j, hj⟩ := List.getElem?_of_mem hu
        have h1 : w.ownBlock = some k := by simpa using hk
        have h2 : u.ownBlock = some k := by simpa using hku
        exact h 0 (j + 1) w u k (by omega) rfl (by simpa using hj) h1 h2
    exact go us (fun j j' u u' k hne hj hj' => mo.dis j j' u u' k hne hj hj' rfl rfl)
  · intro k hk k' hk' hkk
    subst hkk
    obtain ⟨u, hu, hku⟩ := List.mem_flatMap.1 hk'
    obtain ⟨j, hj⟩ := List.getElem?_of_mem hu
    exact mo.apart j u k hj rfl (by simpa using hku) (by simpa using hk)

def FpOf (st : St) (ρ : Lab) (ls : List Nat) (fp : List Nat) : Prop := ∀ k, k ∈ fp → ∃ l he s u, l ∈ ls ∧ st.hp l = some (he, s) ∧ ρ l = some u ∧ OwnB ρ he u k ∧ he.isLn = false

theorem slOwn_row {W : World} {e : TypeId} {K : Kd} {xs : List K.T} {v : Value} (h : InRow P W e K xs v) (hf : K.flat = true) (hn : 0 < K.n) : slOwn P W e K xs v v.ownBlock.toList := by
  cases K with
  | sl e1 K1 => simp [Kd.flat] at hf
  | agg K =>
    cases K with
    | sl e1 K1 => simp [Kd.flat] at hf
    | _ => exact ⟨h, hf, hn, rfl⟩
  | _ => exact ⟨h, hf, hn, rfl⟩

theorem decSlO_ok {P : Program} {glb : Nat → Option GV} {Bk X0 : Nat → Prop} {w0 : World} {st : St} {ρ : Lab} {a : Act} {W : World} {X : Nat → Prop} (m : Mt P glb Bk X0 w0 st ρ a W) {e : TypeId} {K : Kd} (hok : (Kd.sl e K).ownOK = true) {c : SC} {xs : List K.T} {ls : List Nat} {v : Value} (h : decSlO st.look e K c = some (xs, ls)) (hv : RepC P ρ X W c v) :
    ∃ fp, slOwn P W e K xs v fp ∧ (∃ A n q, v = .slice A n q) ∧ FpOf st ρ ls fp ∧ fp.Nodup := by
  unfold decSlO at h
  split at h
  · cases h
    have hv : v = .slice none 0 0 := hv
    subst hv
    have nilM : ∀ (e1 : TypeId) (K1 : Kd), (K1.flat && Nat.ble 1 K1.n) = true → MatOK P W e e1 K1 [] none [] (.slice none 0 0) := fun e1 K1 h => by
      simp only [Bool.and_eq_true] at h
      exact ⟨h.1, Nat.le_of_ble_eq_true h.2, rfl, ⟨[], World.ownsRow_nil W _ e 1, fun j u hj => by simp at hj⟩, fun j u xr hj => by simp at hj, fun j j' u u' k _ hj => by simp at hj, fun j u k hj => by simp at hj⟩
    refine ⟨[], ?_, ⟨_, _, _, rfl⟩, fun k hk => by simp at hk, List.nodup_nil⟩
    have row : ∀ K : Kd, (K.flat && Nat.ble 1 K.n) = true → slOwn P W e K ([] : List K.T) (.slice none 0 0) [] := fun K h => by
      simp only [Bool.and_eq_true] at h
      exact slOwn_row (v := .slice none 0 0) ⟨[], World.ownsRow_nil W _ e K.n, fun i x hx => by simp at hx⟩ h.1 (Nat.le_of_ble_eq_true h.2)
    cases K with
    | sl e1 K1 => exact ⟨[], nilM e1 K1 hok, rfl⟩
    | agg K =>
      cases K with
      | sl e1 K1 => exact ⟨[], nilM e1 K1 hok, rfl⟩
      | _ => exact row _ hok
    | _ => exact row _ hok
  · rename_i l
    obtain ⟨hρ, hsl⟩ := hv
    split at h
    · rename_i nn e' K' ys hl
      cases hb : (Nat.beq e' e && K'.flat) with
      | false => rw [hb] at h; cases h
      | true =>
        rw [hb, cond_true] at h
        simp only [Bool.and_eq_true] at hb
        obtain rfl := Nat.eq_of_beq_eq_true hb.1
        split at h
        · rename_i hK
          subst hK
          cases h
          obtain ⟨s, hs⟩ := look_some hl
          obtain ⟨v', hv', hok2⟩ := m.hps l _ s hs
          rw [hρ] at hv'; injection hv' with hv'; subst hv'
          obtain ⟨hpos, ⟨fl, ho, hc⟩, _⟩ := hok2
          refine ⟨v.ownBlock.toList, slOwn_row ⟨fl, ho, fun i x hi => Kd.flat_cells P _ hb.2 (hc i x hi)⟩ hb.2 hpos, hsl, fun k hk => ?_, toList_nodup⟩
          exact ⟨l, _, s, v, by simp, hs, hρ, by rw [ownB_row, ownBlk_row]; simpa using hk, rfl⟩
        · cases h
    · rename_i nn e' ag e1 K1 ys vl hl
      cases hb : Nat.beq e' e with
      | false => rw [hb] at h; cases h
      | true =>
        rw [hb, cond_true] at h
        obtain rfl := Nat.eq_of_beq_eq_true hb
        split at h
        · rename_i hK
          subst hK
          cases h
          obtain ⟨us, s, hs, hu, mo, _, _, _⟩ := m.matAt hl hρ
          refine ⟨v.ownBlock.toList ++ us.flatMap fun u => u.ownBlock.toList, ?_, hsl, fun k hk => ?_, mat_fp mo⟩
          · cases ag with
            | false =>
              refine ⟨us, ?_, rfl⟩
              have : ys.map (elX false e1 K1) = ys := List.map_id ys
              have h2 : castL rfl (ys.map (elX false e1 K1)) = ys := this
              rw [h2]; exact mo
            | true =>
              refine ⟨us, ?_, rfl⟩
              have : ys.map (elX true e1 K1) = ys := List.map_id ys
              have h2 : castL rfl (ys.map (elX true e1 K1)) = ys := this
              rw [h2]; exact mo
          · refine ⟨l, _, s, v, by simp, hs, hρ, (mat_own hu).2 ?_, rfl⟩
            rcases List.mem_append.1 hk with hk | hk
            · exact .inl (by simpa using hk)
            · obtain ⟨u, hu', hku⟩ := List.mem_flatMap.1 hk
              obtain ⟨j, hj⟩ := List.getElem?_of_mem hu'
              exact .inr ⟨j, u, rfl, hj, by simpa using hku⟩
        · cases h
    · cases h
  · cases h

theorem FpOf.app {st : St} {ρ : Lab} {l1 l2 f1 f2 : List Nat} (h1 : FpOf st ρ l1 f1) (h2 : FpOf st ρ l2 f2) : FpOf st ρ (l1 ++ l2) (f1 ++ f2) := by
  intro k hk
  rcases List.mem_append.1 hk with hk | hk
  · obtain ⟨l, he, s, u, a, b⟩ := h1 k hk; exact ⟨l, he, s, u, List.mem_append.2 (.inl a), b⟩
  · obtain ⟨l, he, s, u, a, b⟩ := h2 k hk; exact ⟨l, he, s, u, List.mem_append.2 (.inr a), b⟩

theorem FpOf.nodup {P : Program} {glb : Nat → Option GV} {Bk X0 : Nat → Prop} {w0 : World} {st : St} {ρ : Lab} {a : Act} {W : World} (m : Mt P glb Bk X0 w0 st ρ a W) {l1 l2 f1 f2 : List Nat} (h1 : FpOf st ρ l1 f1) (h2 : FpOf st ρ l2 f2) (hn : (l1 ++ l2).Nodup) (n1 : l1.Nodup → f1.Nodup) (n2 : l2.Nodup → f2.Nodup) : (f1 ++ f2).Nodup := by
  obtain ⟨a1, a2, a3⟩ := List.nodup_append.1 hn
  refine List.nodup_append.2 ⟨n1 a1, n2 a2, fun k hk k' hk' hkk => ?_⟩
  subst hkk
  obtain ⟨l, he, s, u, q1, q2, q3, q4, _⟩ := h1 k hk
  obtain ⟨l', he', s', u', p1, p2, p3, p4, _⟩ := h2 k hk'
  have := m.dis l l' he he' s s' u u' k q2 p2 q3 p3 q4 p4
  exact a3 l q1 l' p1 this

theorem flOwn_pair {W : World} {A B : Kd} {x : (Kd.pair A B).T} {c1 c2 : List Value} {f1 f2 : List Nat} (h1 : flOwn P W A x.1 c1 f1) (h2 : flOwn P W B x.2 c2 f2) : flOwn P W (.pair A B) x (c1 ++ c2) (f1 ++ f2) := ⟨c1, c2, f1, f2, rfl, rfl, h1, h2⟩
theorem flOwn_sl {W : World} {e : TypeId} {K : Kd} {xs : List K.T} {v : Value} {fp : List Nat} (h1 : ∃ A n q, v = .slice A n q) (h2 : slOwn P W e K xs v fp) : flOwn P W (.sl e K) xs [v] fp := ⟨v, rfl, h1, h2⟩

theorem decsO_pairEq {S : Stat} {look : Nat → Option HE} {A B : Kd} {cs : List SC} : decsO S look (.pair A B) cs = (match decsO S look A cs with
    | some (x, r, l) => match decsO S look B r with
      | some (y, r', l') => some ((x, y), r', l ++ l')
      | none => none
    | none => none) := rfl

theorem decsO_slEq {S : Stat} {look : Nat → Option HE} {e : TypeId} {K : Kd} {c : SC} {r : List SC} : decsO S look (.sl e K) (c :: r) = (decSlO look e K c).map fun p => (p.1, r, p.2) := rfl

theorem decsO_pair {S : Stat} {look : Nat → Option HE} {A B : Kd} {cs : List SC} {x : (Kd.pair A B).T} {r : List SC} {ls : List Nat} (h : decsO S look (.pair A B) cs = some (x, r, ls)) : ∃ r1 l1 l2, decsO S look A cs = some (x.1, r1, l1) ∧ decsO S look B r1 = some (x.2, r, l2) ∧ ls = l1 ++ l2 := by
  rw [decsO_pairEq] at h
  split at h
  · rename_i x1 r1 l1 h1
    split at h
    · rename_i x2 r2 l2 h2
      have h3 := Option.some.inj h
      have e1 := congrArg Prod.fst h3
      have e2 := congrArg (fun p => p.2.1) h3
      have e3 := congrArg (fun p => p.2.2) h3
      have e1a := congrArg Prod.fst e1
      have e1b := congrArg Prod.snd e1
      simp only at e2 e3 e1a e1b
      rw [← e2, ← e3, ← e1a, ← e1b]
      exact ⟨r1, l1, l2, h1, h2, rfl⟩
    · cases h
  · cases h

theorem decsO_ok {P : Program} {glb : Nat → Option GV} {X0 Bk : Nat → Prop} {w0 : World} {st : St} {ρ : Lab} {a : Act} {W : World} {S : Stat} (m : Mt P glb Bk X0 w0 st ρ a W) (hct : CtOK P glb S) : ∀ (K : Kd) (cs : List SC) (x : K.T) (r : List SC) (ls : List Nat) (us : List Value), K.ownOK = true →
    decsO S st.look K cs = some (x, r, ls) → RepCs P ρ (Xs st ρ X0) W cs us → ∃ v1 v2 fp, us = v1 ++ v2 ∧ flOwn P W K x v1 fp ∧ RepCs P ρ (Xs st ρ X0) W r v2 ∧ FpOf st ρ ls fp ∧ (ls.Nodup → fp.Nodup) := by
  have leaf : ∀ (K : Kd) (cs : List SC) (x : K.T) (r : List SC) (ls : List Nat) (us : List Value), K.flat = true → (match decs (dec1 S st.look fuel) K cs with
      | some (x, r, []) => some (x, r, [])
      | _ => none) = some (x, r, ls) → RepCs P ρ (Xs st ρ X0) W cs us → ∃ v1 v2, us = v1 ++ v2 ∧ (K.sem P).cells (fun _ => False) W x v1 ∧ RepCs P ρ (Xs st ρ X0) W r v2 ∧ ls = [] := by
    intro K cs x r ls us hf h hr
    split at h
    · rename_i y r' hd
      cases h
      obtain ⟨v1, v2, e, h1, h2⟩ := decs_ok (Z := fun _ => false) (dec1_ok m hct fuel) K cs _ _ [] us hd hr (by simp)
      exact ⟨v1, v2, e, Kd.flat_cells P K hf h1, h2, rfl⟩
    · cases h
  intro K
  induction K with
  | pair A B ihA ihB =>
    intro cs x r ls us hok h hr
    simp only [Kd.ownOK, Bool.and_eq_true] at hok
    obtain ⟨r1, l1, l2, h1, h2, rfl⟩ := decsO_pair h
    obtain ⟨v1, v2, f1, e1, a1, b1, d1, n1⟩ := ihA cs x.1 r1 l1 us hok.1 h1 hr
    obtain ⟨v3, v4, f2, e2, a2, b2, d2, n2⟩ := ihB r1 x.2 r l2 v2 hok.2 h2 b1
    exact ⟨v1 ++ v3, v4, f1 ++ f2, by rw [e1, e2, List.append_assoc], flOwn_pair a1 a2, b2, d1.app d2, fun hn => FpOf.nodup m d1 d2 hn n1 n2⟩
  | agg K ih => intro cs x r ls us hok h hr; exact ih cs x r ls us hok h hr
  | sl e K ih =>
    intro cs x r ls us hok h hr
    cases cs with
    | nil => cases h
    | cons c rest =>
      rw [decsO_slEq] at h
      cases hd : decSlO st.look e K c with
      | none => rw [hd] at h; cases h
      | some p =>
        rw [hd] at h
        have h3 := Option.some.inj h
        have e1 := congrArg Prod.fst h3
        have e2 := congrArg (fun p => p.2.1) h3
        have e3 := congrArg (fun p => p.2.2) h3
        simp only at e1 e2 e3
        rw [← e2, ← e3, ← e1]
        obtain ⟨v, vs, rfl, h1, h2⟩ := hr
        obtain ⟨fp, a1, a2, a3, a4⟩ := decSlO_ok m hok (xs := p.1) (ls := p.2) hd h1
        exact ⟨[v], vs, fp, rfl, flOwn_sl a2 a1, h2, a3, fun _ => a4⟩
  | unit =>
    intro cs x r ls us hok h hr
    cases h
    exact ⟨[], us, [], rfl, ⟨rfl, rfl⟩, hr, fun k hk => by simp at hk, fun _ => List.nodup_nil⟩
  | int k =>
    intro cs x r ls us hok h hr
    obtain ⟨v1, v2, e, h1, h2, rfl⟩ := leaf (.int k) cs x r ls us rfl h hr
    exact ⟨v1, v2, [], e, ⟨h1, rfl⟩, h2, fun k hk => by simp at hk, fun _ => List.nodup_nil⟩
  | bool =>
    intro cs x r ls us hok h hr
    obtain ⟨v1, v2, e, h1, h2, rfl⟩ := leaf .bool cs x r ls us rfl h hr
    exact ⟨v1, v2, [], e, ⟨h1, rfl⟩, h2, fun k hk => by simp at hk, fun _ => List.nodup_nil⟩
  | str =>
    intro cs x r ls us hok h hr
    obtain ⟨v1, v2, e, h1, h2, rfl⟩ := leaf .str cs x r ls us rfl h hr
    exact ⟨v1, v2, [], e, ⟨h1, rfl⟩, h2, fun k hk => by simp at hk, fun _ => List.nodup_nil⟩
  | nsl e K ih => intro cs x r ls us hok; cases hok
  | fn A B ihA ihB => intro cs x r ls us hok; cases hok
  | ptr t K ih => intro cs x r ls us hok; cases hok
  | seq A ih => intro cs x r ls us hok; cases hok
  | mem A ih => intro cs x r ls us hok; cases hok

theorem valO_of {P : Program} {glb : Nat → Option GV} {X0 Bk : Nat → Prop} {w0 : World} {st : St} {ρ : Lab} {a : Act} {W : World} {S : Stat} (m : Mt P glb Bk X0 w0 st ρ a W) (hct : CtOK P glb S) {K : Kd} {ag : Bool} {cs : List SC} {x : K.T} {ls : List Nat} {v : Value} (hok : K.ownOK = true)
    (hk : (ag == K.isAgg && K.arg) = true) (hd : decsO S st.look K cs = some (x, [], ls)) (hv : RepV P ρ (Xs st ρ X0) W (.mk ag cs) v) : ∃ fp, valOwn P W K x v fp ∧ FpOf st ρ ls fp ∧ (ls.Nodup → fp.Nodup) := by
  simp only [Bool.and_eq_true, beq_iff_eq] at hk
  obtain ⟨ha, harg⟩ := hk
  cases ag with
  | false =>
    obtain ⟨c, rfl, hc⟩ := hv
    obtain ⟨v1, v2, fp, he, h1, h2, h3, h4⟩ := decsO_ok m hct K [c] x [] ls [v] hok hd ⟨v, [], rfl, hc, rfl⟩
    have : v2 = [] := h2
    subst this
    rw [List.append_nil] at he
    subst he
    exact ⟨fp, by unfold valOwn; rw [← ha]; exact h1, h3, h4⟩
  | true =>
    obtain ⟨vs, rfl, hc⟩ := hv
    obtain ⟨v1, v2, fp, he, h1, h2, h3, h4⟩ := decsO_ok m hct K cs x [] ls vs hok hd hc
    have : v2 = [] := h2
    subst this
    rw [List.append_nil] at he
    subst he
    exact ⟨fp, by unfold valOwn; rw [← ha]; exact ⟨vs, rfl, h1⟩, h3, h4⟩

theorem decArgsO_ok {P : Program} {glb : Nat → Option GV} {X0 Bk : Nat → Prop} {w0 : World} {st : St} {ρ : Lab} {a : Act} {W : World} {S : Stat} (m : Mt P glb Bk X0 w0 st ρ a W) (hct : CtOK P glb S) : ∀ (K : Kd) (ss : List SV) (x : K.T) (ls : List Nat) (vs : List Value), K.ownOK = true →
    decArgsO S st.look K ss = some (x, ls) → RepVs P ρ (Xs st ρ X0) W ss vs → (∃ fp, valsOwn P W K x vs fp ∧ FpOf st ρ ls fp ∧ (ls.Nodup → fp.Nodup)) ∧ ∀ s, s ∈ ss → s ≠ .any := by
  have single : ∀ (K : Kd) (ss : List SV) (x : K.T) (ls : List Nat) (vs : List Value), K.ownOK = true → decArgO S st.look K ss = some (x, ls) → RepVs P ρ (Xs st ρ X0) W ss vs →
      (∃ fp, (∃ v, vs = [v] ∧ valOwn P W K x v fp) ∧ FpOf st ρ ls fp ∧ (ls.Nodup → fp.Nodup)) ∧ ∀ s, s ∈ ss → s ≠ .any := by
    intro K ss x ls vs hok h hv
    unfold decArgO at h
    split at h
    · rename_i ag cs
      obtain ⟨v, vs', rfl, h1, h2⟩ := hv
      have : vs' = [] := h2
      subst this
      split at h
      · rename_i hk
        split at h
        · rename_i y l hd
          cases h
          obtain ⟨fp, a1, a2, a3⟩ := valO_of m hct hok hk hd h1
          refine ⟨⟨fp, ⟨v, rfl, a1⟩, a2, a3⟩, fun s hs => ?_⟩
          rcases List.mem_singleton.1 hs with rfl
          simp
        · cases h
      · cases h
    · cases h
  intro K
  induction K with
  | unit =>
    intro ss x ls vs hok h hv
    cases ss with
    | nil =>
      cases h
      exact ⟨⟨[], ⟨hv, rfl⟩, fun k hk => by simp at hk, fun _ => List.nodup_nil⟩, fun s hs => by simp at hs⟩
    | cons s r => cases s <;> cases h
  | pair A B ihA ihB =>
    intro ss x ls vs hok h hv
    simp only [Kd.ownOK, Bool.and_eq_true] at hok
    cases ss with
    | nil => cases h
    | cons s r =>
      cases s with
      | mk ag cs =>
        simp only [decArgsO] at h
        split at h
        · rename_i hk
          split at h
          · rename_i y l hd
            cases hr : decArgsO S st.look B r with
            | none => rw [hr] at h; cases h
            | some q =>
              obtain ⟨y2, l2⟩ := q
              rw [hr] at h
              cases h
              obtain ⟨v, vs', rfl, h1, h2⟩ := hv
              obtain ⟨f1, a1, d1, n1⟩ := valO_of m hct hok.1 hk hd h1
              obtain ⟨⟨f2, a2, d2, n2⟩, hany⟩ := ihB r y2 l2 vs' hok.2 hr h2
              refine ⟨⟨f1 ++ f2, ⟨v, vs', f1, f2, rfl, rfl, a1, a2⟩, d1.app d2, fun hn => FpOf.nodup m d1 d2 hn n1 n2⟩, fun s hs => ?_⟩
              rcases List.mem_cons.1 hs with rfl | hs
              · simp
              · exact hany s hs
          · cases h
        · cases h
      | any => cases h
      | tup l => cases h
  | nsl e K ih => intro ss x ls vs hok; cases hok
  | fn A B ihA ihB => intro ss x ls vs hok; cases hok
  | ptr t K ih => intro ss x ls vs hok; cases hok
  | seq A ih => intro ss x ls vs hok; cases hok
  | mem A ih => intro ss x ls vs hok; cases hok
  | _ => intro ss x ls vs hok h hv; exact single _ ss x ls vs hok h hv

theorem decArgsO_any {S : Stat} {look : Nat → Option HE} : ∀ (K : Kd) (ss : List SV) (x : K.T) (ls : List Nat), decArgsO S look K ss = some (x, ls) → ∀ s, s ∈ ss → s ≠ .any := by
  have single : ∀ (K : Kd) (ss : List SV) (x : K.T) (ls : List Nat), decArgO S look K ss = some (x, ls) → ∀ s, s ∈ ss → s ≠ .any := by
    intro K ss x ls h s hs
    unfold decArgO at h
    split at h
    · rcases List.mem_singleton.1 hs with rfl; simp
    · cases h
  intro K
  induction K with
  | unit =>
    intro ss x ls h s hs
    cases ss with
    | nil => simp at hs
    | cons s' r => cases s' <;> cases h
  | pair A B ihA ihB =>
    intro ss x ls h s hs
    cases ss with
    | nil => simp at hs
    | cons s' r =>
      cases s' with
      | mk ag cs =>
        rcases List.mem_cons.1 hs with rfl | hs
        · simp
        · simp only [decArgsO] at h
          split at h
          · split at h
            · rename_i y l hd
              cases hr : decArgsO S look B r with
              | none => rw [hr] at h; cases h
              | some q => exact ihB r q.1 q.2 hr s hs
            · cases h
          · cases h
      | any => cases h
      | tup l => cases h
  | nsl e K ih => intro ss x ls h; cases h
  | fn A B ihA ihB => intro ss x ls h; cases h
  | ptr t K ih => intro ss x ls h; cases h
  | seq A ih => intro ss x ls h; cases h
  | mem A ih => intro ss x ls h; cases h
  | _ => intro ss x ls h s hs; exact single _ ss x ls h s hs

theorem nodupL_nodup : ∀ {ls : List Nat}, nodupL ls = true → ls.Nodup
  | [], _ => List.nodup_nil
  | l :: r, h => by
    simp only [nodupL, Bool.and_eq_true, Bool.not_eq_true'] at h
    refine List.nodup_cons.2 ⟨fun hm => ?_, nodupL_nodup h.2⟩
    rw [memL_mem hm] at h; cases h.1

theorem retO_of_vals {W : World} {R : Kd} {x : R.T} {vs : List Value} {fp : List Nat} (h : valsOwn P W R x vs fp) (hr : R.retOK = true) : retOwn P W R x (if h : vs.toArray.size = 1 then vs.toArray[0] else .tuple vs.toArray) fp := by
  cases R with
  | unit =>
    obtain ⟨rfl, rfl⟩ := h
    exact ⟨rfl, rfl⟩
  | pair A B =>
    have h0 := h
    obtain ⟨v, vs', f1, f2, rfl, rfl, h1, h2⟩ := h
    have hne : vs' ≠ [] := by
      intro hn
      subst hn
      cases B <;> first
        | (simp [Kd.retOK] at hr; done)
        | (obtain ⟨_, _, _, _, h, _⟩ := h2; cases h; done)
        | (obtain ⟨_, h, _⟩ := h2; cases h; done)
    have : ¬ (v :: vs').toArray.size = 1 := by
      cases vs' with
      | nil => exact absurd rfl hne
      | cons w r => simp
    rw [dif_neg this]
    exact ⟨v :: vs', rfl, h0⟩
  | _ => obtain ⟨v, rfl, h1⟩ := h; exact h1

end

theorem Mt.taken {P : Program} {glb : Nat → Option GV} {Bk X0 : Nat → Prop} {w0 : World} {st : St} {ρ : Lab} {a : Act} {W : World} (m : Mt P glb Bk X0 w0 st ρ a W) {Ds : List Nat} (hD : ∀ D : Nat, D ∈ Ds → W.heap[D]? = some (Obj.deferred (some [])) ∧ ¬ Bk D) :
    Mt P glb Bk X0 w0 st ρ { a with defers := [] } (takeAll W Ds) := by
  obtain ⟨h1, h2, h3, h4, h5⟩ := takeAll_spec Ds W
  have notD : ∀ {k cs t fr}, W.heap[k]? = some (Obj.cells cs t fr) → k ∉ Ds := by
    intro k cs t fr hc hk
    rw [(hD k hk).1] at hc; cases hc
  have hmm : ∀ mm xs, GoodAt W mm xs → GoodAt (takeAll W Ds) mm xs := fun mm xs hg => GoodAt.keep hg fun k hk => h5 k (fun hm => by obtain ⟨_, _, hc⟩ := hk; rw [(hD k hm).1] at hc; cases hc)
  have ev : Evo (Xs st ρ X0) W (Xs st ρ X0) (takeAll W Ds) := ⟨by rw [h1]; exact Nat.le_refl _, fun k hk _ => (let ⟨_, _, _, hc⟩ := hk; h5 k (notD hc)), fun _ h _ => h, fun k hk => by rw [h1]; exact m.Xlt k hk, fun mm xs _ hg => hmm mm xs hg⟩
  refine ⟨m.size, DefOK.nil, fun t => (m.tms t).mono ρ.le_refl ev, fun l he s h => ?_, m.dis, fun k hk => by rw [h1]; exact m.x0 k hk, m.bk, m.bel.trans ⟨h2, h3, h4, by rw [h1]; exact Nat.le_refl _, fun k hk _ => h5 k (fun hm => (hD k hm).2 hk), fun mm xs _ hg => hmm mm xs hg⟩, m.nb, m.glb.evo ev, m.dom, m.stamp⟩
  obtain ⟨v, hv, hok⟩ := m.hps l he s h
  refine ⟨v, hv, hok.mono ρ.le_refl ev (fun k hk => ?_)⟩
  obtain ⟨cs, t, fr, hc⟩ := hok.cells hk
  exact h5 k (notD hc)

theorem calls_of_vc {P : Program} {glb : Nat → Option GV} {S : Stat} (hS : StatOK P S) (hct : CtOK P glb S) (hg : S.glb = glb) (an : Nat → Items) {f : FuncId} {fn : Func} {c : Code} (hf : P.funcs[f]? = some fn) (hname : (fn.name == "runtime.NumGoroutine") = false) (hb : fn.body = some c) (ct : Ct)
    {x : ct.A.T} {y : ct.C.T} {Q : ct.R.T → Prop} (hvc : vcFunc S ct.own ct.fresh an fn c ct.A ct.C ct.R x y Q) {X : Nat → Prop} {W : World} {vs cs : List Value} (hX : ∀ k, X k → k < W.heap.size) (hglb : GlbOK P glb X W) (hvs : (ct.A.sem P).vals X W x vs) (hcs : (ct.C.sem P).vals X W y cs) :
    Calls P f (vs ++ cs).toArray W (PostM P ct.own ct.fresh ct.R X W Q) := by
  obtain ⟨hc0, hvc⟩ := chk_iff.1 hvc
  simp only [Bool.and_eq_true] at hc0
  obtain ⟨hn, hret⟩ := hc0
  have hn := Nat.le_of_ble_eq_true hn
  refine callsIn_wide.1 (callsIn_of_wp_marks (F := Fence.wide) (n := 0) hf hb trivial ?_)
  obtain ⟨l1, g1⟩ := RepV.of_vals (P := P) (ρ := fun _ => none) (X := X) (W := W) ct.A hvs
  obtain ⟨l2, g2⟩ := RepV.of_vals (P := P) (ρ := fun _ => none) (X := X) (W := W) ct.C hcs
  have hl1 : vs.length = ct.A.ar := by rw [← l1, argsSV_length]
  have hl2 : cs.length = ct.C.ar := by rw [← l2, argsSV_length]
  have hsz : (vs ++ cs).toArray.size = ct.A.ar + ct.C.ar := by simp [hl1, hl2]

  have hXs : ∀ k, Xs { n := fn.ntmps, tm := tmOf (argsSV ct.A x ++ argsSV ct.C y), hp := fun _ => none, cnt := 0, dom := [] } (fun _ => none) X k → X k := by
    rintro k (h | ⟨l, he, s, v, h, _⟩)
    · exact h
    · cases h
  have m : Mt P glb (fun k => k < W.heap.size) X W { n := fn.ntmps, tm := tmOf (argsSV ct.A x ++ argsSV ct.C y), hp := fun _ => none, cnt := 0, dom := [] } (fun _ => none) { tmps := (vs ++ cs).toArray ++ Array.replicate (fn.ntmps - (vs ++ cs).toArray.size) undef, defers := [] } W := by
    refine ⟨?_, DefOK.nil, fun t => ?_, fun l he s h => (by cases h), fun l l' he he' s s' v v' k h => (by cases h), hX, fun k hk => hk, .refl _ _, fun l he s v k h => (by cases h), ?_, fun l v h => (by cases h), fun l he s h => (by cases h)⟩
    · simp only [Array.size_append, Array.size_replicate, hsz]; omega
    · have hfin : RepV P (fun _ => none) X W (tmOf (argsSV ct.A x ++ argsSV ct.C y) t) (((vs ++ cs).toArray ++ Array.replicate (fn.ntmps - (vs ++ cs).toArray.size) undef).getD t undef) := by
        by_cases ht : t < (vs ++ cs).length
        · have hget : ((vs ++ cs).toArray ++ Array.replicate (fn.ntmps - (vs ++ cs).toArray.size) undef).getD t undef = (vs ++ cs)[t] := by
            rw [Array.getD_eq_getD_getElem?, Array.getElem?_append_left (by simpa using ht), List.getElem?_toArray, List.getElem?_eq_getElem ht]
            rfl
          rw [hget, tmOf_append]
          by_cases h1 : t < vs.length
          · rw [if_pos (by rw [l1]; exact h1)]
            refine g1 t _ ?_
            rw [List.getElem_append_left h1]
            exact List.getElem?_eq_getElem h1
          · rw [if_neg (by rw [l1]; exact h1), l1]
            refine g2 _ _ ?_
            rw [List.getElem_append_right (by omega)]
            exact List.getElem?_eq_getElem _
        · rw [tmOf_past _ t (by simp [l1, l2]; simp at ht; omega)]
          trivial
      exact hfin.mono (Lab.le_refl _) (Evo.mono (fun k hk => hX k (hXs k hk)) hXs)
    · exact hglb.evo (Evo.mono (fun k hk => hX k (hXs k hk)) hXs)
  refine wpIn_mono (vc_ok (Wide.wide P) rfl hS hct hg an c _ _ _ _ _ m hvc) ?_
  rintro e a' W' ⟨xt, st', ρ', rfl, hk, hf', m'⟩
  have fin : decEnd S ct.own ct.fresh st' ct.R (fn.results.toList.map (resSV S st')) Q → LeavesInM Fence.wide 0 P fn a'.tmps (PostM P ct.own ct.fresh ct.R X W Q) a'.defers .returning W' := by
    intro hk
    obtain ⟨Ds, hDs, hnd, hDD⟩ := m'.dfr
    rw [hDs]
    refine takeAll_leaves Ds W' hnd (fun D hD => (hDD D hD).1) ?_
    have m' := m'.taken hDD
    revert m'
    generalize takeAll W' Ds = W'
    intro m'
    have run : ∀ us : List Value, (fn.results.toList.mapM (resOne a'.tmps)).run P W' = .ok us W' → (results fn a'.tmps).run P W' = .ok (if h : us.toArray.size = 1 then us.toArray[0] else .tuple us.toArray) W' := by
      intro us hr
      have hm : fn.results.mapM (resOne a'.tmps) = (do pure (← fn.results.toList.mapM (resOne a'.tmps)).toArray) := by
        rw [Array.mapM_eq_mapM_toList]
        simp
      have hres : results fn a'.tmps = (do
          let vs ← fn.results.mapM (resOne a'.tmps)
          pure (if h : vs.size = 1 then vs[0] else .tuple vs)) := by
        unfold results
        congr 1
      rw [hres, hm]
      simp only [Sem.run_bind, hr, Result.andThen_ok, Sem.run_pure]
    have main : ct.own = false → (∀ rv, rv ∈ fn.results.toList → resSV S st' rv ≠ .any) → (∀ us, RepVs P ρ' (Xs st' ρ' X) W' (fn.results.toList.map (resSV S st')) us → ∃ r, Q r ∧ (ct.R.sem P).vals (frX ct.fresh X W) W' r us) →
        ∃ v, (results fn a'.tmps).run P W' = .ok v W' ∧ PostM P ct.own ct.fresh ct.R X W Q (.returned v) W' := by
      intro hown hany hd
      obtain ⟨us, hr, hrep⟩ := results_ok hS m' fn.results.toList hany
      obtain ⟨r, hQ, hvals⟩ := hd us hrep
      refine ⟨_, run us hr, ?_⟩
      rw [hown]
      exact ⟨r, _, rfl, ret_of_vals hvals hret, m'.bel, hQ⟩
    unfold decEnd at hk
    cases hown : ct.own with
    | true =>
      rw [hown] at hk
      obtain ⟨⟨r, ls⟩, hd, hk2⟩ := optK_ok hk
      obtain ⟨hc, hQ⟩ := chk_iff.1 hk2
      simp only [Bool.and_eq_true] at hc
      have hany := fun us hv => (decArgsO_ok m' hct ct.R _ r ls us hc.2 hd hv).2
      have noany : ∀ rv, rv ∈ fn.results.toList → resSV S st' rv ≠ .any := fun rv hrv => decArgsO_any ct.R _ r ls hd _ (List.mem_map_of_mem hrv)
      obtain ⟨us, hr, hrep⟩ := results_ok hS m' fn.results.toList noany
      obtain ⟨⟨fp, h1, h2, h3⟩, _⟩ := decArgsO_ok m' hct ct.R _ r ls us hc.2 hd hrep
      refine ⟨_, run us hr, r, _, fp, rfl, retO_of_vals h1 hret, h3 (nodupL_nodup hc.1), fun k hk => ?_, m'.bel, hQ⟩
      obtain ⟨l, he, s, u, _, q1, q2, q3, q4⟩ := h2 k hk
      exact Nat.le_of_not_lt ((m'.nb l he s u k q1 q2 q3).1 q4)
    | false =>
    rw [hown] at hk
    rw [hown] at main
    replace main := main rfl
    cases hfr : ct.fresh with
    | true =>
      rw [hfr] at hk
      obtain ⟨r, hd, hQ⟩ := optK_ok hk
      rw [hfr] at main
      exact main (fun rv hrv => decFresh_any hd _ (List.mem_map_of_mem hrv)) (fun us hrep => ⟨r, hQ, decFresh_ok m' hd hrep⟩)
    | false =>
      rw [hfr] at hk
      obtain ⟨⟨r, ls⟩, hd, hQ⟩ := optK_ok hk
      rw [hfr] at main
      refine main (fun rv hrv => decArgs_any ct.R _ r ls hd _ (List.mem_map_of_mem hrv)) (fun us hrep => ⟨r, hQ, ?_⟩)
      have hvals := decArgs_ok (Z := fun l => memL l ls) (dec1_ok m' hct fuel) ct.R _ r ls us hd hrep (fun l hl => memL_mem hl)
      exact (Kd.stands P ct.R).vals (Evo.mono (fun k hk => Nat.lt_of_lt_of_le (hX k hk) m'.bel.size) (fun k hk => .inl hk)) hvals
  cases xt with
  | norm => exact fin hk
  | ret => exact fin hk
  | exit i => exact hk.elim

end Go.GX
set_option linter.unusedVariables false
namespace Go.GX
variable [Inhabited BaseD]
open Go.RowKit Go.Shelf Go.Proofs

def zeroEq : Value → Value → Bool
  | .int .i8 0, .int .i8 0 | .int .i16 0, .int .i16 0 | .int .i32 0, .int .i32 0 | .int .i64 0, .int .i64 0 => true
  | .int .u8 0, .int .u8 0 | .int .u16 0, .int .u16 0 | .int .u32 0, .int .u32 0 | .int .u64 0, .int .u64 0 => true
  | .bool false, .bool false => true
  | .string s, .string t => Nat.beq s.size 0 && Nat.beq t.size 0
  | .slice none 0 0, .slice none 0 0 => true
  | .nilFunc, .nilFunc => true
  | .pointer none, .pointer none => true
  | .map none, .map none => true
  | _, _ => false

theorem bytes_empty {s : ByteArray} (h : s.size = 0) : s = ByteArray.empty := by
  cases s with
  | mk d =>
    have : d = #[] := Array.eq_empty_of_size_eq_zero h
    subst this
    rfl

theorem zeroEq_eq {a b : Value} (h : zeroEq a b = true) : a = b := by
  unfold zeroEq at h
  split at h <;> first | rfl | skip
  · simp only [Bool.and_eq_true] at h
    rw [bytes_empty (Nat.eq_of_beq_eq_true h.1), bytes_empty (Nat.eq_of_beq_eq_true h.2)]
  · cases h

def zerosEq : List Value → List Value → Bool
  | [], [] => true
  | a :: r, b :: s => zeroEq a b && zerosEq r s
  | _, _ => false

theorem zerosEq_eq : ∀ {a b : List Value}, zerosEq a b = true → a = b
  | [], [], _ => rfl
  | a :: r, b :: s, h => by
    simp only [zerosEq, Bool.and_eq_true] at h
    rw [zeroEq_eq h.1, zerosEq_eq h.2]
  | [], _ :: _, h => by cases h
  | _ :: _, [], h => by cases h

def aggB : Option TypeDesc → Bool → Bool
  | some (.struct _), b => b
  | some (.array _ _), b => b
  | some _, b => !b
  | none, _ => false

def tyB (P : Program) (t : TypeId) (i : TI) : Bool :=
  i.kd.arg && (match P.info? t with
    | some inf => Nat.beq inf.size i.kd.n && Nat.beq inf.bytes i.bytes && (match inf.zero with
      | some z => zerosEq z.cells.toList i.kd.zv
      | none => false)
    | none => false) && aggB (P.underlying t) i.kd.isAgg && (match i.kd with
    | .bool => (match P.underlying t with
      | some .bool => true
      | _ => false)
    | .int k => (match P.underlying t with
      | some (.int k') => decide (k' = k)
      | _ => false)
    | .str => (match P.underlying t with
      | some .string => true
      | _ => false)
    | _ => true)

def slB (P : Program) (t e : TypeId) : Bool :=
  match P.underlying t with
  | some (.slice e') => Nat.beq e' e
  | _ => false

def fldB (P : Program) (t f : Nat) (p : Nat × TypeId) : Bool :=
  cond (Nat.beq f 1000000) (match P.underlying t with
  | some (.array n e) => Nat.beq n p.1 && Nat.beq e p.2
  | _ => false) <|
  match P.underlying t with
  | some (.struct fs) => (match fs[f]? with
    | some fd => Nat.beq fd.offset p.1 && Nat.beq fd.type p.2
    | none => false) && fs.toList.all fun fd => (P.info? fd.type).isSome
  | _ => false

def eqfB (P : Program) : Nat → List Field → Bool
  | _, [] => true
  | i, fd :: r => (fd.name != "_") && Nat.beq fd.offset i && (match P.underlying fd.type with
    | some (.int _) => true
    | _ => false) && eqfB P (i + 1) r

def eqB1 (P : Program) (t n : Nat) : Bool := (match eqN P 20 t with
  | some m => Nat.beq m n
  | none => false) && !P.eqGuardType P.depth t && aggT P t
def eqB0 (P : Program) (t n : Nat) : Bool :=
  match P.underlying t with
  | some (.struct fs) => Nat.beq fs.size n && !P.stoodInHeld t && !P.eqGuardType P.depth t && eqfB P 0 fs.toList
  | some (.array m e) => Nat.beq m n && (P.info? e).isSome && Nat.beq (P.cellsOf e) 1 && !P.eqGuardType P.depth t && (match P.underlying e with
    | some (.int _) => true
    | _ => false)
  | _ => false

def eqB (P : Program) (t n : Nat) : Bool := cond (eqB1 P t n) true (eqB0 P t n)
theorem eqfB_spec {P : Program} : ∀ {fs : List Field} {i : Nat}, eqfB P i fs = true → ∀ (j : Nat) fd, fs[j]? = some fd → fd.name ≠ "_" ∧ fd.offset = i + j ∧ ∃ k, P.underlying fd.type = some (.int k)
  | fd0 :: r, i, h, j, fd, hj => by
    simp only [eqfB, Bool.and_eq_true, bne_iff_ne, ne_eq] at h
    obtain ⟨⟨⟨h1, h2⟩, h3⟩, h4⟩ := h
    cases j with
    | zero =>
      simp only [List.getElem?_cons_zero, Option.some.injEq] at hj
      subst hj
      refine ⟨h1, Nat.eq_of_beq_eq_true h2, ?_⟩
      split at h3
      · rename_i k hk; exact ⟨k, hk⟩
      · cases h3
    | succ j =>
      have := eqfB_spec h4 j fd (by simpa using hj)
      rwa [show i + 1 + j = i + (j + 1) by omega] at this

def statB (P : Program) (tyT : List (Nat × TI)) (slT : List (Nat × Nat)) (flT : List ((Nat × Nat) × (Nat × Nat))) (eqT : List (Nat × Nat)) : Bool :=
  P.follows .mixedOrders && eqT.all (fun p => eqB P p.1 p.2) && tyT.all (fun p => tyB P p.1 p.2) && slT.all (fun p => slB P p.1 p.2) && flT.all (fun p => fldB P p.1.1 p.1.2 p.2)

theorem assoc_mem {α : Type} : ∀ {l : List (Nat × α)} {n : Nat} {x : α}, assoc l n = some x → (n, x) ∈ l
  | [], n, x, h => by cases h
  | p :: r, n, x, h => by
    simp only [assoc] at h
    cases hb : Nat.beq p.1 n with
    | true =>
      rw [hb, cond_true] at h
      cases h
      have := Nat.eq_of_beq_eq_true hb
      subst this
      exact List.mem_cons_self
    | false =>
      rw [hb, cond_false] at h
      exact List.mem_cons_of_mem _ (assoc_mem h)

theorem assoc2_mem {α : Type} : ∀ {l : List ((Nat × Nat) × α)} {n m : Nat} {x : α}, assoc2 l n m = some x → ((n, m), x) ∈ l
  | [], n, m, x, h => by cases h
  | p :: r, n, m, x, h => by
    simp only [assoc2] at h
    cases hb : (Nat.beq p.1.1 n && Nat.beq p.1.2 m) with
    | true =>
      rw [hb, cond_true] at h
      cases h
      simp only [Bool.and_eq_true] at hb
      have h1 := Nat.eq_of_beq_eq_true hb.1
      have h2 := Nat.eq_of_beq_eq_true hb.2
      subst h1; subst h2
      exact List.mem_cons_self
    | false =>
      rw [hb, cond_false] at h
      exact List.mem_cons_of_mem _ (assoc2_mem h)

theorem statOK_of {P : Program} {tyT : List (Nat × TI)} {slT : List (Nat × Nat)} {flT : List ((Nat × Nat) × (Nat × Nat))} {eqT : List (Nat × Nat)} {mkT : List (Nat × (Nat × Nat))} {glT : List (Nat × GV)} {ctT : List (Nat × Ct)} {inls lits : List Nat} (h : statB P tyT slT flT eqT = true) : StatOK P (Stat.of tyT slT flT eqT mkT glT ctT inls lits) := by
  simp only [statB, Bool.and_eq_true, List.all_eq_true] at h
  obtain ⟨⟨⟨⟨h0, h4⟩, h1⟩, h2⟩, h3⟩ := h
  refine ⟨h0, fun t i hi => ?_, fun t e he => ?_, fun t p hp => (by cases hp), fun t n hn => ?_, fun t k b hb => ?_, fun t i hi => ?_, fun t b hb => ?_, fun t b hb => ?_, fun t f p hp => ?_, fun t p hp => ?_⟩
  · have := h1 (t, i) (assoc_mem hi)
    simp only [tyB, Bool.and_eq_true] at this
    obtain ⟨⟨⟨g1, g2⟩, g3⟩, _⟩ := this
    refine ⟨g1, ?_, fun w => ?_⟩
    · cases hinf : P.info? t with
      | none => rw [hinf] at g2; cases g2
      | some inf =>
        rw [hinf] at g2
        simp only [Bool.and_eq_true] at g2
        obtain ⟨⟨k1, k2⟩, k3⟩ := g2
        cases hz : inf.zero with
        | none => rw [hz] at k3; cases k3
        | some z =>
          rw [hz] at k3
          exact ⟨inf, z, rfl, Nat.eq_of_beq_eq_true k1, Nat.eq_of_beq_eq_true k2, hz, zerosEq_eq k3⟩
    · cases hu : P.underlying t with
      | none => rw [hu] at g3; cases g3
      | some d =>
        rw [hu] at g3
        unfold Go.isAgg
        rw [Sem.run_bind, run_underlying hu w]
        cases d <;> first
          | (have g3' : i.kd.isAgg = true := g3; rw [g3']; rfl)
          | (have g3' : (!i.kd.isAgg) = true := g3; rw [Bool.not_eq_true'] at g3'; rw [g3']; rfl)
  · have := h2 (t, e) (assoc_mem he)
    simp only [slB] at this
    split at this
    · rename_i e' hu
      rw [hu, Nat.eq_of_beq_eq_true this]
    · cases this
  · have := h4 (t, n) (assoc_mem hn)
    simp only [eqB] at this
    cases hb1 : eqB1 P t n with
    | true =>
      simp only [eqB1, Bool.and_eq_true, Bool.not_eq_true'] at hb1
      obtain ⟨⟨g1, g2⟩, g3⟩ := hb1
      split at g1
      · rename_i m hm
        have := Nat.eq_of_beq_eq_true g1
        subst this
        exact .inr (.inr ⟨hm, g2, g3⟩)
      · cases g1
    | false =>
    rw [hb1, cond_false] at this
    simp only [eqB0] at this
    split at this
    · rename_i fs hu
      simp only [Bool.and_eq_true, Bool.not_eq_true'] at this
      obtain ⟨⟨⟨g1, g2⟩, g3⟩, g4⟩ := this
      refine .inl ⟨fs, hu, Nat.eq_of_beq_eq_true g1, g2, g3, fun i fd hi => ?_⟩
      have := eqfB_spec g4 i fd (by simpa using hi)
      rwa [Nat.zero_add] at this
    · rename_i m e hu
      simp only [Bool.and_eq_true, Bool.not_eq_true'] at this
      obtain ⟨⟨⟨⟨g1, g2⟩, g3⟩, g4⟩, g5⟩ := this
      obtain ⟨i, hi⟩ := Option.isSome_iff_exists.1 g2
      obtain rfl := Nat.eq_of_beq_eq_true g1
      split at g5
      · rename_i k hk
        exact .inr (.inl ⟨e, i, k, hu, hi, Nat.eq_of_beq_eq_true g3, g4, hk⟩)
      · cases g5
    · cases this
  · have := h1 (t, ⟨.int k, b⟩) (assoc_mem hb)
    simp only [tyB, Bool.and_eq_true] at this
    obtain ⟨_, g4⟩ := this
    split at g4
    · rename_i k' hu
      rw [hu, of_decide_eq_true g4]
    · cases g4
  · have := h1 (t, i) (assoc_mem hi)
    simp only [tyB, Bool.and_eq_true] at this
    obtain ⟨⟨_, g3⟩, _⟩ := this
    cases hu : P.underlying t with
    | none => rw [hu] at g3; cases g3
    | some d => rfl
  · have := h1 (t, ⟨.bool, b⟩) (assoc_mem hb)
    simp only [tyB, Bool.and_eq_true] at this
    obtain ⟨_, g4⟩ := this
    split at g4
    · rename_i hu; exact hu
    · cases g4
  · have := h1 (t, ⟨.str, b⟩) (assoc_mem hb)
    simp only [tyB, Bool.and_eq_true] at this
    obtain ⟨_, g4⟩ := this
    split at g4
    · rename_i hu; exact hu
    · cases g4
  · have hp : cond (Nat.blt f 1000000) (assoc2 flT t f) none = some p := hp
    cases hlt : Nat.blt f 1000000 with
    | false => rw [hlt] at hp; cases hp
    | true =>
    rw [hlt, cond_true] at hp
    have hne : Nat.beq f 1000000 = false := by
      cases he : Nat.beq f 1000000 with
      | false => rfl
      | true =>
        have := Nat.eq_of_beq_eq_true he
        subst this
        cases hlt
    have := h3 ((t, f), p) (assoc2_mem hp)
    simp only [fldB, hne, cond_false] at this
    split at this
    · rename_i fs hu
      simp only [Bool.and_eq_true, List.all_eq_true] at this
      obtain ⟨g1, g2⟩ := this
      cases hfd : fs[f]? with
      | none => rw [hfd] at g1; cases g1
      | some fd =>
        rw [hfd] at g1
        simp only [Bool.and_eq_true] at g1
        exact ⟨fs, fd, hu, hfd, Nat.eq_of_beq_eq_true g1.1, Nat.eq_of_beq_eq_true g1.2, fun fd' hfd' => g2 fd' (by simpa using hfd')⟩
    · cases this
  · have := h3 ((t, 1000000), p) (assoc2_mem hp)
    have this : (match P.underlying t with
      | some (.array n e) => Nat.beq n p.1 && Nat.beq e p.2
      | _ => false) = true := this
    split at this
    · rename_i n e hu
      simp only [Bool.and_eq_true] at this
      rw [hu, Nat.eq_of_beq_eq_true this.1, Nat.eq_of_beq_eq_true this.2]
    · cases this
end Go.GX
set_option linter.unusedVariables false
namespace Go.GX
variable [Inhabited BaseD]
open Go.RowKit Go.Shelf Go.Proofs

def AllOK (P : Program) (glb : Nat → Option GV) (l : List (Nat × Ct)) : Prop := ∀ f c, assoc l f = some c → CallsOK P glb f c
def AllMk (P : Program) (l : List (Nat × (Nat × Nat))) : Prop := ∀ f p, assoc l f = some p → MkOK P f p.1 p.2

theorem assoc_cons {α : Type} {p : Nat → α → Prop} {f : Nat} {c : α} {r : List (Nat × α)} (h : p f c) (hr : ∀ g d, assoc r g = some d → p g d) : ∀ g d, assoc ((f, c) :: r) g = some d → p g d := by
  intro g d hd
  simp only [assoc] at hd
  cases hb : Nat.beq f g with
  | true =>
    rw [hb, cond_true] at hd
    cases hd
    exact Nat.eq_of_beq_eq_true hb ▸ h
  | false =>
    rw [hb, cond_false] at hd
    exact hr g d hd

theorem AllOK.nil {P : Program} {glb : Nat → Option GV} : AllOK P glb [] := fun f c h => by cases h
theorem AllOK.cons {P : Program} {glb : Nat → Option GV} {f : Nat} {c : Ct} {r : List (Nat × Ct)} (h : CallsOK P glb f c) (hr : AllOK P glb r) : AllOK P glb ((f, c) :: r) := assoc_cons h hr
theorem AllMk.nil {P : Program} : AllMk P [] := fun f c h => by cases h
theorem AllMk.cons {P : Program} {f : Nat} {c : Nat × Nat} {r : List (Nat × (Nat × Nat))} (h : MkOK P f c.1 c.2) (hr : AllMk P r) : AllMk P ((f, c) :: r) := assoc_cons h hr

def AllInl (P : Program) (l : List Nat) : Prop := (∀ f, memL f l = true → f < 1000000 → InlOK P f) ∧ ∀ f, memL (f + 1000000) l = true → ClipOK P f
theorem AllInl.nil {P : Program} : AllInl P [] := ⟨fun f h => (by cases h), fun f h => (by cases h)⟩
theorem AllInl.cons {P : Program} {f : Nat} {r : List Nat} (h : InlOK P f) (hf : f < 1000000) (hr : AllInl P r) : AllInl P (f :: r) := by
  refine ⟨fun g hg hlt => ?_, fun g hg => ?_⟩
  · rw [memL_cons, Bool.or_eq_true] at hg
    rcases hg with hg | hg
    · exact Nat.eq_of_beq_eq_true hg ▸ h
    · exact hr.1 g hg hlt
  · rw [memL_cons, Bool.or_eq_true] at hg
    rcases hg with hg | hg
    · have := Nat.eq_of_beq_eq_true hg; omega
    · exact hr.2 g hg
theorem AllInl.clip {P : Program} {f : Nat} {r : List Nat} (h : ClipOK P f) (hr : AllInl P r) : AllInl P ((f + 1000000) :: r) := by
  refine ⟨fun g hg hlt => ?_, fun g hg => ?_⟩
  · rw [memL_cons, Bool.or_eq_true] at hg
    rcases hg with hg | hg
    · have := Nat.eq_of_beq_eq_true hg; omega
    · exact hr.1 g hg hlt
  · rw [memL_cons, Bool.or_eq_true] at hg
    rcases hg with hg | hg
    · have := Nat.eq_of_beq_eq_true hg
      obtain rfl : g = f := by omega
      exact h
    · exact hr.2 g hg
theorem AllInl.inlOK {P : Program} {l : List Nat} (h : AllInl P l) : ∀ f, (memL f l && Nat.blt f 1000000) = true → InlOK P f := by
  intro f hf
  simp only [Bool.and_eq_true, Nat.blt_eq] at hf
  exact h.1 f hf.1 hf.2

theorem ctOK_of {P : Program} {tyT : List (Nat × TI)} {slT : List (Nat × Nat)} {flT : List ((Nat × Nat) × (Nat × Nat))} {eqT : List (Nat × Nat)} {mkT : List (Nat × (Nat × Nat))} {glT : List (Nat × GV)} {ctT : List (Nat × Ct)} {inls lits : List Nat} (hct : AllOK P (assoc glT) ctT) (hmk : AllMk P mkT) (hin : AllInl P inls) : CtOK P (assoc glT) (Stat.of tyT slT flT eqT mkT glT ctT inls lits) := ⟨hct, hmk, hin.inlOK, hin.2, fun _ _ h => (by cases h), fun _ _ h => (by cases h), fun _ _ h => by cases h⟩

def AllMp (P : Program) (l : List (Nat × (Nat × Nat))) : Prop := ∀ t p, assoc l t = some p → KeyOK P t p
def AllItm (P : Program) (glb : Nat → Option GV) (l : List (Nat × ItM)) : Prop := ∀ f it, assoc l f = some it → ItmOK P glb f it
theorem AllMp.nil {P : Program} : AllMp P [] := fun f c h => by cases h
theorem AllMp.cons {P : Program} {f : Nat} {c : Nat × Nat} {r : List (Nat × (Nat × Nat))} (h : KeyOK P f c) (hr : AllMp P r) : AllMp P ((f, c) :: r) := assoc_cons h hr
theorem AllItm.nil {P : Program} {glb : Nat → Option GV} : AllItm P glb [] := fun f c h => by cases h
theorem AllItm.cons {P : Program} {glb : Nat → Option GV} {f : Nat} {c : ItM} {r : List (Nat × ItM)} (h : ItmOK P glb f c) (hr : AllItm P glb r) : AllItm P glb ((f, c) :: r) := assoc_cons h hr

theorem StatOK.more {P : Program} {S : Stat} (hS : StatOK P S) {mps : List (Nat × (Nat × Nat))} (hmp : AllMp P mps) (its : List (Nat × ItM)) : StatOK P ((S.withMp mps).withItm its) :=
  ⟨hS.mixed, hS.ty, hS.sl, hmp, hS.eq, hS.int, hS.dfd, hS.bool, hS.str, hS.fld, hS.arr⟩

end Go.GX
set_option linter.unusedVariables false
namespace Go.GX
variable [Inhabited BaseD]
open Go.RowKit Go.Shelf Go.Proofs

abbrev rowLab : Nat := 7000000

def startW (n : Nat) (e : TypeId) (K A C : Kd) (ys : List K.T) (x : A.T) (y : C.T) : St :=
  { n := n, tm := tmOf (.mk false [.own rowLab] :: argsSV A x ++ argsSV C y), hp := fun l => cond (Nat.beq l rowLab) (some (.row false e K ys, 0)) none, cnt := 0, dom := [rowLab] }

def endW (S : Stat) (st : St) (e : TypeId) (K R : Kd) (rs : List SV) (Q : R.T → List K.T → Prop) : Prop :=
  match st.look rowLab with
  | some (.row _ e' K' zs) => chk (Nat.beq e' e) (if h : K' = K then optK (decRes S st R rs) fun r => Q r.1 (castL h zs) else False)
  | _ => False

def vcFuncW (S : Stat) (an : Nat → Items) (fn : Func) (c : Code) (w : CtW) (ys : List w.K.T) (x : w.A.T) (y : w.C.T) (Q : w.R.T → List w.K.T → Prop) : Prop :=
  chk (Nat.ble (1 + w.A.ar + w.C.ar) fn.ntmps && w.R.retOK && w.R.flat) <| vc S an c (startW fn.ntmps w.e w.K w.A w.C ys x y) fun e st =>
    match e with
    | .exit _ => False
    | .norm => endW S st w.e w.K w.R (fn.results.toList.map (resSV S st)) Q
    | .ret => endW S st w.e w.K w.R (fn.results.toList.map (resSV S st)) Q

theorem callsW_of_vc (hoff : memoOn = false) {P : Program} {glb : Nat → Option GV} {S : Stat} (hS : StatOK P S) (hct : CtOK P glb S) (hg : S.glb = glb) (an : Nat → Items) {f : FuncId} {fn : Func} {c : Code} (hf : P.funcs[f]? = some fn) (hname : (fn.name == "runtime.NumGoroutine") = false) (hb : fn.body = some c) (ct : CtW)
    {ys : List ct.K.T} {x : ct.A.T} {y : ct.C.T} {Q : ct.R.T → List ct.K.T → Prop} (hvc : vcFuncW S an fn c ct ys x y Q) {X : Nat → Prop} {W : World} {v : Value} {vs cs : List Value} (hX : ∀ k, X k → k < W.heap.size) (hown : ∀ k, v.ownBlock = some k → X k) (hglb : GlbOK P glb X W) (hrow : InRow P W ct.e ct.K ys v) (hn : 0 < ct.K.n) (hfl : ct.K.flat = true) (hvs : (ct.A.sem P).vals X W x vs) (hcs : (ct.C.sem P).vals X W y cs) :
    Calls P f (v :: vs ++ cs).toArray W (PostW P ct.e ct.K ct.R W v Q) := by
  obtain ⟨hc0, hvc⟩ := chk_iff.1 hvc
  simp only [Bool.and_eq_true] at hc0
  obtain ⟨⟨hnt, hret⟩, hRf⟩ := hc0
  have hnt := Nat.le_of_ble_eq_true hnt
  refine callsIn_wide.1 (callsIn_of_wp_marks (F := Fence.wide) (n := 0) hf hb trivial ?_)
  obtain ⟨l1, g1⟩ := RepV.of_vals (P := P) (ρ := fun _ => none) (X := X) (W := W) ct.A hvs
  obtain ⟨l2, g2⟩ := RepV.of_vals (P := P) (ρ := fun _ => none) (X := X) (W := W) ct.C hcs
  have hl1 : vs.length = ct.A.ar := by rw [← l1, argsSV_length]
  have hl2 : cs.length = ct.C.ar := by rw [← l2, argsSV_length]
  have hsz : (v :: vs ++ cs).toArray.size = 1 + ct.A.ar + ct.C.ar := by simp [hl1, hl2]; omega
  obtain ⟨st, hst⟩ : ∃ st, st = startW fn.ntmps ct.e ct.K ct.A ct.C ys x y := ⟨_, rfl⟩
  rw [← hst] at hvc
  obtain ⟨ρ, hρd⟩ : ∃ ρ : Lab, ρ = fun l => cond (Nat.beq l rowLab) (some v) none := ⟨_, rfl⟩
  have hρ0 : ρ rowLab = some v := by rw [hρd]; rfl
  have hρs : ∀ l u, ρ l = some u → l = rowLab ∧ u = v := by
    intro l u h
    rw [hρd] at h
    cases hb : Nat.beq l rowLab with
    | true => simp only [hb, cond_true] at h; cases h; exact ⟨Nat.eq_of_beq_eq_true hb, rfl⟩
    | false => simp only [hb, cond_false] at h; cases h
  have hhp : ∀ l he s, st.hp l = some (he, s) → l = rowLab ∧ he = .row false ct.e ct.K ys ∧ s = 0 := by
    intro l he s h
    rw [hst] at h
    simp only [startW] at h
    cases hb : Nat.beq l rowLab with
    | true => simp only [hb, cond_true] at h; cases h; exact ⟨Nat.eq_of_beq_eq_true hb, rfl, rfl⟩
    | false => simp only [hb, cond_false] at h; cases h
  have hob : ∀ {ρ' : Lab} {k : Nat}, OwnB ρ' (.row false ct.e ct.K ys) v k → v.ownBlock = some k := fun h => by
    rw [ownB_row, ownBlk_rowV] at h; exact h
  have hslice : ∃ a n c, v = .slice a n c := by
    obtain ⟨fl, ⟨_, ho⟩, _⟩ := hrow
    rcases ho with ⟨h, _⟩ | ⟨g, cap, cur, h, _⟩ <;> exact ⟨_, _, _, h⟩
  have hvlt : ∀ k, v.ownBlock = some k → k < W.heap.size := fun k hk => hX k (hown k hk)
  have hXs : ∀ k, Xs st ρ (fun k => X k ∧ v.ownBlock ≠ some k) k → X k := by
    rintro k (h | ⟨l, he, s, u, h1, h2, h3⟩)
    · exact h.1
    · obtain ⟨rfl, rfl, _⟩ := hhp l he s h1
      obtain ⟨_, rfl⟩ := hρs _ _ h2
      exact hown k (hob h3)
  have m : Mt P glb (fun k => k < W.heap.size ∧ v.ownBlock ≠ some k) (fun k => X k ∧ v.ownBlock ≠ some k) W st ρ { tmps := (v :: vs ++ cs).toArray ++ Array.replicate (fn.ntmps - (v :: vs ++ cs).toArray.size) undef, defers := [] } W := by
    refine ⟨?_, DefOK.nil, fun t => ?_, fun l he s h => ?_, fun l l' he he' s s' u u' k h h' _ _ _ _ => (hhp l he s h).1.trans (hhp l' he' s' h').1.symm, fun k hk => hX k hk.1, fun k hk => hk.1, .refl _ _, fun l he s u k h h2 h3 => ?_, ?_, fun l u h => ?_, fun l he s h => ?_⟩
    · rw [hst]
      simp only [startW, Array.size_append, Array.size_replicate, hsz]; omega
    · rw [hst]
      show RepV P ρ _ W (tmOf (.mk false [.own rowLab] :: (argsSV ct.A x ++ argsSV ct.C y)) t) _
      cases t with
      | zero =>
        have hget : ((v :: vs ++ cs).toArray ++ Array.replicate (fn.ntmps - (v :: vs ++ cs).toArray.size) undef).getD 0 undef = v := by
          rw [Array.getD_eq_getD_getElem?, Array.getElem?_append_left (by simp), List.getElem?_toArray]
          rfl
        rw [hget]
        exact ⟨_, rfl, hρ0, hslice⟩
      | succ t =>
        have hfin : RepV P (fun _ => none) X W (tmOf (argsSV ct.A x ++ argsSV ct.C y) t) (((v :: vs ++ cs).toArray ++ Array.replicate (fn.ntmps - (v :: vs ++ cs).toArray.size) undef).getD (t + 1) undef) := by
          by_cases ht : t < (vs ++ cs).length
          · have hget : ((v :: vs ++ cs).toArray ++ Array.replicate (fn.ntmps - (v :: vs ++ cs).toArray.size) undef).getD (t + 1) undef = (vs ++ cs)[t] := by
              rw [Array.getD_eq_getD_getElem?, Array.getElem?_append_left (by simp at ht ⊢; omega), List.getElem?_toArray, List.cons_append, List.getElem?_cons_succ, List.getElem?_eq_getElem ht]
              rfl
            rw [hget, tmOf_append]
            by_cases h1 : t < vs.length
            · rw [if_pos (by rw [l1]; exact h1)]
              refine g1 t _ ?_
              rw [List.getElem_append_left h1]
              exact List.getElem?_eq_getElem h1
            · rw [if_neg (by rw [l1]; exact h1), l1]
              refine g2 _ _ ?_
              rw [List.getElem_append_right (by omega)]
              exact List.getElem?_eq_getElem _
          · rw [tmOf_past _ t (by simp [l1, l2]; simp at ht; omega)]
            trivial
        rw [← hst]
        exact hfin.mono (fun l u h => by cases h) (Evo.mono (fun k hk => hX k (hXs k hk)) hXs)
    · obtain ⟨rfl, rfl, _⟩ := hhp l he s h
      exact ⟨v, hρ0, row_of_inRow hfl hn (fun h => by cases h) hrow⟩
    · obtain ⟨rfl, rfl, _⟩ := hhp l he s h
      obtain ⟨_, rfl⟩ := hρs _ _ h2
      have := hob h3
      exact ⟨fun _ hb => hb.2 this, fun hx => hx.2 this⟩
    · exact hglb.evo (Evo.mono (fun k hk => hX k (hXs k hk)) hXs)
    · obtain ⟨rfl, _⟩ := hρs l u h
      rw [hst]; rfl
    · rw [(hhp l he s h).2.2]; exact Nat.zero_le _
  refine wpIn_mono (vc_ok (Wide.wide P) rfl hS hct hg an c _ _ _ _ _ m hvc) ?_
  rintro e a' W' ⟨xt, st', ρ', rfl, hk, hf', m'⟩
  have hv' : ρ' rowLab = some v := hf'.2 _ _ hρ0
  have fin : endW S st' ct.e ct.K ct.R (fn.results.toList.map (resSV S st')) Q → LeavesInM Fence.wide 0 P fn a'.tmps (PostW P ct.e ct.K ct.R W v Q) a'.defers .returning W' := by
    intro hk
    obtain ⟨Ds, hDs, hnd, hDD⟩ := m'.dfr
    rw [hDs]
    refine takeAll_leaves Ds W' hnd (fun D hD => (hDD D hD).1) ?_
    have m' := m'.taken hDD
    revert m'
    generalize takeAll W' Ds = W'
    intro m'
    have run : ∀ us : List Value, (fn.results.toList.mapM (resOne a'.tmps)).run P W' = .ok us W' → (results fn a'.tmps).run P W' = .ok (if h : us.toArray.size = 1 then us.toArray[0] else .tuple us.toArray) W' := by
      intro us hr
      have hm : fn.results.mapM (resOne a'.tmps) = (do pure (← fn.results.toList.mapM (resOne a'.tmps)).toArray) := by
        rw [Array.mapM_eq_mapM_toList]
        simp
      have hres : results fn a'.tmps = (do
          let vs ← fn.results.mapM (resOne a'.tmps)
          pure (if h : vs.size = 1 then vs[0] else .tuple vs)) := by
        unfold results
        congr 1
      rw [hres, hm]
      simp only [Sem.run_bind, hr, Result.andThen_ok, Sem.run_pure]
    unfold endW at hk
    split at hk
    case h_2 => exact hk.elim
    rename_i nn e' K' zs hl
    obtain ⟨he, hk2⟩ := chk_iff.1 hk
    have he2 := Nat.eq_of_beq_eq_true he
    clear hk he
    split at hk2
    case isFalse => exact hk2.elim
    rename_i hKK
    subst hKK; subst he2
    obtain ⟨⟨r, ls⟩, hd, hQ⟩ := optK_ok hk2
    have noany : ∀ rv, rv ∈ fn.results.toList → resSV S st' rv ≠ .any := fun rv hrv => decArgs_any ct.R _ r ls hd _ (List.mem_map_of_mem hrv)
    obtain ⟨us, hr, hrep⟩ := results_ok hS m' fn.results.toList noany
    have hvals := decArgs_ok (Z := fun l => memL l ls) (dec1_ok m' hct fuel) ct.R _ r ls us hd hrep (fun l hl => memL_mem hl)
    obtain ⟨s, hs⟩ := look_some hl
    obtain ⟨v2, hv2, hok⟩ := m'.hps _ _ s hs
    rw [hv'] at hv2
    cases hv2
    refine ⟨_, run us hr, r, _, zs, rfl, ret_of_vals (Kd.flat_vals P ct.R hRf hvals) hret, inRow_of hfl hok, ⟨m'.bel.os, m'.bel.tape, m'.bel.output, m'.bel.size, fun k hk hne => m'.bel.block k ⟨hk, fun e => hne e.symm⟩ (fun h => by rw [hoff] at h; cases h)⟩, hQ⟩
  cases xt with
  | norm => exact fin hk
  | ret => exact fin hk
  | exit i => exact hk.elim

def AllW (P : Program) (glb : Nat → Option GV) (l : List (Nat × CtW)) : Prop := ∀ f c, assoc l f = some c → CallsW P glb f c
theorem AllW.nil {P : Program} {glb : Nat → Option GV} : AllW P glb [] := fun f c h => by cases h
theorem AllW.cons {P : Program} {glb : Nat → Option GV} {f : Nat} {c : CtW} {r : List (Nat × CtW)} (h : CallsW P glb f c) (hr : AllW P glb r) : AllW P glb ((f, c) :: r) := assoc_cons h hr
end Go.GX
set_option linter.unusedVariables false
namespace Go.GX
variable [Inhabited BaseD]
open Go.RowKit Go.Shelf Go.Proofs

def endH (st : St) (e : TypeId) (K : Kd) (rs : List SV) (Q : List K.T → Prop) : Prop :=
  match rs with
  | [.mk false [.own l]] => (match st.look l with
    | some (.row _ e' K' zs) => chk (Nat.beq e' e) (if h : K' = K then Q (castL h zs) else False)
    | _ => False)
  | [.mk false [.sub l lo hi sz]] => (match st.look l with
    | some (.row _ e' K' zs) => chk (Nat.beq e' e && Nat.beq lo 0 && Nat.beq sz K.n) (if h : K' = K then Q ((castL h zs).take hi) else False)
    | _ => False)
  | _ => False

def vcFuncH (S : Stat) (an : Nat → Items) (fn : Func) (c : Code) (w : CtH) (ys : List w.K.T) (x : w.A.T) (y : w.C.T) (Q : List w.K.T → Prop) : Prop :=
  chk (Nat.ble (1 + w.A.ar + w.C.ar) fn.ntmps && Nat.beq fn.results.toList.length 1) <| vc S an c (startW fn.ntmps w.e w.K w.A w.C ys x y) fun e st =>
    match e with
    | .exit _ => False
    | .norm => endH st w.e w.K (fn.results.toList.map (resSV S st)) Q
    | .ret => endH st w.e w.K (fn.results.toList.map (resSV S st)) Q

theorem callsH_of_vc (hoff : memoOn = false) {P : Program} {glb : Nat → Option GV} {S : Stat} (hS : StatOK P S) (hct : CtOK P glb S) (hg : S.glb = glb) (an : Nat → Items) {f : FuncId} {fn : Func} {c : Code} (hf : P.funcs[f]? = some fn) (hname : (fn.name == "runtime.NumGoroutine") = false) (hb : fn.body = some c) (ct : CtH)
    {ys : List ct.K.T} {x : ct.A.T} {y : ct.C.T} {Q : List ct.K.T → Prop} (hvc : vcFuncH S an fn c ct ys x y Q) {X : Nat → Prop} {W : World} {v : Value} {vs cs : List Value} (hX : ∀ k, X k → k < W.heap.size) (hown : ∀ k, v.ownBlock = some k → X k) (hglb : GlbOK P glb X W) (hrow : InRow P W ct.e ct.K ys v) (hn : 0 < ct.K.n) (hfl : ct.K.flat = true) (hvs : (ct.A.sem P).vals X W x vs) (hcs : (ct.C.sem P).vals X W y cs) :
    Calls P f (v :: vs ++ cs).toArray W (PostH P ct.e ct.K W v Q) := by
  obtain ⟨hc0, hvc⟩ := chk_iff.1 hvc
  simp only [Bool.and_eq_true] at hc0
  obtain ⟨hnt, hr1⟩ := hc0
  have hr1 := Nat.eq_of_beq_eq_true hr1
  have hnt := Nat.le_of_ble_eq_true hnt
  refine callsIn_wide.1 (callsIn_of_wp_marks (F := Fence.wide) (n := 0) hf hb trivial ?_)
  obtain ⟨l1, g1⟩ := RepV.of_vals (P := P) (ρ := fun _ => none) (X := X) (W := W) ct.A hvs
  obtain ⟨l2, g2⟩ := RepV.of_vals (P := P) (ρ := fun _ => none) (X := X) (W := W) ct.C hcs
  have hl1 : vs.length = ct.A.ar := by rw [← l1, argsSV_length]
  have hl2 : cs.length = ct.C.ar := by rw [← l2, argsSV_length]
  have hsz : (v :: vs ++ cs).toArray.size = 1 + ct.A.ar + ct.C.ar := by simp [hl1, hl2]; omega
  obtain ⟨st, hst⟩ : ∃ st, st = startW fn.ntmps ct.e ct.K ct.A ct.C ys x y := ⟨_, rfl⟩
  rw [← hst] at hvc
  obtain ⟨ρ, hρd⟩ : ∃ ρ : Lab, ρ = fun l => cond (Nat.beq l rowLab) (some v) none := ⟨_, rfl⟩
  have hρ0 : ρ rowLab = some v := by rw [hρd]; rfl
  have hρs : ∀ l u, ρ l = some u → l = rowLab ∧ u = v := by
    intro l u h
    rw [hρd] at h
    cases hb : Nat.beq l rowLab with
    | true => simp only [hb, cond_true] at h; cases h; exact ⟨Nat.eq_of_beq_eq_true hb, rfl⟩
    | false => simp only [hb, cond_false] at h; cases h
  have hhp : ∀ l he s, st.hp l = some (he, s) → l = rowLab ∧ he = .row false ct.e ct.K ys ∧ s = 0 := by
    intro l he s h
    rw [hst] at h
    simp only [startW] at h
    cases hb : Nat.beq l rowLab with
    | true => simp only [hb, cond_true] at h; cases h; exact ⟨Nat.eq_of_beq_eq_true hb, rfl, rfl⟩
    | false => simp only [hb, cond_false] at h; cases h
  have hob : ∀ {ρ' : Lab} {k : Nat}, OwnB ρ' (.row false ct.e ct.K ys) v k → v.ownBlock = some k := fun h => by
    rw [ownB_row, ownBlk_rowV] at h; exact h
  have hslice : ∃ a n c, v = .slice a n c := by
    obtain ⟨fl, ⟨_, ho⟩, _⟩ := hrow
    rcases ho with ⟨h, _⟩ | ⟨g, cap, cur, h, _⟩ <;> exact ⟨_, _, _, h⟩
  have hvlt : ∀ k, v.ownBlock = some k → k < W.heap.size := fun k hk => hX k (hown k hk)
  have hXs : ∀ k, Xs st ρ (fun k => X k ∧ v.ownBlock ≠ some k) k → X k := by
    rintro k (h | ⟨l, he, s, u, h1, h2, h3⟩)
    · exact h.1
    · obtain ⟨rfl, rfl, _⟩ := hhp l he s h1
      obtain ⟨_, rfl⟩ := hρs _ _ h2
      exact hown k (hob h3)
  have m : Mt P glb (fun k => k < W.heap.size ∧ v.ownBlock ≠ some k) (fun k => X k ∧ v.ownBlock ≠ some k) W st ρ { tmps := (v :: vs ++ cs).toArray ++ Array.replicate (fn.ntmps - (v :: vs ++ cs).toArray.size) undef, defers := [] } W := by
    refine ⟨?_, DefOK.nil, fun t => ?_, fun l he s h => ?_, fun l l' he he' s s' u u' k h h' _ _ _ _ => (hhp l he s h).1.trans (hhp l' he' s' h').1.symm, fun k hk => hX k hk.1, fun k hk => hk.1, .refl _ _, fun l he s u k h h2 h3 => ?_, ?_, fun l u h => ?_, fun l he s h => ?_⟩
    · rw [hst]
      simp only [startW, Array.size_append, Array.size_replicate, hsz]; omega
    · rw [hst]
      show RepV P ρ _ W (tmOf (.mk false [.own rowLab] :: (argsSV ct.A x ++ argsSV ct.C y)) t) _
      cases t with
      | zero =>
        have hget : ((v :: vs ++ cs).toArray ++ Array.replicate (fn.ntmps - (v :: vs ++ cs).toArray.size) undef).getD 0 undef = v := by
          rw [Array.getD_eq_getD_getElem?, Array.getElem?_append_left (by simp), List.getElem?_toArray]
          rfl
        rw [hget]
        exact ⟨_, rfl, hρ0, hslice⟩
      | succ t =>
        have hfin : RepV P (fun _ => none) X W (tmOf (argsSV ct.A x ++ argsSV ct.C y) t) (((v :: vs ++ cs).toArray ++ Array.replicate (fn.ntmps - (v :: vs ++ cs).toArray.size) undef).getD (t + 1) undef) := by
          by_cases ht : t < (vs ++ cs).length
          · have hget : ((v :: vs ++ cs).toArray ++ Array.replicate (fn.ntmps - (v :: vs ++ cs).toArray.size) undef).getD (t + 1) undef = (vs ++ cs)[t] := by
              rw [Array.getD_eq_getD_getElem?, Array.getElem?_append_left (by simp at ht ⊢; omega), List.getElem?_toArray, List.cons_append, List.getElem?_cons_succ, List.getElem?_eq_getElem ht]
              rfl
            rw [hget, tmOf_append]
            by_cases h1 : t < vs.length
            · rw [if_pos (by rw [l1]; exact h1)]
              refine g1 t _ ?_
              rw [List.getElem_append_left h1]
              exact List.getElem?_eq_getElem h1
            · rw [if_neg (by rw [l1]; exact h1), l1]
              refine g2 _ _ ?_
              rw [List.getElem_append_right (by omega)]
              exact List.getElem?_eq_getElem _
          · rw [tmOf_past _ t (by simp [l1, l2]; simp at ht; omega)]
            trivial
        rw [← hst]
        exact hfin.mono (fun l u h => by cases h) (Evo.mono (fun k hk => hX k (hXs k hk)) hXs)
    · obtain ⟨rfl, rfl, _⟩ := hhp l he s h
      exact ⟨v, hρ0, row_of_inRow hfl hn (fun h => by cases h) hrow⟩
    · obtain ⟨rfl, rfl, _⟩ := hhp l he s h
      obtain ⟨_, rfl⟩ := hρs _ _ h2
      have := hob h3
      exact ⟨fun _ hb => hb.2 this, fun hx => hx.2 this⟩
    · exact hglb.evo (Evo.mono (fun k hk => hX k (hXs k hk)) hXs)
    · obtain ⟨rfl, _⟩ := hρs l u h
      rw [hst]; rfl
    · rw [(hhp l he s h).2.2]; exact Nat.zero_le _
  refine wpIn_mono (vc_ok (Wide.wide P) rfl hS hct hg an c _ _ _ _ _ m hvc) ?_
  rintro e a' W' ⟨xt, st', ρ', rfl, hk, hf', m'⟩
  have hv' : ρ' rowLab = some v := hf'.2 _ _ hρ0
  have fin : endH st' ct.e ct.K (fn.results.toList.map (resSV S st')) Q → LeavesInM Fence.wide 0 P fn a'.tmps (PostH P ct.e ct.K W v Q) a'.defers .returning W' := by
    intro hk
    obtain ⟨Ds, hDs, hnd, hDD⟩ := m'.dfr
    rw [hDs]
    refine takeAll_leaves Ds W' hnd (fun D hD => (hDD D hD).1) ?_
    have m' := m'.taken hDD
    revert m'
    generalize takeAll W' Ds = W'
    intro m'
    have run : ∀ us : List Value, (fn.results.toList.mapM (resOne a'.tmps)).run P W' = .ok us W' → (results fn a'.tmps).run P W' = .ok (if h : us.toArray.size = 1 then us.toArray[0] else .tuple us.toArray) W' := by
      intro us hr
      have hm : fn.results.mapM (resOne a'.tmps) = (do pure (← fn.results.toList.mapM (resOne a'.tmps)).toArray) := by
        rw [Array.mapM_eq_mapM_toList]
        simp
      have hres : results fn a'.tmps = (do
          let vs ← fn.results.mapM (resOne a'.tmps)
          pure (if h : vs.size = 1 then vs[0] else .tuple vs)) := by
        unfold results
        congr 1
      rw [hres, hm]
      simp only [Sem.run_bind, hr, Result.andThen_ok, Sem.run_pure]
    obtain ⟨rv, hrv⟩ := List.length_eq_one_iff.1 hr1
    rw [hrv] at hk run
    have hk2 := hk
    clear hk
    have noany : ∀ rv', rv' ∈ [rv] → resSV S st' rv' ≠ .any := by
      intro rv' hm hany
      have hm : rv' = rv := by simpa using hm
      subst hm
      simp only [List.map_cons, List.map_nil, hany, endH] at hk2
    obtain ⟨us, hr, hrep⟩ := results_ok hS m' [rv] noany
    obtain ⟨u, vs', rfl, hu, hvs'⟩ := hrep
    have hvs' : vs' = [] := hvs'
    subst hvs'
    simp only [List.map_cons, List.map_nil] at hk2
    have fini : ∀ (u : Value) (zs2 : List ct.K.T), InRow P W' ct.e ct.K zs2 u → (∃ A n c, u = .slice A n c) → (∀ k, u.ownBlock = some k → v.ownBlock = some k ∨ W.heap.size ≤ k) → Q zs2 → PostH P ct.e ct.K W v Q (.returned u) W' := fun u zs2 h1 h2 h3 h4 =>
      ⟨u, zs2, rfl, h1, h2, h3, ⟨m'.bel.os, m'.bel.tape, m'.bel.output, m'.bel.size, fun k hk hne => m'.bel.block k ⟨hk, fun e => hne e.symm⟩ (fun h => by rw [hoff] at h; cases h)⟩, h4⟩
    have hnb : ∀ l nn (zs : List ct.K.T) s v2, st'.hp l = some (.row nn ct.e ct.K zs, s) → ρ' l = some v2 → ∀ k, v2.ownBlock = some k → v.ownBlock = some k ∨ W.heap.size ≤ k := by
      intro l nn zs s v2 h1 h2 k hk
      have := (m'.nb l _ s v2 k h1 h2 (.inl ((ownBlk_rowV ..).trans hk))).1 rfl
      by_cases hlt : k < W.heap.size
      · exact .inl (Classical.byContradiction fun hne => this ⟨hlt, hne⟩)
      · exact .inr (by omega)
    unfold endH at hk2
    split at hk2
    · rename_i l heq
      rw [List.cons.injEq] at heq
      rw [heq.1] at hu
      split at hk2
      case h_2 => exact hk2.elim
      rename_i nn e' K' zs hl
      obtain ⟨he, hk3⟩ := chk_iff.1 hk2
      have he2 := Nat.eq_of_beq_eq_true he
      clear hk2 he
      split at hk3
      case isFalse => exact hk3.elim
      rename_i hKK
      subst hKK; subst he2
      obtain ⟨c0, hcc, hw⟩ := hu
      cases hcc
      obtain ⟨hρu, hsl⟩ := hw
      obtain ⟨s, hs⟩ := look_some hl
      obtain ⟨v2, hv2, hok⟩ := m'.hps _ _ s hs
      rw [hv2] at hρu
      cases hρu
      exact ⟨_, run _ hr, fini _ zs (inRow_of hfl hok) hsl (hnb l nn zs s _ hs hv2) hk3⟩
    · rename_i l lo hi sz heq
      rw [List.cons.injEq] at heq
      rw [heq.1] at hu
      split at hk2
      case h_2 => exact hk2.elim
      rename_i nn e' K' zs hl
      obtain ⟨he, hk3⟩ := chk_iff.1 hk2
      simp only [Bool.and_eq_true] at he
      obtain ⟨⟨he, hlo⟩, hsz⟩ := he
      have he2 := Nat.eq_of_beq_eq_true he
      have hlo := Nat.eq_of_beq_eq_true hlo
      have hsz := Nat.eq_of_beq_eq_true hsz
      clear hk2 he
      split at hk3
      case isFalse => exact hk3.elim
      rename_i hKK
      subst hKK; subst he2; subst hlo; subst hsz
      obtain ⟨s, hs⟩ := look_some hl
      obtain ⟨v2, hv2, hok⟩ := m'.hps _ _ s hs
      have hnb2 := hnb l nn zs s v2 hs hv2
      obtain ⟨c0, hcc, hsub⟩ := hu
      cases hcc
      obtain ⟨A0, n, cc, hρv, h1, h2, A, q, rfl, h3, h4, h6, h5⟩ := hsub
      obtain ⟨rfl, rfl⟩ := h6 rfl
      rw [hv2] at hρv
      cases hρv
      obtain ⟨h0, ⟨flat, ⟨ho1, ho2⟩, hcell⟩, hnn⟩ := hok
      refine ⟨_, run _ hr, fini _ (zs.take hi) ⟨flat.take (hi * ct.K.n), ?_, fun j x hj => ?_⟩ ⟨_, _, _, rfl⟩ (fun k hk => hnb2 k ?_) hk3⟩
      · rcases ho2 with ⟨hv0, hz0⟩ | ⟨g, cap, cur, hvv, k1, k2, k3, k4, k5, k6⟩
        · cases hv0
          have : hi = 0 := by omega
          subst this
          rw [List.take_zero, Nat.zero_mul, List.take_zero]
          exact World.ownsRow_nil W' _ ct.e ct.K.n
        · injection hvv with q1 q2 q3
          subst q1; subst q2; subst q3
          have hlen : (zs.take hi).length = hi := by rw [List.length_take]; omega
          have hle : hi * ct.K.n ≤ zs.length * ct.K.n := Nat.mul_le_mul_right _ h2
          refine ⟨by rw [hlen, List.length_take, ho1]; omega, .inr ⟨g, _, cur, (by rw [hlen]; rfl), k1, k2, by rw [hlen]; omega, k4, k5, ?_⟩⟩
          rw [hlen, ← k6, List.take_take, Nat.min_eq_left hle]
      · rw [List.getElem?_take] at hj
        split at hj
        · rename_i hjh
          have := Kd.flat_cells P ct.K hfl (X' := fun _ => False) (W' := W') (hcell j x hj)
          have hle : j * ct.K.n + ct.K.n ≤ hi * ct.K.n := by rw [← Nat.succ_mul]; exact Nat.mul_le_mul_right _ hjh
          have e2 : ((flat.take (hi * ct.K.n)).drop (j * ct.K.n)).take ct.K.n = (flat.drop (j * ct.K.n)).take ct.K.n := by
            apply List.ext_getElem?
            intro p
            rw [List.getElem?_take, List.getElem?_take]
            split
            · rw [List.getElem?_drop, List.getElem?_drop, List.getElem?_take, if_pos (by omega)]
            · rfl
          rw [e2]; exact this
        · cases hj
      · cases A with
        | none => cases hk
        | some ad => exact hk
    · exact hk2.elim
  cases xt with
  | norm => exact fin hk
  | ret => exact fin hk
  | exit i => exact hk.elim

def AllH (P : Program) (glb : Nat → Option GV) (l : List (Nat × CtH)) : Prop := ∀ f c, assoc l f = some c → CallsH P glb f c
theorem AllH.nil {P : Program} {glb : Nat → Option GV} : AllH P glb [] := fun f c h => by cases h
theorem AllH.cons {P : Program} {glb : Nat → Option GV} {f : Nat} {c : CtH} {r : List (Nat × CtH)} (h : CallsH P glb f c) (hr : AllH P glb r) : AllH P glb ((f, c) :: r) := assoc_cons h hr

structure EnvOK (P : Program) (glb : Nat → Option GV) (S : Stat) : Prop where
  st : StatOK P S
  ct : CtOK P glb S
  g : S.glb = glb
theorem envOK_of {P : Program} {tyT : List (Nat × TI)} {slT : List (Nat × Nat)} {flT : List ((Nat × Nat) × (Nat × Nat))} {eqT : List (Nat × Nat)} {mkT : List (Nat × (Nat × Nat))} {glT : List (Nat × GV)} {ctT : List (Nat × Ct)} {inls : List Nat} {ios : List (Nat × CtW)} {hos : List (Nat × CtH)} (lits : List Nat) (hS : statB P tyT slT flT eqT = true) (hmk : AllMk P mkT) (hin : AllInl P inls) (hct : AllOK P (assoc glT) ctT) (hio : AllW P (assoc glT) ios) (hho : AllH P (assoc glT) hos) :
    EnvOK P (assoc glT) (((Stat.of tyT slT flT eqT mkT glT ctT inls lits).withIo ios).withHov hos) where
  st := let h := statOK_of (mkT := mkT) (glT := glT) (ctT := ctT) (inls := inls) (lits := lits) hS; ⟨h.mixed, h.ty, h.sl, h.mp, h.eq, h.int, h.dfd, h.bool, h.str, h.fld, h.arr⟩
  ct := let h := ctOK_of (tyT := tyT) (slT := slT) (flT := flT) (eqT := eqT) (lits := lits) hct hmk hin; ⟨h.ct, h.mkr, h.inl, h.clip, hio, h.itm, hho⟩
  g := rfl
section
variable {P : Program} {glb : Nat → Option GV} {S : Stat} (E : EnvOK P glb S) (an : Nat → Items) {f : FuncId} {fn : Func} {c : Code} (hf : P.funcs[f]? = some fn) (hname : (fn.name == "runtime.NumGoroutine") = false) (hb : fn.body = some c)
include E hf hname hb
theorem callsOK_E (ct : Ct) (H : ∀ x y Q, ct.wp x y Q → vcFunc S ct.own ct.fresh an fn c ct.A ct.C ct.R x y Q) : CallsOK P glb f ct where
  enters := enters_of hf hname hb
  calls := fun X W x y vs cs hX hg hv hc Q hQ => calls_of_vc E.st E.ct E.g an hf hname hb ct (H x y Q hQ) hX hg hv hc
theorem callsW_E (hoff : memoOn = false) (ct : CtW) (H : ∀ ys x y Q, ct.wp ys x y Q → vcFuncW S an fn c ct ys x y Q) : CallsW P glb f ct where
  enters := enters_of hf hname hb
  calls := fun X W ys v x y vs cs hX hown hg hrow hn hfl hv hc Q hQ => callsW_of_vc hoff E.st E.ct E.g an hf hname hb ct (H ys x y Q hQ) hX hown hg hrow hn hfl hv hc
theorem callsH_E (hoff : memoOn = false) (ct : CtH) (H : ∀ ys x y Q, ct.wp ys x y Q → vcFuncH S an fn c ct ys x y Q) : CallsH P glb f ct where
  enters := enters_of hf hname hb
  calls := fun X W ys v x y vs cs hX hown hg hrow hn hfl hv hc Q hQ => callsH_of_vc hoff E.st E.ct E.g an hf hname hb ct (H ys x y Q hQ) hX hown hg hrow hn hfl hv hc
end
end Go.GX
set_option maxRecDepth 100000
namespace Go.Proofs.Rz
open Go.GX
abbrev k1 : Kd := .fn (.unit) (.unit)
abbrev k2 : Kd := .int .i64
abbrev k3 : Kd := .int .i64
abbrev k4 : Kd := .bool
abbrev k5 : Kd := .int .u8
abbrev k6 : Kd := .int .u8
abbrev k7 : Kd := .agg (.pair (k2) (.pair (k3) (.pair (k4) (k6))))
abbrev k8 : Kd := .agg (.pair (k2) (.pair (k3) (.pair (k4) (k6))))
abbrev k9 : Kd := .str
abbrev k10 : Kd := .str
abbrev k11 : Kd := .str
abbrev k12 : Kd := .int .u64
abbrev k13 : Kd := .agg (.pair (k9) (k12))
abbrev k14 : Kd := .agg (.pair (k9) (k12))
abbrev k21 : Kd := .int .i32
abbrev k22 : Kd := .agg (.pair (k3) (k3))
abbrev k23 : Kd := .agg (.pair (k3) (k3))
abbrev k67 : Kd := .agg (.pair (k23) (k23))
abbrev k24 : Kd := .sl 67 k67
abbrev k25 : Kd := .agg (.pair (k23) (.pair (k23) (k24)))
abbrev k26 : Kd := .agg (.pair (k23) (.pair (k23) (k24)))
abbrev k27 : Kd := .fn (.unit) (k4)
abbrev k28 : Kd := .fn (k26) (k26)
abbrev k29 : Kd := .int .i64
abbrev k30 : Kd := .fn (k26) (k29)
abbrev k32 : Kd := .fn (k26) (.pair (k23) (k29))
abbrev k33 : Kd := .fn (.pair (k26) (k26)) (k4)
abbrev k34 : Kd := .fn (k26) (k23)
abbrev k35 : Kd := .fn (k26) (k4)
abbrev k37 : Kd := .fn (.pair (k26) (k3)) (.pair (k3) (.pair (k3) (k29)))
abbrev k38 : Kd := .fn (.pair (k3) (.pair (k3) (k3))) (k4)
abbrev k40 : Kd := .fn (.pair (k26) (k3)) (.pair (k3) (k3))
abbrev k41 : Kd := .fn (.pair (k26) (k3)) (k4)
abbrev k42 : Kd := .fn (k3) (k4)
abbrev k43 : Kd := .sl 3 k3
abbrev k45 : Kd := .fn (.pair (k26) (k23)) (.pair (k43) (k29))
abbrev k47 : Kd := .fn (.pair (k26) (k23)) (.pair (k43) (k4))
abbrev k48 : Kd := .fn (.pair (k43) (k43)) (k4)
abbrev k49 : Kd := .fn (.pair (k26) (k23)) (k4)
abbrev k51 : Kd := .fn (.pair (k26) (k3)) (.pair (k3) (k29))
abbrev k52 : Kd := .fn (.pair (k26) (k3)) (k3)
abbrev k53 : Kd := .agg (.pair (k5) (k5))
abbrev k108 : Kd := .agg (.pair (k5) (.pair (k5) (.pair (k5) (k5))))
abbrev k54 : Kd := .sl 108 k108
abbrev k55 : Kd := .agg (.pair (k53) (.pair (k53) (k54)))
abbrev k56 : Kd := .agg (.pair (k53) (.pair (k53) (k54)))
abbrev k57 : Kd := .sl 5 k5
abbrev k58 : Kd := .fn (.unit) (k26)
abbrev k68 : Kd := .int .i64
abbrev k59 : Kd := .sl 68 k68
abbrev k61 : Kd := .fn (k26) (.pair (k59) (k29))
abbrev k62 : Kd := .fn (.pair (k26) (k57)) (k26)
abbrev k63 : Kd := .fn (.pair (k3) (k3)) (k3)
abbrev k64 : Kd := .fn (k26) (.pair (k3) (k3))
abbrev k65 : Kd := .fn (.pair (k3) (k3)) (k23)
abbrev k66 : Kd := .agg (.pair (k23) (k23))
abbrev k69 : Kd := .fn (.pair (k56) (k57)) (k4)
abbrev k70 : Kd := .int .i64
abbrev k72 : Kd := .fn (.pair (k26) (k26)) (.pair (k70) (k29))
abbrev k73 : Kd := .fn (.pair (k26) (k26)) (k70)
abbrev k74 : Kd := .agg (.pair (k3) (k3))
abbrev k75 : Kd := .agg (.pair (k3) (k3))
abbrev k79 : Kd := .agg (.pair (k23) (.pair (k23) (k3)))
abbrev k80 : Kd := .sl 79 k79
abbrev k77 : Kd := .fn (k80) (.pair (k75) (.pair (k75) (k29)))
abbrev k78 : Kd := .agg (.pair (k23) (.pair (k23) (k3)))
abbrev k81 : Kd := .fn (.pair (k59) (k59)) (k4)
abbrev k82 : Kd := .fn (.pair (k23) (.pair (k3) (k3))) (k4)
abbrev k83 : Kd := .fn (k67) (k4)
abbrev k84 : Kd := .fn (.pair (k24) (k83)) (k4)
abbrev k85 : Kd := .fn (.pair (k3) (.pair (k3) (k43))) (k4)
abbrev k86 : Kd := .fn (k24) (k24)
abbrev k87 : Kd := .fn (.pair (k26) (.pair (k3) (k3))) (k26)
abbrev k88 : Kd := .agg (.pair (k3) (.pair (k3) (.pair (k3) (k3))))
abbrev k89 : Kd := .agg (.pair (k3) (.pair (k3) (.pair (k3) (k3))))
abbrev k90 : Kd := .fn (k23) (k3)
abbrev k91 : Kd := .agg (.pair (k90) (k90))
abbrev k92 : Kd := .agg (.pair (k90) (k90))
abbrev k93 : Kd := .fn (.unit) (k92)
abbrev k94 : Kd := .fn (k26) (k89)
abbrev k95 : Kd := .fn (k3) (k89)
abbrev k96 : Kd := .fn (.pair (k43) (k63)) (.unit)
abbrev k97 : Kd := .fn (k89) (k3)
abbrev k98 : Kd := .fn (.pair (k26) (k42)) (k26)
abbrev k99 : Kd := .fn (.pair (k43) (k3)) (k4)
abbrev k100 : Kd := .fn (k43) (k4)
abbrev k101 : Kd := .fn (.pair (k43) (k42)) (k43)
abbrev k102 : Kd := .fn (k43) (k43)
abbrev k104 : Kd := .sl 43 k43
abbrev k103 : Kd := .fn (k104) (k43)
abbrev k105 : Kd := .fn (.pair (k3) (.pair (k3) (k43))) (k104)
abbrev k106 : Kd := .fn (.pair (k26) (.pair (k23) (k43))) (k4)
abbrev k107 : Kd := .fn (.pair (k24) (k3)) (k24)
abbrev k109 : Kd := .fn (.pair (k23) (k3)) (k3)
abbrev k110 : Kd := .fn (.pair (k57) (k3)) (k3)
abbrev k111 : Kd := .fn (.pair (k23) (k3)) (k23)
abbrev k112 : Kd := .agg (.pair (k26) (k26))
abbrev k113 : Kd := .fn (.pair (k3) (.pair (k3) (.pair (k3) (k3)))) (k4)
abbrev k115 : Kd := .fn (k80) (.pair (k23) (.pair (k23) (k29)))
abbrev k118 : Kd := .seq (k79)
abbrev k120 : Kd := .fn (.pair (k79) (k79)) (k3)
abbrev k116 : Kd := .fn (.pair (k118) (k120)) (k80)
abbrev k117 : Kd := .seq (k79)
abbrev k119 : Kd := .fn (k80) (k118)
abbrev k121 : Kd := .fn (.pair (k80) (.pair (k3) (.pair (k90) (k90)))) (.pair (k3) (k3))
abbrev k122 : Kd := .fn (.pair (k3) (k3)) (k75)
abbrev k123 : Kd := .fn (.pair (k24) (k83)) (k3)
abbrev k124 : Kd := .fn (.unit) (k3)
abbrev k125 : Kd := .fn (.pair (k3) (.pair (k3) (.pair (k3) (k3)))) (k3)
abbrev k126 : Kd := .fn (.pair (k43) (k42)) (k4)
abbrev k127 : Kd := .fn (.pair (k89) (k67)) (k89)
abbrev k128 : Kd := .fn (.pair (k43) (.pair (k3) (k63))) (.unit)
abbrev k129 : Kd := .fn (.unit) (.pair (k3) (k3))
abbrev k130 : Kd := .fn (.pair (k43) (k3)) (k3)
abbrev k131 : Kd := .fn (.pair (k43) (k42)) (k3)
abbrev k132 : Kd := .fn (.pair (k43) (k3)) (k43)
abbrev k133 : Kd := .fn (.pair (k26) (k43)) (k26)
abbrev k134 : Kd := .int .u64
abbrev k136 : Kd := .fn (.pair (k134) (k134)) (.pair (k134) (k134))
abbrev k138 : Kd := .fn (k79) (k4)
abbrev k137 : Kd := .fn (.pair (k80) (k138)) (k4)
abbrev k139 : Kd := .fn (.pair (k23) (k23)) (k23)
abbrev k140 : Kd := .fn (k118) (k80)
abbrev k141 : Kd := .fn (.pair (k80) (k120)) (.unit)
abbrev k142 : Kd := .fn (.pair (k43) (.pair (k3) (.pair (k3) (k63)))) (.unit)
abbrev k143 : Kd := .fn (.pair (k43) (.pair (k3) (.pair (k3) (.pair (k3) (k63))))) (.unit)
abbrev k144 : Kd := .int .u32
abbrev k146 : Kd := .fn (.pair (k144) (k144)) (.pair (k144) (k144))
abbrev k147 : Kd := .int .u64
abbrev k149 : Kd := .fn (.pair (k147) (k147)) (.pair (k147) (k147))
abbrev k150 : Kd := .fn (.pair (k80) (k138)) (k3)
abbrev k151 : Kd := .fn (.pair (k80) (k118)) (k80)
abbrev k152 : Kd := .fn (.pair (k80) (.pair (k3) (.pair (k3) (.pair (k3) (k120))))) (.unit)
abbrev k153 : Kd := .fn (k134) (k3)
abbrev k154 : Kd := .fn (.pair (k80) (.pair (k3) (.pair (k3) (k120)))) (.unit)
abbrev k155 : Kd := .int .i64
abbrev k157 : Kd := .fn (.pair (k80) (.pair (k3) (.pair (k3) (k120)))) (.pair (k3) (k155))
abbrev k158 : Kd := .fn (.pair (k80) (.pair (k3) (.pair (k3) (k120)))) (k4)
abbrev k159 : Kd := .fn (.pair (k80) (.pair (k3) (.pair (k3) (.pair (k3) (k120))))) (k3)
abbrev k161 : Kd := .fn (.pair (k80) (.pair (k3) (.pair (k3) (.pair (k3) (k120))))) (.pair (k3) (k4))
abbrev k162 : Kd := .fn (k144) (k3)
abbrev k163 : Kd := .fn (k147) (k3)
abbrev k164 : Kd := .int .u64
abbrev k165 : Kd := .fn (k3) (k134)
abbrev k166 : Kd := .fn (.unit) (k147)
abbrev k172 : Kd := .fn (.unit) (k9)
abbrev k178 : Kd := .int .u8
abbrev k179 : Kd := .int .u8
abbrev k182 : Kd := .int .i32
abbrev k183 : Kd := .int .i32
def tyT : List (Nat × TI) := [(1, ⟨k1, 8⟩), (2, ⟨k2, 8⟩), (3, ⟨k3, 8⟩), (4, ⟨k4, 1⟩), (5, ⟨k5, 1⟩), (6, ⟨k6, 1⟩), (7, ⟨k7, 24⟩), (8, ⟨k8, 24⟩), (9, ⟨k9, 16⟩), (10, ⟨k10, 16⟩), (11, ⟨k11, 16⟩), (12, ⟨k12, 8⟩), (13, ⟨k13, 24⟩), (14, ⟨k14, 24⟩), (21, ⟨k21, 4⟩), (22, ⟨k22, 16⟩), (23, ⟨k23, 16⟩), (24, ⟨k24, 24⟩), (25, ⟨k25, 56⟩), (26, ⟨k26, 56⟩), (27, ⟨k27, 8⟩), (28, ⟨k28, 8⟩), (29, ⟨k29, 8⟩), (30, ⟨k30, 8⟩), (32, ⟨k32, 8⟩), (33, ⟨k33, 8⟩), (34, ⟨k34, 8⟩), (35, ⟨k35, 8⟩), (37, ⟨k37, 8⟩), (38, ⟨k38, 8⟩), (40, ⟨k40, 8⟩), (41, ⟨k41, 8⟩), (42, ⟨k42, 8⟩), (43, ⟨k43, 24⟩), (45, ⟨k45, 8⟩), (47, ⟨k47, 8⟩), (48, ⟨k48, 8⟩), (49, ⟨k49, 8⟩), (51, ⟨k51, 8⟩), (52, ⟨k52, 8⟩), (53, ⟨k53, 2⟩), (54, ⟨k54, 24⟩), (55, ⟨k55, 32⟩), (56, ⟨k56, 32⟩), (57, ⟨k57, 24⟩), (58, ⟨k58, 8⟩), (59, ⟨k59, 24⟩), (61, ⟨k61, 8⟩), (62, ⟨k62, 8⟩), (63, ⟨k63, 8⟩), (64, ⟨k64, 8⟩), (65, ⟨k65, 8⟩), (66, ⟨k66, 32⟩), (67, ⟨k67, 32⟩), (68, ⟨k68, 8⟩), (69, ⟨k69, 8⟩), (70, ⟨k70, 8⟩), (72, ⟨k72, 8⟩), (73, ⟨k73, 8⟩), (74, ⟨k74, 16⟩), (75, ⟨k75, 16⟩), (77, ⟨k77, 8⟩), (78, ⟨k78, 40⟩), (79, ⟨k79, 40⟩), (80, ⟨k80, 24⟩), (81, ⟨k81, 8⟩), (82, ⟨k82, 8⟩), (83, ⟨k83, 8⟩), (84, ⟨k84, 8⟩), (85, ⟨k85, 8⟩), (86, ⟨k86, 8⟩), (87, ⟨k87, 8⟩), (88, ⟨k88, 32⟩), (89, ⟨k89, 32⟩), (90, ⟨k90, 8⟩), (91, ⟨k91, 16⟩), (92, ⟨k92, 16⟩), (93, ⟨k93, 8⟩), (94, ⟨k94, 8⟩), (95, ⟨k95, 8⟩), (96, ⟨k96, 8⟩), (97, ⟨k97, 8⟩), (98, ⟨k98, 8⟩), (99, ⟨k99, 8⟩), (100, ⟨k100, 8⟩), (101, ⟨k101, 8⟩), (102, ⟨k102, 8⟩), (103, ⟨k103, 8⟩), (104, ⟨k104, 24⟩), (105, ⟨k105, 8⟩), (106, ⟨k106, 8⟩), (107, ⟨k107, 8⟩), (108, ⟨k108, 4⟩), (109, ⟨k109, 8⟩), (110, ⟨k110, 8⟩), (111, ⟨k111, 8⟩), (112, ⟨k112, 112⟩), (113, ⟨k113, 8⟩), (115, ⟨k115, 8⟩), (116, ⟨k116, 8⟩), (117, ⟨k117, 8⟩), (118, ⟨k118, 8⟩), (119, ⟨k119, 8⟩), (120, ⟨k120, 8⟩), (121, ⟨k121, 8⟩), (122, ⟨k122, 8⟩), (123, ⟨k123, 8⟩), (124, ⟨k124, 8⟩), (125, ⟨k125, 8⟩), (126, ⟨k126, 8⟩), (127, ⟨k127, 8⟩), (128, ⟨k128, 8⟩), (129, ⟨k129, 8⟩), (130, ⟨k130, 8⟩), (131, ⟨k131, 8⟩), (132, ⟨k132, 8⟩), (133, ⟨k133, 8⟩), (134, ⟨k134, 8⟩), (136, ⟨k136, 8⟩), (137, ⟨k137, 8⟩), (138, ⟨k138, 8⟩), (139, ⟨k139, 8⟩), (140, ⟨k140, 8⟩), (141, ⟨k141, 8⟩), (142, ⟨k142, 8⟩), (143, ⟨k143, 8⟩), (144, ⟨k144, 4⟩), (146, ⟨k146, 8⟩), (147, ⟨k147, 8⟩), (149, ⟨k149, 8⟩), (150, ⟨k150, 8⟩), (151, ⟨k151, 8⟩), (152, ⟨k152, 8⟩), (153, ⟨k153, 8⟩), (154, ⟨k154, 8⟩), (155, ⟨k155, 8⟩), (157, ⟨k157, 8⟩), (158, ⟨k158, 8⟩), (159, ⟨k159, 8⟩), (161, ⟨k161, 8⟩), (162, ⟨k162, 8⟩), (163, ⟨k163, 8⟩), (164, ⟨k164, 8⟩), (165, ⟨k165, 8⟩), (166, ⟨k166, 8⟩), (172, ⟨k172, 8⟩), (178, ⟨k178, 1⟩), (179, ⟨k179, 1⟩), (182, ⟨k182, 4⟩), (183, ⟨k183, 4⟩)]
def slT : List (Nat × Nat) := [(24, 67), (43, 3), (54, 108), (57, 5), (59, 68), (80, 79), (104, 43)]
def flT : List ((Nat × Nat) × (Nat × Nat)) := [((7, 0), (0, 2)), ((7, 1), (1, 3)), ((7, 2), (2, 4)), ((7, 3), (3, 6)), ((8, 0), (0, 2)), ((8, 1), (1, 3)), ((8, 2), (2, 4)), ((8, 3), (3, 6)), ((13, 0), (0, 9)), ((13, 1), (1, 12)), ((14, 0), (0, 9)), ((14, 1), (1, 12)), ((22, 0), (0, 3)), ((22, 1), (1, 3)), ((23, 0), (0, 3)), ((23, 1), (1, 3)), ((25, 0), (0, 23)), ((25, 1), (2, 23)), ((25, 2), (4, 24)), ((26, 0), (0, 23)), ((26, 1), (2, 23)), ((26, 2), (4, 24)), ((55, 0), (0, 53)), ((55, 1), (2, 53)), ((55, 2), (4, 54)), ((56, 0), (0, 53)), ((56, 1), (2, 53)), ((56, 2), (4, 54)), ((66, 0), (0, 23)), ((66, 1), (2, 23)), ((67, 0), (0, 23)), ((67, 1), (2, 23)), ((74, 0), (0, 3)), ((74, 1), (1, 3)), ((75, 0), (0, 3)), ((75, 1), (1, 3)), ((78, 0), (0, 23)), ((78, 1), (2, 23)), ((78, 2), (4, 3)), ((79, 0), (0, 23)), ((79, 1), (2, 23)), ((79, 2), (4, 3)), ((88, 0), (0, 3)), ((88, 1), (1, 3)), ((88, 2), (2, 3)), ((88, 3), (3, 3)), ((89, 0), (0, 3)), ((89, 1), (1, 3)), ((89, 2), (2, 3)), ((89, 3), (3, 3)), ((91, 0), (0, 90)), ((91, 1), (1, 90)), ((92, 0), (0, 90)), ((92, 1), (1, 90)), ((53, 1000000), (2, 5)), ((108, 1000000), (4, 5)), ((112, 1000000), (2, 26))]
def eqT : List (Nat × Nat) := [(22, 2), (23, 2), (53, 2), (66, 4), (67, 4), (74, 2), (75, 2), (78, 5), (79, 5), (88, 4), (89, 4), (108, 4)]
def mkT : List (Nat × (Nat × Nat)) := []
def glT : List (Nat × GV) := []
def inlT : List Nat := []
def S00 (ct : List (Nat × Ct)) (lits : List Nat) : GX.Stat := Stat.of tyT slT flT eqT mkT glT ct inlT lits
def S1 (ct : List (Nat × Ct)) (ios : List (Nat × CtW)) (hos : List (Nat × CtH)) (lits : List Nat) : GX.Stat := ((S00 ct lits).withIo ios).withHov hos
end Go.Proofs.Rz
set_option maxRecDepth 100000
namespace Go.Proofs.Rz
open Go Go.GX Go.Proofs
variable [Inhabited BaseD]
theorem st_ok : statB Tryz.prog tyT slT flT eqT = true := by kernel_rfl
theorem mk_ok : AllMk Tryz.prog mkT := .nil
theorem in_ok : AllInl Tryz.prog inlT := AllInl.nil
theorem env {ct : List (Nat × Ct)} {ios : List (Nat × CtW)} {hos : List (Nat × CtH)} {lits : List Nat} (h1 : AllOK Tryz.prog (assoc glT) ct) (h2 : AllW Tryz.prog (assoc glT) ios) (h3 : AllH Tryz.prog (assoc glT) hos) : EnvOK Tryz.prog (assoc glT) (S1 ct ios hos lits) :=
  envOK_of lits st_ok mk_ok in_ok h1 h2 h3
end Go.Proofs.Rz
namespace Go.Proofs.Rz
open Go.GX

abbrev kdL : Kd → Kd
  | .pair A _ => A
  | K => K
abbrev no_an : Nat → Items := fun _ => []

def anL (l : List (Nat × Items)) : Nat → Items := fun n => match assoc l n with | some i => i | none => []
abbrev arg1 (a : Kd) : Kd := .pair a .unit
abbrev arg2 (a b : Kd) : Kd := .pair a (.pair b .unit)
abbrev arg3 (a b c : Kd) : Kd := .pair a (.pair b (.pair c .unit))
abbrev arg4 (a b c d : Kd) : Kd := .pair a (.pair b (.pair c (.pair d .unit)))
abbrev res2 (a b : Kd) : Kd := .pair a (.pair b .unit)
abbrev res3 (a b c : Kd) : Kd := .pair a (.pair b (.pair c .unit))
abbrev Span := Int × Int
abbrev Gap := Span × Span
abbrev Fan := Span × Span × List Gap
abbrev Stick := Span × Span × Int
abbrev Turn := Int × Int × Int × Int
abbrev Ratio := Int × Int

def Says {α β : Type} (f : α → (β → Prop) → Prop) (p : α → β) (l : List α) : Prop := ∀ x, x ∈ l → ∀ Q : β → Prop, Q (p x) → f x Q
def SaysA {α β : Type} (f : α → (β → Prop) → Prop) (p : α → β) : Prop := ∀ x, ∀ Q : β → Prop, Q (p x) → f x Q
def Says2 {α β : Type} (f : α × α → (β → Prop) → Prop) (p : α → α → β) (l : List α) : Prop := ∀ x, x ∈ l → ∀ y, y ∈ l → ∀ Q : β → Prop, Q (p x y) → f (x, y) Q

def idxF {α : Type} (p : α → Bool) (xs : List α) : Int :=
  match xs.findIdx? p with
  | some i => (i : Int)
  | none => -1

def idx_an : Nat → Items
  | 0 => [.t 8 k3]
  | _ => []
def f95_wp : List Int × (Int → (Bool → Prop) → Prop) × Unit → Unit → (Int → Prop) → Prop := fun a _ Q => ∃ p : Int → Bool, Says a.2.1 p a.1 ∧ Q (idxF p a.1)
def f95_ct : Ct := ⟨arg2 k43 k42, .unit, k3, f95_wp, false, false⟩
def f88_wp : List Int × (Int → (Bool → Prop) → Prop) × Unit → Unit → (Bool → Prop) → Prop := fun a _ Q => ∃ p : Int → Bool, Says a.2.1 p a.1 ∧ Q (a.1.any p)
def f88_ct : Ct := ⟨arg2 k43 k42, .unit, .bool, f88_wp, false, false⟩
def f111_wp : List Stick × (Stick → (Bool → Prop) → Prop) × Unit → Unit → (Int → Prop) → Prop := fun a _ Q => ∃ p : Stick → Bool, Says a.2.1 p a.1 ∧ Q (idxF p a.1)
def f111_ct : Ct := ⟨arg2 k80 k138, .unit, k3, f111_wp, false, false⟩
def f99_wp : List Stick × (Stick → (Bool → Prop) → Prop) × Unit → Unit → (Bool → Prop) → Prop := fun a _ Q => ∃ p : Stick → Bool, Says a.2.1 p a.1 ∧ Q (a.1.any p)
def f99_ct : Ct := ⟨arg2 k80 k138, .unit, .bool, f99_wp, false, false⟩
def f85_wp : List Gap × (Gap → (Bool → Prop) → Prop) × Unit → Unit → (Int → Prop) → Prop := fun a _ Q => ∃ p : Gap → Bool, Says a.2.1 p a.1 ∧ Q (idxF p a.1)
def f85_ct : Ct := ⟨arg2 k24 k83, .unit, k3, f85_wp, false, false⟩
def f44_wp : List Gap × (Gap → (Bool → Prop) → Prop) × Unit → Unit → (Bool → Prop) → Prop := fun a _ Q => ∃ p : Gap → Bool, Says a.2.1 p a.1 ∧ Q (a.1.any p)
def f44_ct : Ct := ⟨arg2 k24 k83, .unit, .bool, f44_wp, false, false⟩
def f94_wp : List Int × Int × Unit → Unit → (Int → Prop) → Prop := fun a _ Q => Q (idxF (fun y => a.2.1 == y) a.1)
def f94_ct : Ct := ⟨arg2 k43 k3, .unit, k3, f94_wp, false, false⟩
def f63_wp : List Int × Int × Unit → Unit → (Bool → Prop) → Prop := fun a _ Q => Q (a.1.any fun y => a.2.1 == y)
def f63_ct : Ct := ⟨arg2 k43 k3, .unit, .bool, f63_wp, false, false⟩
def f65_wp : List Int → Unit → (List Int → Prop) → Prop := fun xs _ Q => xs.length ≤ 1000000 ∧ Q xs
def f65_ct : Ct := ⟨k43, .unit, k43, f65_wp, false, true⟩
def f51_wp : List Gap → Unit → (List Gap → Prop) → Prop := fun xs _ Q => xs.length ≤ 1000000 ∧ Q xs
def f51_ct : Ct := ⟨k24, .unit, k24, f51_wp, false, true⟩
def f108_wp : Int → Unit → (Bool → Prop) → Prop := fun _ _ Q => Q false
def f108_ct : Ct := ⟨k3, .unit, .bool, f108_wp, false, false⟩
def cmpI3 (a b : Int) : Int := if a < b then -1 else if b < a then 1 else 0
def f93_wp : Int × Int × Unit → Unit → (Int → Prop) → Prop := fun a _ Q => Q (cmpI3 a.1 a.2.1)
def f93_ct : Ct := ⟨arg2 k3 k3, .unit, k3, f93_wp, false, false⟩
def f110_wp : Int × Int × Unit → Unit → (Int × Int × Unit → Prop) → Prop := fun a _ Q => (0 ≤ a.1 ∧ a.1 ≤ 1000 ∧ 0 ≤ a.2.1 ∧ a.2.1 ≤ 1000) ∧ Q (0, a.1 * a.2.1, ())
def f98_wp := f110_wp
def f98_ct : Ct := ⟨arg2 k134 k134, .unit, res2 k134 k134, f98_wp, false, false⟩
def f110_ct : Ct := ⟨arg2 k147 k147, .unit, res2 k147 k147, f110_wp, false, false⟩
def f70_wp : List Gap × Int × Unit → Unit → (List Gap → Prop) → Prop := fun a _ Q => (a.1.length = 1 ∧ 0 ≤ a.2.1 ∧ a.2.1 ≤ 1000) ∧ Q (List.replicate a.2.1.toNat (a.1.getD 0 ((0, 0), (0, 0))))
def f70_ct : Ct := ⟨arg2 k24 k3, .unit, k24, f70_wp, true, false⟩
def f70_an : Nat → Items
  | 0 => [.t 8 k3, .lrow 602 true 67 k67]
  | _ => []
def f125_wp : Int → Unit → (Int → Prop) → Prop := fun _ _ Q => ∀ r, Q r
def f125_ct : Ct := ⟨k147, .unit, k3, f125_wp, false, false⟩
def f125_an : Nat → Items
  | 2000002 => [.t 0 k147, .t 2 k3]
  | 2000005 => [.t 0 k147, .t 2 k3]
  | 2000008 => [.t 0 k147, .t 2 k3]
  | _ => []
def f114_wp : Int → Unit → (Int → Prop) → Prop := fun _ _ Q => ∀ r, Q r
def f114_ct : Ct := ⟨k134, .unit, k3, f114_wp, false, false⟩

def f96_wp : Option (List Int) × Int × Unit → Unit → (List Int → Prop) → Prop := fun a _ Q => a.1 = none ∧ 0 ≤ a.2.1 ∧ a.2.1 ≤ 1000000 ∧ Q []
def f96_ct : Ct := ⟨arg2 (.nsl 3 k3) k3, .unit, k43, f96_wp, false, true⟩
def f67_wp : List (List Int) → Unit → (List Int → Prop) → Prop := fun xs _ Q => (∃ n : Nat, n ≤ 1000 ∧ ∀ x, x ∈ xs → x.length ≤ n) ∧ xs.length ≤ 100 ∧ Q xs.flatten
def f67_ct : Ct := ⟨k104, .unit, k43, f67_wp, false, true⟩
def f67_an : Nat → Items
  | 0 => [.t 11 k3, .t 3 k3]
  | 2 => [.t 27 k3, .row 6 5001 false 3 k3]
  | _ => []

def insRev {α : Type} (c : α → α → Int) (x : α) : List α → List α
  | [] => [x]
  | y :: r => if c x y < 0 then y :: insRev c x r else x :: y :: r
def insSort {α : Type} (c : α → α → Int) (xs : List α) : List α := (xs.foldl (fun acc x => insRev c x acc) []).reverse
abbrev CmpT (α : Type) := α × α → (Int → Prop) → Prop
def ins_an (e : Nat) (K : Kd) : Nat → Items
  | 0 => [.t 8 k3, .lrow 7000000 false e K]
  | 2 => [.t 9 k3, .lrow 7000000 false e K]
  | _ => []
def f106_wp : List Int → Int × Int × CmpT Int × Unit → Unit → (Unit → List Int → Prop) → Prop := fun ys a _ Q => ∃ c : Int → Int → Int, Says2 a.2.2.1 c ys ∧ a.1 = 0 ∧ a.2.1 = (ys.length : Int) ∧ ys.length ≤ 1000000 ∧ Q () (insSort c ys)
def f106_ct : CtW := ⟨3, k3, arg3 k3 k3 k63, .unit, .unit, f106_wp⟩
def f91_wp : List Int → Int × CmpT Int × Unit → Unit → (Unit → List Int → Prop) → Prop := fun ys a _ Q => ∃ c : Int → Int → Int, Says2 a.2.1 c ys ∧ a.1 = (ys.length : Int) ∧ ys.length ≤ 12 ∧ Q () (insSort c ys)
def f91_ct : CtW := ⟨3, k3, arg2 k3 k63, .unit, .unit, f91_wp⟩
def f91_an : Nat → Items
  | 0 => [.t 7 k3, .t 8 k3, .lrow 7000000 false 3 k3]
  | 2 => [.t 6 k3]
  | _ => []
def f57_wp : List Int → CmpT Int × Unit → Unit → (Unit → List Int → Prop) → Prop := fun ys a _ Q => ∃ c : Int → Int → Int, Says2 a.1 c ys ∧ ys.length ≤ 12 ∧ Q () (insSort c ys)
def f57_ct : CtW := ⟨3, k3, arg1 k63, .unit, .unit, f57_wp⟩
def f116_wp : List Stick → Int × Int × CmpT Stick × Unit → Unit → (Unit → List Stick → Prop) → Prop := fun ys a _ Q => ∃ c : Stick → Stick → Int, Says2 a.2.2.1 c ys ∧ a.1 = 0 ∧ a.2.1 = (ys.length : Int) ∧ ys.length ≤ 1000000 ∧ Q () (insSort c ys)
def f116_ct : CtW := ⟨79, k79, arg3 k3 k3 k120, .unit, .unit, f116_wp⟩
def f113_wp : List Stick → Int × Int × Int × CmpT Stick × Unit → Unit → (Unit → List Stick → Prop) → Prop := fun ys a _ Q => ∃ c : Stick → Stick → Int, Says2 a.2.2.2.1 c ys ∧ a.1 = 0 ∧ a.2.1 = (ys.length : Int) ∧ ys.length ≤ 12 ∧ Q () (insSort c ys)
def f113_ct : CtW := ⟨79, k79, arg4 k3 k3 k3 k120, .unit, .unit, f113_wp⟩
def f113_an : Nat → Items
  | 0 => [.t 1 k3, .t 2 k3, .t 3 k3]
  | _ => []
def f104_wp : List Stick → CmpT Stick × Unit → Unit → (Unit → List Stick → Prop) → Prop := fun ys a _ Q => ∃ c : Stick → Stick → Int, Says2 a.1 c ys ∧ ys.length ≤ 12 ∧ Q () (insSort c ys)
def f104_ct : CtW := ⟨79, k79, arg1 k120, .unit, .unit, f104_wp⟩
def f64_wp : List Int → (Int → (Bool → Prop) → Prop) × Unit → Unit → (List Int → Prop) → Prop := fun ys a _ Q => ∃ p : Int → Bool, Says a.1 p ys ∧ ys.length ≤ 1000000 ∧ Q (ys.filter fun y => !p y)
def f64_ct : CtH := ⟨3, k3, arg1 k42, .unit, f64_wp⟩
def f64_an : Nat → Items
  | 0 => [.t 5 k3, .t 6 k3, .lrow 7000000 false 3 k3]
  | _ => []
def f112_wp : List Stick → List Stick × Unit → Unit → (List Stick → Prop) → Prop := fun ys a _ Q => (ys.length + a.1.length ≤ 1000000) ∧ Q (ys ++ a.1)
def f112_ct : CtH := ⟨79, k79, arg1 k118, .unit, f112_wp⟩
def f112_an : Nat → Items
  | 0 => [.crow 0 80 5001 false 79 k79 .unit]
  | _ => []
def ins3_an := ins_an 3 k3
def ins89_an := ins_an 79 k79
def f103_wp : List Stick → Unit → (List Stick → Prop) → Prop := fun a _ Q => a.length ≤ 1000000 ∧ Q a
def f103_ct : Ct := ⟨k118, .unit, k80, f103_wp, false, true⟩
def f78_wp : List Stick × CmpT Stick × Unit → Unit → (List Stick → Prop) → Prop := fun a _ Q => ∃ c : Stick → Stick → Int, Says2 a.2.1 c a.1 ∧ a.1.length ≤ 12 ∧ Q (insSort c a.1)
def f78_ct : Ct := ⟨arg2 k118 k120, .unit, k80, f78_wp, false, true⟩
def f79_wp : List Stick → Unit → (List Stick → Prop) → Prop := fun a _ Q => Q a
def f79_ct : Ct := ⟨k80, .unit, k118, f79_wp, false, false⟩

def inB (lo hi n : Int) : Bool := decide (lo ≤ n) && decide (n ≤ hi)
def f89_wp : Int → Int × Int × Unit → (Bool → Prop) → Prop := fun n c Q => Q (!inB c.1 c.2.1 n)
def f89_ct : Ct := ⟨k3, arg2 (.ptr 3 k3) (.ptr 3 k3), .bool, f89_wp, false, false⟩
def f50_wp : Int × Int × List Int × Unit → Unit → (Bool → Prop) → Prop := fun a _ Q => Q (a.2.2.1.all (inB a.1 a.2.1))
def f50_ct : Ct := ⟨arg3 k3 k3 k43, .unit, .bool, f50_wp, false, false⟩
def isSpanF (s : Span) (lo hi : Int) : Bool := inB lo hi s.1 && inB lo hi s.2 && decide (s.1 ≤ s.2)
def f43_wp : Span × Int × Int × Unit → Unit → (Bool → Prop) → Prop := fun a _ Q => Q (isSpanF a.1 a.2.1 a.2.2.1)
def f43_ct : Ct := ⟨arg3 k23 k3 k3, .unit, .bool, f43_wp, false, false⟩
def gapOK (g : Gap) : Bool := isSpanF g.1 0 1000 && isSpanF g.2 0 500
def f42_wp : Gap → Unit → (Bool → Prop) → Prop := fun g _ Q => Q (!gapOK g)
def f42_ct : Ct := ⟨k67, .unit, .bool, f42_wp, false, false⟩
def checkF (f : Fan) : Int :=
  if isSpanF f.1 1 5000 = false ∨ isSpanF f.2.1 1 5000 = false ∨ f.1.1 ≤ f.2.1.2 then 3
  else if 40 < f.2.2.length then 5
  else if f.2.2.all gapOK = false then 2
  else 0
def f12_wp : Fan → Unit → (Int → Prop) → Prop := fun f _ Q => Q (checkF f)
def f12_ct : Ct := ⟨k26, .unit, k29, f12_wp, false, false⟩
def f53_wp : Int → Unit → (Bool → Prop) → Prop := fun n _ Q => Q (inB 0 360 n)
def f53_ct : Ct := ⟨k3, .unit, .bool, f53_wp, false, false⟩

structure TurnOK (t : Turn) : Prop where
  l : 0 ≤ t.1 ∧ t.1 ≤ 200000
  f : 0 ≤ t.2.1 ∧ t.2.1 ≤ 200000
  far : 1 ≤ t.2.2.1 ∧ t.2.2.1 ≤ 6000
  near : 1 ≤ t.2.2.2 ∧ t.2.2.2 ≤ 6000
def numT (t : Turn) : Int := t.1 * t.2.2.2 + t.2.1 * t.2.2.1
def denT (t : Turn) : Int := t.2.2.1 * t.2.2.2
def f92_wp : Turn → Unit → (Int × Int × Unit → Prop) → Prop := fun t _ Q => TurnOK t ∧ Q (numT t, denT t, ())
def f92_ct : Ct := ⟨k89, .unit, res2 k3 k3, f92_wp, false, false⟩
def f59_wp : Turn × Turn × Unit → Unit → (Int → Prop) → Prop := fun a _ Q => (TurnOK a.1 ∧ TurnOK a.2.1) ∧ Q (cmpI3 (numT a.1 * denT a.2.1) (numT a.2.1 * denT a.1))
def f59_ct : Ct := ⟨arg2 k89 k89, .unit, k3, f59_wp, false, false⟩
def degF (t : Turn) : Int := min 360 (Int.tdiv (4068 * numT t) (71 * denT t))
def f86_wp : Turn → Unit → (Int → Prop) → Prop := fun t _ Q => TurnOK t ∧ Q (degF t)
def f86_ct : Ct := ⟨k89, .unit, k3, f86_wp, false, false⟩
def lowW : Span → (Int → Prop) → Prop := fun s Q => Q s.1
def highW : Span → (Int → Prop) → Prop := fun s Q => Q s.2
def f83_wp : Span → Unit → (Int → Prop) → Prop := fun s _ Q => Q s.1
def f83_ct : Ct := ⟨k23, .unit, k3, f83_wp, false, false⟩
def f82_wp : Span → Unit → (Int → Prop) → Prop := fun s _ Q => Q s.2
def f82_ct : Ct := ⟨k23, .unit, k3, f82_wp, false, false⟩
abbrev EndT := (Span → (Int → Prop) → Prop) × (Span → (Int → Prop) → Prop)
def f55_wp : Unit → Unit → (EndT → Prop) → Prop := fun _ _ Q => Q (lowW, highW)
def f55_ct : Ct := ⟨.unit, .unit, k92, f55_wp, false, false⟩
def f75_wp : Unit → Unit → (EndT → Prop) → Prop := fun _ _ Q => Q (highW, lowW)
def f75_ct : Ct := ⟨.unit, .unit, k92, f75_wp, false, false⟩
def addT (leaf foot : Int) (t : Turn) : Turn := if leaf * t.2.2.2 ≤ foot * t.2.2.1 then (t.1 + leaf, t.2) else (t.1, t.2.1 + foot, t.2.2)
def f90_wp : EndT × Turn × Gap × Unit → Unit → (Turn → Prop) → Prop := fun a _ Q =>
  ∃ arc : Span → Int, SaysA a.1.1 arc ∧ ((0 ≤ a.2.1.1 ∧ a.2.1.1 ≤ 1000000 ∧ 0 ≤ a.2.1.2.1 ∧ a.2.1.2.1 ≤ 1000000 ∧ 0 ≤ a.2.1.2.2.1 ∧ a.2.1.2.2.1 ≤ 6000 ∧ 0 ≤ a.2.1.2.2.2 ∧ a.2.1.2.2.2 ≤ 6000) ∧ 0 ≤ arc a.2.2.1.1 ∧ arc a.2.2.1.1 ≤ 2000 ∧ 0 ≤ arc a.2.2.1.2 ∧ arc a.2.2.1.2 ≤ 2000) ∧ Q (addT (arc a.2.2.1.1) (arc a.2.2.1.2) a.2.1)
def f90_ct : Ct := ⟨arg3 k92 k89 k67, .unit, k89, f90_wp, false, false⟩
def inR (lo hi n : Int) : Prop := lo ≤ n ∧ n ≤ hi
structure FanOK (f : Fan) : Prop where
  n : f.2.2.length ≤ 50
  far : inR 1 6000 f.1.1 ∧ inR 1 6000 f.1.2
  near : inR 1 6000 f.2.1.1 ∧ inR 1 6000 f.2.1.2
  g : ∀ g, g ∈ f.2.2 → (inR 0 2000 g.1.1 ∧ inR 0 2000 g.1.2) ∧ inR 0 600 g.2.1 ∧ inR 0 600 g.2.2
def openF (arc dist : Span → Int) (f : Fan) : Turn := f.2.2.foldl (fun t g => addT (arc g.1) (arc g.2) t) (0, 0, dist f.1, dist f.2.1)
def IsEnd (e : Span → Int) : Prop := (∀ s, e s = s.1) ∨ ∀ s, e s = s.2
def f56_wp : EndT × Fan × Unit → Unit → (Turn → Prop) → Prop := fun a _ Q =>
  ∃ arc dist : Span → Int, (SaysA a.1.1 arc ∧ SaysA a.1.2 dist ∧ IsEnd arc ∧ IsEnd dist ∧ FanOK a.2.1) ∧ Q (openF arc dist a.2.1)
def f56_ct : Ct := ⟨arg2 k92 k26, .unit, k89, f56_wp, false, false⟩
def f56_an : Nat → Items
  | 0 => [.t 22 k3, .cell 111 89 k89]
  | _ => []
def lowT (f : Fan) : Turn := openF (fun s => s.1) (fun s => s.2) f
def highT (f : Fan) : Turn := openF (fun s => s.2) (fun s => s.1) f
def opensF (f : Fan) : Span := (degF (lowT f), degF (highT f))
def f45_wp : Fan → Unit → (Span → Prop) → Prop := fun f _ Q => FanOK f ∧ Q (opensF f)
def f45_ct : Ct := ⟨k26, .unit, k23, f45_wp, false, false⟩
def f13_wp : Fan → Unit → (Span × Int × Unit → Prop) → Prop := fun f _ Q => Q (if checkF f = 0 then (opensF f, 0, ()) else ((0, 0), checkF f, ()))
def f13_ct : Ct := ⟨k26, .unit, res2 k23 k29, f13_wp, false, false⟩
def stopF (far near : Span) (g : Gap) : Int := if g.1.2 * near.2 < g.2.1 * far.1 then 1 else if g.2.2 * far.2 < g.1.1 * near.1 then 2 else 3
def f30_wp : Fan → Unit → (List Int × Int × Unit → Prop) → Prop := fun f _ Q => Q (if checkF f = 0 then (f.2.2.map (stopF f.1 f.2.1), 0, ()) else ([], checkF f, ()))
def f30_ct : Ct := ⟨k26, .unit, res2 k59 k29, f30_wp, false, true⟩
def f30_an : Nat → Items
  | 0 => [.t 15 k3, .row 2 5001 false 68 k68]
  | _ => []
structure CheckOK (f : Fan) : Prop where
  far : 1 ≤ f.1.1 ∧ f.1.1 ≤ f.1.2 ∧ f.1.2 ≤ 5000
  near : 1 ≤ f.2.1.1 ∧ f.2.1.1 ≤ f.2.1.2 ∧ f.2.1.2 ≤ 5000
  lt : f.2.1.2 < f.1.1
  n : f.2.2.length ≤ 40
  g : ∀ g, g ∈ f.2.2 → (0 ≤ g.1.1 ∧ g.1.1 ≤ g.1.2 ∧ g.1.2 ≤ 1000) ∧ 0 ≤ g.2.1 ∧ g.2.1 ≤ g.2.2 ∧ g.2.2 ≤ 500
end Go.Proofs.Rz
namespace Go.Proofs.Rz
open Go.GX
abbrev g0 : Gap := ((0, 0), (0, 0))
abbrev s0 : Stick := ((0, 0), (0, 0), 0)

def woK (p : Int → Bool) (gs : List Gap) (k : Nat) : List Gap := (List.range k).foldl (fun acc (i : Nat) => if p (i : Int) then acc else acc ++ [gs.getD i g0]) []
def woF (p : Int → Bool) (f : Fan) : Fan := (f.1, f.2.1, woK p f.2.2 f.2.2.length)
def f61_wp : Fan × (Int → (Bool → Prop) → Prop) × Unit → Unit → (Fan → Prop) → Prop := fun a _ Q =>
  ∃ p : Int → Bool, (∀ k : Nat, k < a.1.2.2.length → ∀ R : Bool → Prop, R (p k) → a.2.1 k R) ∧ a.1.2.2.length ≤ 1000000 ∧ Q (woF p a.1)
def f61_ct : Ct := ⟨arg2 k26 k42, .unit, k26, f61_wp, false, true⟩
def f61_an : Nat → Items := anL [(0, [.t 13 k3, .drow 0 26 (.pair k23 k23) 5001 false 67 k67])]

def wideG (g : Gap) (more : Int) : Gap := ((g.1.1 + more, g.1.2 + more), g.2)
def wideF (f : Fan) (i : Nat) (more : Int) : Fan := (f.1, f.2.1, f.2.2.set i (wideG (f.2.2.getD i g0) more))
def widenK (f : Fan) (more : Int) (k : Nat) : Int × Int := (List.range k).foldl (fun gd (i : Nat) => if degF (lowT (wideF f i more)) > gd.2 then ((i : Int), degF (lowT (wideF f i more))) else gd) (0, -1)
def widenF (f : Fan) (more : Int) : Int × Int × Int × Unit :=
  if checkF f ≠ 0 then (0, 0, checkF f, ()) else if inB 0 1000 more = false then (0, 0, 4, ()) else if f.2.2.length = 0 then (0, 0, 7, ())
  else ((widenK f more f.2.2.length).1, (widenK f more f.2.2.length).2, 0, ())
def f17_wp : Fan × Int × Unit → Unit → (Int × Int × Int × Unit → Prop) → Prop := fun a _ Q => Q (widenF a.1 a.2.1)
def f17_ct : Ct := ⟨arg2 k26 k3, .unit, res3 k3 k3 k29, f17_wp, false, false⟩
def f17_an : Nat → Items := anL [(1, [.t 29 k3, .t 4 k3, .t 5 k3])]

def oneF (f : Fan) (i : Nat) : Fan := (f.1, f.2.1, [f.2.2.getD i g0])
def f54_wp : Int → Fan × Unit → (Turn → Prop) → Prop := fun i c Q => (FanOK c.1 ∧ 0 ≤ i ∧ i < (c.1.2.2.length : Int)) ∧ Q (lowT (oneF c.1 i.toNat))
def f54_ct : Ct := ⟨k3, arg1 (.ptr 26 k26), k89, f54_wp, false, false⟩
def cmpT (a b : Turn) : Int := cmpI3 (numT a * denT b) (numT b * denT a)
def f58_wp : Int × Int → (Int → (Turn → Prop) → Prop) × Unit → (Int → Prop) → Prop := fun a c Q =>
  ∃ ang : Int → Turn, ((∀ R : Turn → Prop, R (ang a.2) → c.1 a.2 R) ∧ (∀ R : Turn → Prop, R (ang a.1) → c.1 a.1 R) ∧ TurnOK (ang a.1) ∧ TurnOK (ang a.2)) ∧ Q (cmpT (ang a.2) (ang a.1))
def f58_ct : Ct := ⟨.pair k3 k3, arg1 (.ptr 95 k95), k3, f58_wp, false, false⟩
def memF (set : List Int) (i : Int) : Bool := set.any fun y => i == y
def f62_wp : Int → List Int × Unit → (Bool → Prop) → Prop := fun i c Q => Q (memF c.1 i)
def f62_ct : Ct := ⟨k3, arg1 (.ptr 43 k43), .bool, f62_wp, false, false⟩
def enoughF (f : Fan) (seen : Span) (set : List Int) : Bool := decide (degF (lowT (woF (memF set) f)) ≤ seen.2)
def f60_wp : List Int → Fan × Span × Unit → (Bool → Prop) → Prop := fun set c Q => FanOK c.1 ∧ Q (enoughF c.1 c.2.1 set)
def f60_ct : Ct := ⟨k43, arg2 (.ptr 26 k26) (.ptr 23 k23), .bool, f60_wp, false, false⟩
def f66_wp : Int → Int × Unit → (Bool → Prop) → Prop := fun k c Q => Q (decide (k ≤ c.1))
def f66_ct : Ct := ⟨k3, arg1 (.ptr 3 k3), .bool, f66_wp, false, false⟩
def orderF (f : Fan) : List Int := insSort (fun i k => cmpT (lowT (oneF f k.toNat)) (lowT (oneF f i.toNat))) ((List.range f.2.2.length).map fun (i : Nat) => (i : Int))

def manyF (f : Fan) (seen : Span) : Nat := 1 + ((List.range f.2.2.length).findIdx fun m => enoughF f seen ((orderF f).take (m + 1)))
def restF (f : Fan) (i : Nat) : List Int := (orderF f).filter fun k => !decide (k ≤ (i : Int))

def nextB (f : Fan) (seen : Span) (set : List Int) (i : Nat) : Bool :=
  decide (manyF f seen - set.length - 1 ≤ (restF f i).length) && enoughF f seen (set ++ ((i : Int) :: (restF f i).take (manyF f seen - set.length - 1)))
def setK (f : Fan) (seen : Span) (k : Nat) : List Int := (List.range k).foldl (fun set (i : Nat) => if set.length < manyF f seen ∧ nextB f seen set i = true then set ++ [(i : Int)] else set) []
def wrongF (f : Fan) (seen : Span) : List Int × Int × Unit :=
  if checkF f ≠ 0 then ([], checkF f, ()) else if inB 0 360 seen.1 = false ∨ inB 0 360 seen.2 = false ∨ seen.1 > seen.2 then ([], 4, ())
  else if (opensF f).1 ≤ seen.2 ∧ seen.1 ≤ (opensF f).2 then ([], 7, ()) else if f.2.2.length = 0 then ([], 9, ())
  else if (opensF f).1 ≤ seen.2 then ([0], 0, ()) else (setK f seen f.2.2.length, 0, ())
def f21_wp : Fan × Span × Unit → Unit → (List Int × Int × Unit → Prop) → Prop := fun a _ Q =>
  (checkF a.1 = 0 → inB 0 360 a.2.1.1 = true → inB 0 360 a.2.1.2 = true → a.2.1.1 ≤ a.2.1.2 → a.1.2.2.length ≤ 12) ∧ Q (wrongF a.1 a.2.1)
def f21_ct : Ct := ⟨arg2 k26 k23, .unit, res2 k43 k29, f21_wp, false, true⟩
def f21_an : Nat → Items := anL [(1000007, [.t 41 .bool]), (1, [.t 70 k3, .row 8 5001 true 3 k3]), (3, [.t 12 k3]), (5, [.row 13 5002 true 3 k3, .t 14 (.ptr 3 k3)])]

def stickOK (f : Fan) (d : Int) (n : Nat) : Bool := decide (degF (lowT (f.1, f.2.1, List.replicate n (f.2.2.getD 0 g0))) ≥ d)
def sticksF (f : Fan) (d : Int) : Int × Int × Unit :=
  if checkF f ≠ 0 then (0, checkF f, ()) else if inB 0 360 d = false then (0, 4, ()) else if f.2.2.length = 0 then (0, 7, ())
  else match (List.range 41).find? (stickOK f d) with
    | some n => ((n : Int) + 1, 0, ())
    | none => (0, 7, ())
def f24_wp : Fan × Int × Unit → Unit → (Int × Int × Unit → Prop) → Prop := fun a _ Q => Q (sticksF a.1 a.2.1)
def f24_ct : Ct := ⟨arg2 k26 k3, .unit, res2 k3 k29, f24_wp, false, false⟩
def f24_an : Nat → Items := anL [(1, [.t 23 k3])]
def arcF (f : Fan) (a : Int) : Fan := (f.1, f.2.1, f.2.2.map fun g => ((a, a), g.2))
def pleatOK (f : Fan) (d a : Int) : Bool := decide (degF (lowT (arcF f a)) ≥ d)
def f71_wp : Int → Fan × Int × Unit → (Bool → Prop) → Prop := fun a c Q => (FanOK c.1 ∧ 0 ≤ a ∧ a ≤ 2000) ∧ Q (pleatOK c.1 c.2.1 a)
def f71_ct : Ct := ⟨k3, arg2 (.ptr 26 k26) (.ptr 3 k3), .bool, f71_wp, false, false⟩
def f71_an : Nat → Items := anL [(0, [.t 15 k3, .lrow 2030000000001 false 67 k67])]
def pleatF (f : Fan) (d : Int) : Int × Int × Unit :=
  if checkF f ≠ 0 then (0, checkF f, ()) else if inB 0 360 d = false then (0, 4, ())
  else match (List.range 1001).find? (fun (a : Nat) => pleatOK f d (a : Int)) with
    | some n => ((n : Int), 0, ())
    | none => (0, 7, ())
def f26_wp : Fan × Int × Unit → Unit → (Int × Int × Unit → Prop) → Prop := fun a _ Q => Q (pleatF a.1 a.2.1)
def f26_ct : Ct := ⟨arg2 k26 k3, .unit, res2 k3 k29, f26_wp, false, false⟩
def f26_an : Nat → Items := anL [(1, [.t 8 k3, .t 9 k3])]

def isStickF (s : Stick) : Bool := isSpanF s.1 1 10000 && isSpanF s.2.1 1 100 && inB 0 5000 s.2.2
def f101_wp : Stick → Unit → (Bool → Prop) → Prop := fun s _ Q => Q (isStickF s)
def f101_ct : Ct := ⟨k79, .unit, .bool, f101_wp, false, false⟩
def f100_wp : Stick → Unit → (Bool → Prop) → Prop := fun s _ Q => Q (!isStickF s)
def f100_ct : Ct := ⟨k79, .unit, .bool, f100_wp, false, false⟩
def small (n : Int) (s : Span) : Prop := inR (-n) n s.1 ∧ inR (-n) n s.2
def f102_wp : Span × Span × Unit → Unit → (Span → Prop) → Prop := fun a _ Q => (small 1000000000 a.1 ∧ small 1000000000 a.2.1) ∧ Q (a.1.1 + a.2.1.1, a.1.2 + a.2.1.2)
def f102_ct : Ct := ⟨arg2 k23 k23, .unit, k23, f102_wp, false, false⟩
def closedE (l : List Stick) : Int := if 12 < l.length then 5 else if l.all isStickF = false then 2 else 0
def sumW (l : List Stick) (k : Nat) : Span := (List.range k).foldl (fun a i => (a.1 + (l.getD i s0).1.1, a.2 + (l.getD i s0).1.2)) (0, 0)
def sumT (l : List Stick) (k : Nat) : Span := (List.range k).foldl (fun a i => (a.1 + (l.getD i s0).2.1.1, a.2 + (l.getD i s0).2.1.2)) (0, 0)
def closedF (l : List Stick) : Span × Span × Int × Unit := if closedE l ≠ 0 then ((0, 0), (0, 0), closedE l, ()) else (sumW l l.length, sumT l l.length, 0, ())
def f77_wp : List Stick → Unit → (Span × Span × Int × Unit → Prop) → Prop := fun l _ Q => Q (closedF l)
def f77_ct : Ct := ⟨k80, .unit, res3 k23 k23 k29, f77_wp, false, false⟩
def f77_an : Nat → Items := anL [(1, [.t 20 k3, .cell 0 23 k23, .cell 1 23 k23])]
def cenK (l : List Stick) (e : Nat → Span → Int) (k : Nat) : Ratio := (List.range k).foldl (fun a i => (a.1 + e i (l.getD i s0).1 * (l.getD i s0).2.2, a.2 + e i (l.getD i s0).1)) (0, 0)
def endF (first : Int) (p q : Span → Int) (i : Nat) (s : Span) : Int := if (i : Int) < first then p s else q s
def f81_wp : List Stick × Int × (Span → (Int → Prop) → Prop) × (Span → (Int → Prop) → Prop) × Unit → Unit → (Int × Int × Unit → Prop) → Prop := fun a _ Q =>
  ∃ p q : Span → Int, (SaysA a.2.2.1 p ∧ SaysA a.2.2.2.1 q ∧ IsEnd p ∧ IsEnd q ∧ a.1.length ≤ 12 ∧ (∀ s, s ∈ a.1 → (inR 0 10000 s.1.1 ∧ inR 0 10000 s.1.2) ∧ inR 0 5000 s.2.2)) ∧
    Q ((cenK a.1 (endF a.2.1 p q) a.1.length).1, (cenK a.1 (endF a.2.1 p q) a.1.length).2, ())
def f81_ct : Ct := ⟨arg4 k80 k3 k90 k90, .unit, res2 k3 k3, f81_wp, false, false⟩
def f81_an : Nat → Items := anL [(0, [.t 15 k3, .t 8 k3, .t 9 k3])]
def lowF (r : Ratio) : Ratio := (r.1 / (Int.gcd r.1 r.2 : Int), r.2 / (Int.gcd r.1 r.2 : Int))
def f84_wp : Int × Int × Unit → Unit → (Ratio → Prop) → Prop := fun a _ Q => (0 ≤ a.1 ∧ a.1 ≤ 1000000000000 ∧ 1 ≤ a.2.1 ∧ a.2.1 ≤ 1000000000000) ∧ Q (lowF (a.1, a.2.1))
def f84_ct : Ct := ⟨arg2 k3 k3, .unit, k75, f84_wp, false, false⟩
def f84_an : Nat → Items := anL [(0, [.t 5 k3, .t 6 k3])]
def f80_wp : Stick × Stick → Unit → (Int → Prop) → Prop := fun a _ Q => (inR 0 5000 a.1.2.2 ∧ inR 0 5000 a.2.2.2) ∧ Q (a.1.2.2 - a.2.2.2)
def f80_ct : Ct := ⟨.pair k79 k79, .unit, k3, f80_wp, false, false⟩
def sortP (l : List Stick) : List Stick := insSort (fun a b => a.2.2 - b.2.2) l
def hiE (s : Span) : Int := s.2
def loE (s : Span) : Int := s.1
def nearC (s : List Stick) (first : Nat) : Ratio := cenK s (endF first hiE loE) s.length
def farC (s : List Stick) (first : Nat) : Ratio := cenK s (endF first loE hiE) s.length
def balK (s : List Stick) (k : Nat) : Ratio × Ratio := (List.range k).foldl (fun lm i =>
  (if (nearC s i).1 * lm.1.2 < lm.1.1 * (nearC s i).2 then nearC s i else lm.1, if (farC s i).1 * lm.2.2 > lm.2.1 * (farC s i).2 then farC s i else lm.2)) (nearC s 0, nearC s 0)
def balanceF (l : List Stick) : Ratio × Ratio × Int × Unit :=
  if closedE l ≠ 0 then ((0, 0), (0, 0), closedE l, ()) else if l.length = 0 then ((0, 0), (0, 0), 7, ())
  else (lowF (balK (sortP l) (l.length + 1)).1, lowF (balK (sortP l) (l.length + 1)).2, 0, ())
def f40_wp : List Stick → Unit → (Ratio × Ratio × Int × Unit → Prop) → Prop := fun l _ Q => Q (balanceF l)
def f40_ct : Ct := ⟨k80, .unit, res3 k75 k75 k29, f40_wp, false, false⟩
def f40_an : Nat → Items := anL [(1, [.t 48 k3, .cell 0 75 k75, .cell 1 75 k75])]

def f18_wp : Int × Int × Int × Unit → Unit → (Bool → Prop) → Prop := fun a _ Q => Q (inB a.2.1 a.2.2.1 a.1)
def f18_ct : Ct := ⟨arg3 k3 k3 k3, .unit, .bool, f18_wp, false, false⟩
def f46_wp : Span × Int × Int × Unit → Unit → (Bool → Prop) → Prop := fun a _ Q => Q (isSpanF a.1 a.2.1 a.2.2.1)
def f46_ct : Ct := ⟨arg3 k23 k3 k3, .unit, .bool, f46_wp, false, false⟩
def f14_wp : Fan → Unit → (Int → Prop) → Prop := fun f _ Q => Q (checkF f)
def f14_ct : Ct := ⟨k26, .unit, k29, f14_wp, false, false⟩
def f14_an : Nat → Items := anL [(0, [.t 3 k3])]
def f11_wp : Fan → Unit → (Fan → Prop) → Prop := fun f _ Q => f.2.2.length ≤ 1000000 ∧ Q f
def f11_ct : Ct := ⟨k26, .unit, k26, f11_wp, false, true⟩
def f15_wp : Fan × Fan × Unit → Unit → (Bool → Prop) → Prop := fun a _ Q => Q (decide (a.1 = a.2.1))
def f15_ct : Ct := ⟨arg2 k26 k26, .unit, .bool, f15_wp, false, false⟩
def f15_an : Nat → Items := anL [(0, [.t 5 k3])]
def f41_wp : List Int × List Int × Unit → Unit → (Bool → Prop) → Prop := fun a _ Q => Q (decide (a.1 = a.2.1))
def f41_ct : Ct := ⟨arg2 k59 k59, .unit, .bool, f41_wp, false, false⟩
def f23_wp := f41_wp
def f23_ct : Ct := ⟨arg2 k43 k43, .unit, .bool, f41_wp, false, false⟩
def cmp_an : Nat → Items := anL [(0, [.t 5 k3])]
structure SticksOK (l : List Stick) : Prop where
  n : l.length ≤ 12
  s : ∀ s, s ∈ l → (1 ≤ s.1.1 ∧ s.1.1 ≤ s.1.2 ∧ s.1.2 ≤ 10000) ∧ (1 ≤ s.2.1.1 ∧ s.2.1.1 ≤ s.2.1.2 ∧ s.2.1.2 ≤ 100) ∧ 0 ≤ s.2.2 ∧ s.2.2 ≤ 5000
def degND (n d : Int) : Int := min 360 (Int.tdiv (4068 * n) (71 * d))

def angG (arc : Span → Int) (far near : Int) (g : Gap) : Int := min (arc g.1 * near) (arc g.2 * far)
def sumG (arc : Span → Int) (far near : Int) (gs : List Gap) : Int := (gs.map (angG arc far near)).sum
end Go.Proofs.Rz
namespace Go.Proofs.Rz
open Go.GX
def byteB (x : Int) : Prop := 0 ≤ x ∧ x ≤ 255
abbrev Folded := (Int × Int) × (Int × Int) × List (Int × Int × Int × Int)
def f34_wp : Int × Int × Unit → Unit → (Span → Prop) → Prop := fun a _ Q => Q (a.1, a.2.1)
def f34_ct : Ct := ⟨arg2 k3 k3, .unit, k23, f34_wp, false, false⟩
def fan0 : Fan := ((900, 1000), (40, 50), [((200, 210), (12, 12)), ((100, 100), (4, 5))])
def f39_wp : Unit → Unit → (Fan → Prop) → Prop := fun _ _ Q => Q fan0
def f39_ct : Ct := ⟨.unit, .unit, k26, f39_wp, false, true⟩
def f10_wp : Unit → Unit → (Bool → Prop) → Prop := fun _ _ Q => Q true
def f10_ct : Ct := ⟨.unit, .unit, .bool, f10_wp, false, false⟩
def f32_wp : Int × Int × Unit → Unit → (Int → Prop) → Prop := fun a _ Q => (0 ≤ a.1 ∧ a.1 ≤ 400000000000 ∧ 1 ≤ a.2.1 ∧ a.2.1 ≤ 400000000000) ∧ Q (degND a.1 a.2.1)
def rowOK (r : Int × Int × Int × Int) : Prop := byteB r.1 ∧ byteB r.2.1 ∧ byteB r.2.2.1 ∧ byteB r.2.2.2
structure FoldOK (a : Folded) : Prop where
  far : byteB a.1.1 ∧ byteB a.1.2
  near : byteB a.2.1.1 ∧ byteB a.2.1.2
  g : ∀ r, r ∈ a.2.2 → rowOK r
end Go.Proofs.Rz
namespace Go.Proofs.Rz
open Go.GX
def f87_wp : Int × Int × Int × Int × Unit → Unit → (Int → Prop) → Prop := fun a _ Q => ((0 ≤ a.1 ∧ a.1 ≤ 6000) ∧ (0 ≤ a.2.1 ∧ a.2.1 ≤ 6000) ∧ (0 ≤ a.2.2.1 ∧ a.2.2.1 ≤ 2000) ∧ 0 ≤ a.2.2.2.1 ∧ a.2.2.2.1 ≤ 2000) ∧ Q (min (a.2.2.1 * a.2.1) (a.2.2.2.1 * a.1))
def f87_ct : Ct := ⟨arg4 k3 k3 k3 k3, .unit, k3, f87_wp, false, false⟩
def f47_wp : Fan → Unit → (Int × Int × Unit → Prop) → Prop := fun f _ Q => FanOK f ∧ Q (sumG loE f.1.2 f.2.1.2 f.2.2, f.1.2 * f.2.1.2, ())
def f47_ct : Ct := ⟨k26, .unit, res2 k3 k3, f47_wp, false, false⟩
def f47_an : Nat → Items := anL [(0, [.t 5 k3, .t 4 k3])]
def f48_wp : Fan → Unit → (Int × Int × Unit → Prop) → Prop := fun f _ Q => FanOK f ∧ Q (sumG hiE f.1.1 f.2.1.1 f.2.2, f.1.1 * f.2.1.1, ())
def f48_ct : Ct := ⟨k26, .unit, res2 k3 k3, f48_wp, false, false⟩
def f49_wp := f32_wp
def f49_ct : Ct := ⟨arg2 k3 k3, .unit, k3, f32_wp, false, false⟩
def f16_wp : Fan → Unit → (Span → Prop) → Prop := fun f _ Q => FanOK f ∧ Q (opensF f)
def f16_ct : Ct := ⟨k26, .unit, k23, f16_wp, false, false⟩
def f19_wp : Fan × Int × Unit → Unit → (Int × Int × Unit → Prop) → Prop := fun a _ Q => (CheckOK a.1 ∧ 0 ≤ a.2.1 ∧ a.2.1 ≤ 1000) ∧ Q ((widenK a.1 a.2.1 a.1.2.2.length).1, (widenK a.1 a.2.1 a.1.2.2.length).2, ())
def f19_ct : Ct := ⟨arg2 k26 k3, .unit, res2 k3 k3, f19_wp, false, false⟩
def f20_wp : Int → Unit → (Bool → Prop) → Prop := fun n _ Q => Q (inB 0 360 n)
def f20_ct : Ct := ⟨k3, .unit, .bool, f20_wp, false, false⟩

def f3_wp : Fan → Unit → (Bool → Prop) → Prop := fun _ _ Q => Q true
def f3_ct : Ct := ⟨k26, .unit, .bool, f3_wp, false, false⟩
def f4_wp : Fan × Int × Unit → Unit → (Bool → Prop) → Prop := fun _ _ Q => Q true
def f4_ct : Ct := ⟨arg2 k26 k3, .unit, .bool, f4_wp, false, false⟩
def f4_an : Nat → Items := anL [(1000008, [.t 38 .bool]), (2000009, [.t 9 k3])]
end Go.Proofs.Rz
set_option linter.unusedVariables false
namespace Go.GX
variable [Inhabited BaseD]
open Go.RowKit Go.Shelf Go.Proofs

inductive Tgt where
  | ty (t : TypeId)
  | fs (l : List Field) (off : Nat)

def Tgt.one (P : Program) (n : Nat) : Tgt → Option TypeId
  | .ty t => some t
  | .fs [f] off => cond (Nat.beq f.offset off && Nat.beq (P.cellsOf f.type) n) (some f.type) none
  | .fs _ _ => none

def arrF (P : Program) (e : TypeId) (n : Nat) : List Field := (List.range n).map fun i => ⟨"", e, i * P.cellsOf e, false, "", "", 0⟩

def Kd.rng : (K : Kd) → K.T → Prop
  | .int k, x => (Lit.int k x).wf = true
  | .pair A B, x => A.rng x.1 ∧ B.rng x.2
  | .agg K, x => K.rng x
  | .sl _ K, xs => ∀ x, x ∈ (show List K.T from xs) → K.rng x
  | _, _ => True

def fitK (P : Program) : Kd → Tgt → Bool
  | .pair A B, .fs (f :: r) off => Nat.beq f.offset off && Nat.beq (P.cellsOf f.type) A.n && fitK P A (.ty f.type) && fitK P B (.fs r (off + A.n))
  | .pair _ _, _ => false
  | .unit, _ => false
  | .int k, s => match s.one P 1 with
    | some t => match P.underlying t with
      | some (.int k') => decide (k' = k)
      | _ => false
    | none => false
  | .bool, s => match s.one P 1 with
    | some t => match P.underlying t with
      | some .bool => true
      | _ => false
    | none => false
  | .sl e K, s => match s.one P 1 with
    | some t => match P.underlying t with
      | some (.slice e') => Nat.beq e' e && Nat.beq (P.cellsOf e) K.n && Nat.ble 1 K.n && fitK P K (.ty e)
      | _ => false
    | none => false
  | .agg K, s => match s.one P K.n with
    | some t => match P.underlying t with
      | some (.struct fs) => Nat.beq (P.cellsOf t) K.n && fitK P K (.fs fs.toList 0)
      | some (.array n e) => Nat.beq (P.cellsOf t) K.n && fitK P K (.fs (arrF P e n) 0)
      | _ => false
    | none => false
  | _, _ => false

section
variable {H : Type} {enc : TypeId × Value → H} {P : Program} {W : World} {base : Nat} {spare : Nat → Bool} {held : Bool}

def Reads (enc : TypeId × Value → H) (P : Program) (W : World) (base : Nat) (spare : Nat → Bool) (held : Bool) : Tgt → List Value → Prop
  | .ty t, cs => ∃ fuel x, DataW.trod enc P W base spare held fuel t cs = some x
  | .fs l off, cs => ∀ (i : Nat) (f : Field), l[i]? = some f → ∃ fuel x, DataW.trod enc P W base spare held fuel f.type ((cs.drop f.offset).take (P.cellsOf f.type)) = some x

def Tgt.cut (n : Nat) : Tgt → List Value → List Value
  | .ty _, cs => cs
  | .fs _ off, cs => (cs.drop off).take n

theorem one_reads {n : Nat} {s : Tgt} {t : TypeId} {cs : List Value} (h : s.one P n = some t) (hr : Reads enc P W base spare held s cs) : ∃ fuel x, DataW.trod enc P W base spare held fuel t (s.cut n cs) = some x := by
  cases s with
  | ty t' => cases h; exact hr
  | fs l off =>
    match l, h with
    | [f], h =>
      simp only [Tgt.one] at h
      cases hb : Nat.beq f.offset off && Nat.beq (P.cellsOf f.type) n with
      | false => rw [hb] at h; cases h
      | true =>
        rw [hb] at h; cases h
        rw [Bool.and_eq_true] at hb
        have h1 := Nat.eq_of_beq_eq_true hb.1
        have h2 := Nat.eq_of_beq_eq_true hb.2
        obtain ⟨fuel, x, hx⟩ := hr 0 f rfl
        exact ⟨fuel, x, by rw [h1, h2] at hx; exact hx⟩

theorem cut0 {l : List Field} {n : Nat} {z : List Value} (h : z.length = n) : (Tgt.fs l 0).cut n z = z := by
  show (z.drop 0).take n = z
  rw [List.drop_zero]
  exact List.take_of_length_le (by omega)
theorem cells?_cell {a : Addr} {n : Nat} {cs : List Value} (h : W.cells? base a n = some cs) : ∀ (i : Nat) u, cs[i]? = some u → W.cell? (a.add i) = some u := by
  unfold World.cells? at h
  split at h
  · intro i u hu
    have hl := mapM_some_length h
    have hi : i < cs.length := (List.getElem?_eq_some_iff.1 hu).1
    have hln : cs.length = n := by simpa using hl
    have := mapM_some_get h i i (List.getElem?_range (by omega))
    rw [this, hu]
  · cases h

theorem fit_rng : ∀ (K : Kd) (s : Tgt) (cs : List Value), fitK P K s = true → Reads enc P W base spare held s cs → (∀ l off, s = .fs l off → off + K.n ≤ cs.length) → ∃ y : K.T, (K.sem P).cells (fun _ => False) W y (s.cut K.n cs) ∧ K.rng y := by
  intro K
  induction K with
  | int k =>
    intro s cs h hr hl
    simp only [fitK] at h
    split at h
    · rename_i t ht
      obtain ⟨fuel, x, hx⟩ := one_reads ht hr
      split at h
      · rename_i k' hu
        have hk := of_decide_eq_true h
        subst hk
        obtain ⟨n, hn, _, hwf⟩ := DataW.trod_int hu hx
        exact ⟨n, ⟨_, hn, rfl, rfl⟩, hwf⟩
      · cases h
    · cases h
  | bool =>
    intro s cs h hr hl
    simp only [fitK] at h
    split at h
    · rename_i t ht
      obtain ⟨fuel, x, hx⟩ := one_reads ht hr
      split at h
      · rename_i hu
        obtain ⟨b, hb, _⟩ := DataW.trod_bool hu hx
        exact ⟨b, ⟨_, hb, rfl, rfl⟩, trivial⟩
      · cases h
    · cases h
  | sl e K ih =>
    intro s cs h hr hl
    simp only [fitK] at h
    split at h
    · rename_i t ht
      obtain ⟨fuel, x, hx⟩ := one_reads ht hr
      split at h
      · rename_i e' hu
        simp only [Bool.and_eq_true] at h
        obtain ⟨⟨⟨h1, h2⟩, hpos⟩, h3⟩ := h
        have hpos := Nat.le_of_ble_eq_true hpos
        obtain rfl := Nat.eq_of_beq_eq_true h1
        have hc := Nat.eq_of_beq_eq_true h2
        rcases DataW.trod_slice hu hx with ⟨hcs, _⟩ | ⟨a, len, cap, elems, rest, n, _, hcs, _, hb, hlc, hcap, hlen, hel, _, _⟩
        · exact ⟨([] : List K.T), ⟨_, hcs, rfl, none, 0, rfl, Nat.le_refl _, by unfold maxLen; omega, fun h => absurd rfl h⟩, fun x hx => (by cases hx)⟩
        · have key : ∀ i : Nat, i < len → ∃ y : K.T, ∃ ecs : List Value, W.cells? base (a.add (i * K.n)) K.n = some ecs ∧ (K.sem P).cells (fun _ => False) W y ecs ∧ K.rng y := by
            intro i hi
            have he := hel i hi
            rw [List.getElem?_eq_getElem (by omega)] at he
            obtain ⟨cs', g1, g2⟩ := Option.bind_eq_some_iff.1 he
            rw [hc] at g1
            obtain ⟨y, hy⟩ := ih (.ty e') cs' h3 ⟨_, _, g2⟩ (fun _ _ h => by cases h)
            exact ⟨y, cs', g1, hy⟩
          have all : ∀ k : Nat, k ≤ len → ∃ ys : List K.T, ys.length = k ∧ ∀ (i : Nat) y, ys[i]? = some y → ∃ ecs : List Value, W.cells? base (a.add (i * K.n)) K.n = some ecs ∧ (K.sem P).cells (fun _ => False) W y ecs ∧ K.rng y := by
            intro k
            induction k with
            | zero => intro _; exact ⟨[], rfl, fun i y h => by simp at h⟩
            | succ k ihk =>
              intro hk
              obtain ⟨ys, hyl, hys⟩ := ihk (by omega)
              obtain ⟨y, ecs, g1, g2⟩ := key k (by omega)
              refine ⟨ys ++ [y], by simp [hyl], fun i z hz => ?_⟩
              by_cases hi : i < ys.length
              · rw [List.getElem?_append_left hi] at hz
                exact hys i z hz
              · have hi' : i = ys.length := by
                  have := (List.getElem?_eq_some_iff.1 hz).1
                  simp at this; omega
                subst hi'
                rw [List.getElem?_concat_length] at hz
                cases hz
                rw [hyl]
                exact ⟨ecs, g1, g2⟩
          obtain ⟨ys, hyl, hys⟩ := all len (Nat.le_refl _)
          refine ⟨ys, ⟨_, hcs, rfl, some a, cap, by rw [hyl], by rw [hyl]; exact hlc, hcap, fun hne => ⟨a, rfl, fun h => h, ?_, fun j y hy => ?_⟩⟩, fun y hy => by
            obtain ⟨j, hj, rfl⟩ := List.mem_iff_getElem.1 hy
            obtain ⟨_, _, _, g3⟩ := hys j _ (List.getElem?_eq_getElem hj)
            exact g3⟩
          · obtain ⟨y0, hy0⟩ : ∃ y0, ys[0]? = some y0 := ⟨ys[0]'(List.length_pos_iff.2 hne), List.getElem?_eq_getElem _⟩
            obtain ⟨ecs, g1, g2, _⟩ := hys 0 y0 hy0
            rw [Nat.zero_mul] at g1
            have hn : 0 < ecs.length := by rw [Kd.cells_length P K g2]; exact hpos
            have := World.block_lt_of_cell? W _ (cells?_cell g1 0 (ecs[0]'hn) (List.getElem?_eq_getElem hn))
            simpa [add_block] using this
          · obtain ⟨ecs, g1, g2, _⟩ := hys j y hy
            refine ⟨ecs, g2, fun i u hu => ?_⟩
            have := cells?_cell g1 i u hu
            rwa [addAdd] at this
      · cases h
    · cases h
  | agg K ih =>
    intro s cs h hr hl
    simp only [fitK] at h
    split at h
    · rename_i t ht
      obtain ⟨fuel, x, hx⟩ := one_reads ht hr
      split at h
      · rename_i fs hu
        rw [Bool.and_eq_true] at h
        have hc := Nat.eq_of_beq_eq_true h.1
        obtain ⟨xs, n, _, _, hlen, hxl, hf⟩ := DataW.trod_struct hu hx
        obtain ⟨y, hy⟩ := ih (.fs fs.toList 0) (s.cut K.n cs) h.2 (fun i f hi => by
          have hi' : fs[i]? = some f := by simpa using hi
          have := hf i f hi'
          have hlt : i < xs.length := by rw [hxl]; exact (Array.getElem?_eq_some_iff.1 hi').1
          rw [List.getElem?_eq_getElem hlt] at this
          exact ⟨_, _, this⟩) (fun l off h => by cases h; rw [hlen, hc]; omega)
        refine ⟨y, ?_⟩
        have := cut0 (l := fs.toList) (n := K.n) (z := s.cut K.n cs) (by rw [hlen, hc])
        rw [this] at hy
        exact hy
      · rename_i n e hu
        rw [Bool.and_eq_true] at h
        have hc := Nat.eq_of_beq_eq_true h.1
        obtain ⟨xs, n', _, _, hlen, hxl, hf⟩ := DataW.trod_array hu hx
        obtain ⟨y, hy⟩ := ih (.fs (arrF P e n) 0) (s.cut K.n cs) h.2 (fun i f hi => by
          unfold arrF at hi
          rw [List.getElem?_map] at hi
          obtain ⟨i', hi', rfl⟩ := Option.map_eq_some_iff.1 hi
          have hin : i < n := by
            have := (List.getElem?_eq_some_iff.1 hi').1
            simpa using this
          rw [List.getElem?_range hin] at hi'
          cases hi'
          have := hf i hin
          rw [List.getElem?_eq_getElem (by omega)] at this
          exact ⟨_, _, this⟩) (fun l off h => by cases h; rw [hlen, hc]; omega)
        refine ⟨y, ?_⟩
        have := cut0 (l := arrF P e n) (n := K.n) (z := s.cut K.n cs) (by rw [hlen, hc])
        rw [this] at hy
        exact hy
      · cases h
    · cases h
  | pair A B ihA ihB =>
    intro s cs h hr hl
    match s, h with
    | .fs (f :: r) off, h =>
      simp only [fitK, Bool.and_eq_true] at h
      obtain ⟨⟨⟨h1, h2⟩, h3⟩, h4⟩ := h
      have h1 := Nat.eq_of_beq_eq_true h1
      have h2 := Nat.eq_of_beq_eq_true h2
      have hll := hl _ _ rfl
      simp only [Kd.n] at hll
      obtain ⟨fuel, x, hx⟩ := hr 0 f rfl
      obtain ⟨ya, hya, rya⟩ := ihA (.ty f.type) _ h3 ⟨fuel, x, hx⟩ (fun _ _ h => by cases h)
      obtain ⟨yb, hyb, ryb⟩ := ihB (.fs r (off + A.n)) cs h4 (fun i f' hi => hr (i + 1) f' (by simpa using hi)) (fun l o h => by cases h; omega)
      refine ⟨(ya, yb), ⟨_, _, ?_, hya, hyb⟩, rya, ryb⟩
      simp only [Tgt.cut, h1, h2, Kd.n]
      rw [List.take_add, List.drop_drop]
  | _ =>
    intro s cs h hr hl
    first
      | (simp only [fitK] at h; done)
      | (unfold fitK at h; cases h)
      | cases h
end
end Go.GX
set_option maxRecDepth 100000
set_option linter.unusedVariables false
namespace Go.Proofs.Rz
open Go Go.GX Go.Proofs Go.ChangeShapes Go.WideShapes Go.ChangeAt Go.RowKit
open Go.Proofs.YtmdonphignifoaaGreat

theorem own11 : ownKnob Tryz.prog.godebug = none := by kernel_rfl
theorem laidOut11 : laidOutB Tryz.prog = true := by kernel_rfl
abbrev atW (W : World) : Inhabited BaseD := ⟨⟨W.heap.size⟩⟩
theorem glb11 (W : World) : @GlbOK (atW W) Tryz.prog (assoc glT) (fun _ => False) W :=
  ⟨Nat.le_refl _, fun g v h => by cases h⟩
section
variable {H : Type} {enc : TypeId × Value → H} {W : World} {base b0 : Nat} {spare : Nat → Bool} {held : Bool} {v : Value} {d : DataW H} {p : List MemPlace} [Inhabited BaseD]
theorem arg_agg {K : Kd} {t : TypeId} {fs : Array Field} (hu : Tryz.prog.underlying t = some (.struct fs)) (hf : fitK Tryz.prog (.agg K) (.ty t) = true) (hv : Value.okWide Tryz.prog W .any b0 t v) (h : DataW.Trod enc Tryz.prog W base spare held t v d p) :
    ∃ x : K.T, ((Kd.agg K).sem Tryz.prog).val (fun _ => False) W x v ∧ K.rng x := by
  obtain ⟨cs, rfl, _⟩ := okWide_struct hu hv
  obtain ⟨fuel, h⟩ := h
  obtain ⟨x, hx, hr⟩ := fit_rng (.agg K) (.ty t) _ hf ⟨fuel, _, h⟩ (fun _ _ h => by cases h)
  exact ⟨x, ⟨cs.toList, by simp, hx⟩, hr⟩
end
theorem uS26 : ∃ fs, Tryz.prog.underlying 26 = some (.struct fs) := ⟨_, rfl⟩
theorem uS23 : ∃ fs, Tryz.prog.underlying 23 = some (.struct fs) := ⟨_, rfl⟩
theorem fit26 : fitK Tryz.prog k26 (.ty 26) = true := by kernel_rfl
theorem fit23 : fitK Tryz.prog k23 (.ty 23) = true := by kernel_rfl
theorem belowOf {W W' : World} (h : @Bel (atW W) (fun k => k < W.heap.size) W W') : Below W.heap.size W W' :=
  letI := atW W
  ⟨h.os, h.tape, h.output, h.size, fun k hk => h.block k hk fun _ _ _ _ => hk⟩
section
variable {H : Type} {enc : TypeId × Value → H} {W : World} {base b0 b1 b2 : Nat} {spare : Nat → Bool} {held : Bool} {v0 v1 v2 : Value} {d0 d1 d2 : DataW H} {p0 p1 p2 : List MemPlace}
theorem lawD {f : FuncId} {ct : Ct} (hA : ct = ⟨arg2 k26 k23, .unit, .bool, fun _ _ Q => Q true, false, false⟩) (ok : ∀ [Inhabited BaseD], CallsOK Tryz.prog (assoc glT) f ct)
    (o0 : Value.okWide Tryz.prog W .any b0 26 v0) (h0 : DataW.Trod enc Tryz.prog W base spare held 26 v0 d0 p0) (o1 : Value.okWide Tryz.prog W .any b1 23 v1) (h1 : DataW.Trod enc Tryz.prog W base spare held 23 v1 d1 p1) :
    Calls Tryz.prog f #[v0, v1] W fun e W' => e = .returned (.bool true) ∧ Below W.heap.size W W' := by
  subst hA
  letI := atW W
  obtain ⟨fs0, hu0⟩ := uS26
  obtain ⟨x0, g0, r0⟩ := arg_agg (K := .pair k23 (.pair k23 k24)) hu0 fit26 o0 h0
  obtain ⟨fs1, hu1⟩ := uS23
  obtain ⟨x1, g1, r1⟩ := arg_agg (K := .pair k3 k3) hu1 fit23 o1 h1
  have := ok.calls (fun _ => False) W (x0, x1, ()) () [v0, v1] [] (fun _ h => h.elim) (glb11 W) ⟨v0, [v1], rfl, g0, v1, [], rfl, g1, rfl⟩ rfl (fun r => r = true) rfl
  refine this.mono fun e W' h => ?_
  obtain ⟨r, v, he, hv, hb, hr⟩ := h
  have hv : v = .bool r := hv
  subst hr
  exact ⟨by rw [he, hv], belowOf hb⟩
end
end Go.Proofs.Rz
