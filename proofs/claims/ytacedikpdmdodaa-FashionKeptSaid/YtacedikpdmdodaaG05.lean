/- Part 5 of the texts behind the proof: Gx21, Gx22, Gx23, Gx24, Gx26, Gx27, Gx28, Gx30, FaS, FaO0, FaC1. -/
import Derived.Test.YtacedikpdmdodaaG04
import Derived.Test.YtacedikpdmdodaaProg
set_option linter.unusedSimpArgs false
set_option linter.unusedVariables false
set_option linter.unusedSectionVars false
set_option linter.unusedVariables false
namespace Go.GX
variable [Inhabited BaseD]
open Go.RowKit Go.Shelf Go.Proofs

def Xt.ex : Xt → Exit
  | .norm => .normal
  | .exit i => .exit i
  | .ret => .ret

theorem hp_notlab {c : Nat} {h : Nat → Option (HE × Nat)} {l : Nat} : ∀ {its : Items} {g : its.G}, memL l its.labs = false → its.hp c h g l = h l
  | [], g, _ => rfl
  | .t t K :: r, g, hl => hp_notlab (its := r) hl
  | .row t l0 nn e K :: r, g, hl => by
    simp only [Items.labs, memL_cons, Bool.or_eq_false_iff] at hl
    simp only [Items.hp, hl.1, cond_false]
    exact hp_notlab (its := r) hl.2
  | .cell l0 ty K :: r, g, hl => by
    simp only [Items.labs, memL_cons, Bool.or_eq_false_iff] at hl
    simp only [Items.hp, hl.1, cond_false]
    exact hp_notlab (its := r) hl.2
  | .crow l0 ty m nn e K K2 :: r, g, hl => by
    simp only [Items.labs, memL_cons, Bool.or_eq_false_iff] at hl
    simp only [Items.hp, hl.1, hl.2.1, cond_false]
    exact hp_notlab (its := r) hl.2.2
  | .crow2 l0 ty m nn e K K2 m' nn' e' K' :: r, g, hl => by
    simp only [Items.labs, memL_cons, Bool.or_eq_false_iff] at hl
    simp only [Items.hp, hl.1, hl.2.1, hl.2.2.1, cond_false]
    exact hp_notlab (its := r) hl.2.2.2
  | .lrow l0 nn e K :: r, g, hl => by
    simp only [Items.labs, memL_cons, Bool.or_eq_false_iff] at hl
    simp only [Items.hp, hl.1, cond_false]
    exact hp_notlab (its := r) hl.2
  | .mat t l0 vl nn e ag e1 K1 :: r, g, hl => by
    simp only [Items.labs, memL_cons, Bool.or_eq_false_iff] at hl
    simp only [Items.hp, hl.1, hl.2.1, cond_false]
    exact hp_notlab (its := r) hl.2.2
  | .lmat l0 vl nn e ag e1 K1 :: r, g, hl => by
    simp only [Items.labs, memL_cons, Bool.or_eq_false_iff] at hl
    simp only [Items.hp, hl.1, hl.2.1, cond_false]
    exact hp_notlab (its := r) hl.2.2

theorem hp_cases {c : Nat} {h : Nat → Option (HE × Nat)} {l : Nat} {he : HE} {s : Nat} : ∀ {its : Items} {g : its.G}, its.hp c h g l = some (he, s) → s = c ∨ h l = some (he, s)
  | [], g, hl => .inr hl
  | .t t K :: r, g, hl => hp_cases (its := r) hl
  | .row t l0 nn e K :: r, g, hl => by
    simp only [Items.hp] at hl
    cases hb : Nat.beq l l0 with
    | true => rw [hb] at hl; cases hl; exact .inl rfl
    | false => rw [hb] at hl; exact hp_cases (its := r) hl
  | .cell l0 ty K :: r, g, hl => by
    simp only [Items.hp] at hl
    cases hb : Nat.beq l l0 with
    | true => rw [hb] at hl; cases hl; exact .inl rfl
    | false => rw [hb] at hl; exact hp_cases (its := r) hl
  | .crow l0 ty m nn e K K2 :: r, g, hl => by
    simp only [Items.hp] at hl
    cases hb : Nat.beq l l0 with
    | true => rw [hb] at hl; cases hl; exact .inl rfl
    | false =>
      rw [hb, cond_false] at hl
      cases hb2 : Nat.beq l m with
      | true => rw [hb2] at hl; cases hl; exact .inl rfl
      | false => rw [hb2] at hl; exact hp_cases (its := r) hl
  | .crow2 l0 ty m nn e K K2 m' nn' e' K' :: r, g, hl => by
    simp only [Items.hp] at hl
    cases hb : Nat.beq l l0 with
    | true => rw [hb] at hl; cases hl; exact .inl rfl
    | false =>
      rw [hb, cond_false] at hl
      cases hb2 : Nat.beq l m with
      | true => rw [hb2] at hl; cases hl; exact .inl rfl
      | false =>
        rw [hb2, cond_false] at hl
        cases hb3 : Nat.beq l m' with
        | true => rw [hb3] at hl; cases hl; exact .inl rfl
        | false => rw [hb3] at hl; exact hp_cases (its := r) hl
  | .lrow l0 nn e K :: r, g, hl => by
    simp only [Items.hp] at hl
    cases hb : Nat.beq l l0 with
    | true => rw [hb] at hl; cases hl; exact .inl rfl
    | false => rw [hb] at hl; exact hp_cases (its := r) hl
  | .mat t l0 vl nn e ag e1 K1 :: r, g, hl => by
    simp only [Items.hp] at hl
    cases hb : Nat.beq l l0 with
    | true => rw [hb] at hl; cases hl; exact .inl rfl
    | false =>
      rw [hb, cond_false] at hl
      cases hb2 : Nat.beq l vl with
      | true => rw [hb2] at hl; cases hl
      | false => rw [hb2] at hl; exact hp_cases (its := r) hl
  | .lmat l0 vl nn e ag e1 K1 :: r, g, hl => by
    simp only [Items.hp] at hl
    cases hb : Nat.beq l l0 with
    | true => rw [hb] at hl; cases hl; exact .inl rfl
    | false =>
      rw [hb, cond_false] at hl
      cases hb2 : Nat.beq l vl with
      | true => rw [hb2] at hl; cases hl
      | false => rw [hb2] at hl; exact hp_cases (its := r) hl

theorem head_tm_off {its : Items} {st0 : St} {wr : List Nat} {g : its.G} (hok : its.ok st0 wr = true) {t : Nat} (ht : memL t wr = false) : (its.head st0 wr g).tm t = st0.tm t := by
  show (match its.tm g t with
      | some v => v
      | none => cond (memL t wr) .any (st0.tm t)) = _
  cases h : its.tm g t with
  | some sv => rw [tm_wr hok h] at ht; cases ht
  | none => simp only [ht, cond_false]

theorem head_frm {its : Items} {st0 : St} {wr : List Nat} (g : its.G) (hok : its.ok st0 wr = true) : Frm st0 (its.head st0 wr g) wr := by
  refine ⟨rfl, Nat.le_succ _, fun t ht => head_tm_off hok ht, fun l he s h hs => ?_⟩
  rcases hp_cases (its := its) (g := g) h with h1 | h1
  · omega
  · exact base_some h1

theorem kept_spec {labs : List Nat} {st0 st' : St} : ∀ {ls : List Nat}, keptOK labs st0 st' ls = true → ∀ l, memL l ls = true → memL l labs = true ∨ sameStamp (st'.hp l) (st0.hp l) = true
  | [], _, l, hl => by cases hl
  | k :: r, h, l, hl => by
    simp only [keptOK, Bool.and_eq_true, Bool.or_eq_true] at h
    rw [memL_cons, Bool.or_eq_true] at hl
    rcases hl with hl | hl
    · have := Nat.eq_of_beq_eq_true hl
      subst this
      exact h.1
    · exact kept_spec h.2 l hl

theorem All_spec : ∀ {its : Items} {p : its.G → Prop}, its.All p → ∀ g, p g
  | [], p, h, g => h
  | it :: r, p, h, g => All_spec (its := r) (h g.1) g.2

theorem exists_least {p : Nat → Prop} : ∀ n, p n → ∃ m, p m ∧ ∀ k, p k → m ≤ k := by
  intro n
  induction n using Nat.strongRecOn with
  | _ n ih =>
    intro hn
    by_cases h : ∃ k, k < n ∧ p k
    · obtain ⟨k, hk, hp⟩ := h
      exact ih k hk hp
    · exact ⟨n, hn, fun k hk => Nat.le_of_not_lt fun hlt => h ⟨k, hlt, hk⟩⟩

noncomputable def least {G : Type} (I : G → Act → World → Prop) (μ : G → Nat) (a : Act) (W : World) : Nat :=
  Classical.epsilon fun m => (∃ g, I g a W ∧ μ g = m) ∧ ∀ k, (∃ g, I g a W ∧ μ g = k) → m ≤ k

theorem least_spec {G : Type} {I : G → Act → World → Prop} {μ : G → Nat} {a : Act} {W : World} {g : G} (h : I g a W) : (∃ g', I g' a W ∧ μ g' = least I μ a W) ∧ ∀ k, (∃ g, I g a W ∧ μ g = k) → least I μ a W ≤ k :=
  Classical.epsilon_spec (exists_least (p := fun n => ∃ g, I g a W ∧ μ g = n) (μ g) ⟨g, h, rfl⟩)

theorem least_le {G : Type} {I : G → Act → World → Prop} {μ : G → Nat} {a : Act} {W : World} {g : G} (h : I g a W) : least I μ a W ≤ μ g := (least_spec h).2 _ ⟨g, h, rfl⟩
theorem least_at {G : Type} {I : G → Act → World → Prop} {μ : G → Nat} {a : Act} {W : World} {g : G} (h : I g a W) : ∃ g', I g' a W ∧ μ g' = least I μ a W := (least_spec h).1

section
variable {P : Program} {glb : Nat → Option GV} {Bk X0 : Nat → Prop} {w0 : World} {st st0 st' : St} {ρ ρ' : Lab} {a : Act} {W W' : World} {S : Stat} {F : Fence} {n : Nat}

def PostX (P : Program) (glb : Nat → Option GV) (Bk X0 : Nat → Prop) (w0 : World) (st : St) (ρ : Lab) (wr : List Nat) (K : Xt → St → Prop) (e : Exit) (a : Act) (W : World) : Prop :=
  ∃ x st' ρ', e = x.ex ∧ K x st' ∧ (Frm st st' wr ∧ ρ.le ρ') ∧ Mt P glb Bk X0 w0 st' ρ' a W

theorem Mt.ahead (m : Mt P glb Bk X0 w0 st0 ρ a W) (its : Items) (wr : List Nat) : Ahead P st0 wr its st0 := by
  have hp : ∀ l v, ρ l = some v → memL l st0.dom = true := m.dom
  refine ⟨rfl, fun t _ => rfl, fun l he s h _ => ⟨s, base_some h⟩, fun t => (m.tms t).uses hp, fun l he s h => ?_⟩
  obtain ⟨v, hv, hok⟩ := m.hps l he s h
  refine ⟨m.dom l v hv, ?_, m.stamp l he s h⟩
  cases he with
  | box own ty cs =>
    obtain ⟨b, arr, _, _, hcs, _⟩ := hok
    exact hcs.uses hp
  | mat nn e ag e1 K1 xs hole vl =>
    obtain ⟨⟨us, hu, _⟩, _⟩ := hok
    exact m.dom vl _ hu
  | _ => trivial

theorem Ahead.next {its : Items} {wr : List Nat} {g : its.G} (h : Ahead P st0 wr its st0) (hok : its.ok st0 wr = true) (hf : Frm (its.head st0 wr g) st' wr) (hk : keptOK its.labs (its.head st0 wr g) st' (its.labs ++ st0.dom) = true) : Ahead P st0 wr its st' := by
  refine ⟨hf.n, fun t ht => (hf.tm t ht).trans (head_tm_off hok ht), fun l he s hb hl => ?_, h.utm, h.uhp⟩
  obtain ⟨hd, _, hs⟩ := h.uhp l he s (base_some hb)
  have hhd : (its.head st0 wr g).hp l = some (he, s) := (hp_notlab hl).trans hb
  rcases kept_spec hk l (by rw [memL_append, hd, Bool.or_true]) with h1 | h1
  · rw [hl] at h1; cases h1
  · rw [hhd] at h1
    cases hq : st'.hp l with
    | none => rw [hq] at h1; cases h1
    | some p =>
      obtain ⟨he', s'⟩ := p
      rw [hq] at h1
      have hss : s' = s := Nat.eq_of_beq_eq_true h1
      subst hss
      have := hf.hp l he' s' hq (by show s' ≤ st0.cnt + 1; omega)
      rw [hhd] at this
      cases this
      exact ⟨s', rfl⟩

theorem Ahead.next0 {its : Items} {wr : List Nat} (h : Ahead P st0 wr its st0) (hf : Frm st0 st' wr) (hk : keptOK its.labs st0 st' (its.labs ++ st0.dom) = true) : Ahead P st0 wr its st' := by
  refine ⟨hf.n, fun t ht => hf.tm t ht, fun l he s hb hl => ?_, h.utm, h.uhp⟩
  obtain ⟨hd, _, hs⟩ := h.uhp l he s (base_some hb)
  have hhd : st0.hp l = some (he, s) := base_some hb
  rcases kept_spec hk l (by rw [memL_append, hd, Bool.or_true]) with h1 | h1
  · rw [hl] at h1; cases h1
  · rw [hhd] at h1
    cases hq : st'.hp l with
    | none => rw [hq] at h1; cases h1
    | some p =>
      obtain ⟨he', s'⟩ := p
      rw [hq] at h1
      have hss : s' = s := Nat.eq_of_beq_eq_true h1
      subst hss
      have := hf.hp l he' s' hq (by show s' ≤ st0.cnt; omega)
      rw [hhd] at this
      cases this
      exact ⟨s', rfl⟩
theorem join_post (hct : CtOK P glb S) {its : Items} (m : Mt P glb Bk X0 w0 st ρ a W) {wr : List Nat} {K : Xt → St → Prop} (hnd : nodupL its.labs = true) (hok : its.ok st wr = true) {I : its.Cur Prop} (h2 : its.All fun g => its.app I g → K .norm (its.head st wr g))
    {e : Exit} {a1 : Act} {W1 : World} (h : PostX P glb Bk X0 w0 st ρ wr (thruK K fun st' => chk (keptOK its.labs st st' (its.labs ++ st.dom)) <| its.get S (its.kept st) st' [] fun g => its.app I g) e a1 W1) : PostX P glb Bk X0 w0 st ρ wr K e a1 W1 := by
  obtain ⟨x, st', ρ', he, hk, hf, m'⟩ := h
  cases x with
  | ret => exact ⟨.ret, st', ρ', he, hk, hf, m'⟩
  | exit i => exact ⟨.exit i, st', ρ', he, hk, hf, m'⟩
  | norm =>
    obtain ⟨hkept, hget⟩ := chk_iff.1 hk
    have hA := m.ahead its wr
    obtain ⟨g, ρh, hI, mh, hold, _⟩ := m'.head hct its wr (hA.next0 hf.1 hkept) hnd hok hget
    exact ⟨.norm, its.head st wr g, ρh, he, All_spec h2 g hI, ⟨head_frm g hok, fun l v hv => by rw [hold l (m.dom l v hv)]; exact hf.2 l v hv⟩, mh⟩

theorem vc_block (an : Nat → Items) (id : Nat) (c : Code) (K : Xt → St → Prop) (hc : ∀ b, c ≠ .loop b) (hc2 : ∀ f ps x y, c ≠ .rangeFunc f ps x y) : vc S an (.block id c) st K = vc S an c st fun x st' => match x with
    | .norm => K .norm st'
    | .exit i => cond (Nat.beq i id) (K .norm st') (K (.exit i) st')
    | .ret => K .ret st' := by
  cases c <;> first | rfl | exact absurd rfl (hc _) | exact absurd rfl (hc2 _ _ _ _)

theorem block_post {id : Nat} {wr : List Nat} {K K' : Xt → St → Prop} {Q : Exit → Act → World → Prop} (hQ : ∀ e a W, PostX P glb Bk X0 w0 st ρ wr K e a W → Q e a W)
    (h1 : ∀ st', K' .norm st' → K .norm st') (h2 : ∀ i st', K' (.exit i) st' → cond (Nat.beq i id) (K .norm st') (K (.exit i) st')) (h3 : ∀ st', K' .ret st' → K .ret st') (e : Exit) (a : Act) (W : World) (h : PostX P glb Bk X0 w0 st ρ wr K' e a W) : Exit.inBlock id Q e a W := by
  obtain ⟨x, st', ρ', rfl, hk, hf, m⟩ := h
  cases x with
  | norm => exact hQ _ _ _ ⟨.norm, st', ρ', rfl, h1 _ hk, hf, m⟩
  | ret => exact hQ _ _ _ ⟨.ret, st', ρ', rfl, h3 _ hk, hf, m⟩
  | exit i =>
    have := h2 i st' hk
    show if i = id then Q .normal a W else Q (.exit i) a W
    by_cases hi : i = id
    · subst hi
      rw [if_pos rfl]
      rw [Nat.beq_refl, cond_true] at this
      exact hQ _ _ _ ⟨.norm, st', ρ', rfl, this, hf, m⟩
    · rw [if_neg hi]
      rw [beq_ne hi, cond_false] at this
      exact hQ _ _ _ ⟨.exit i, st', ρ', rfl, this, hf, m⟩

theorem mem_filterMap_dst {ops : List Oper} {j : Nat} {o : Oper} {d : Nat} (h : ops[j]? = some o) (hd : o.dst = some d) : d ∈ ops.filterMap (·.dst) :=
  List.mem_filterMap.2 ⟨o, List.mem_of_getElem? h, hd⟩

def VcOK (P : Program) (glb : Nat → Option GV) (Bk X0 : Nat → Prop) (w0 : World) (F : Fence) (n : Nat) (S : Stat) (an : Nat → Items) (c : Code) : Prop :=
  ∀ (st : St) (ρ : Lab) (a : Act) (W : World) (K : Xt → St → Prop), Mt P glb Bk X0 w0 st ρ a W → vc S an c st K → c.wpIn F n P (PostX P glb Bk X0 w0 st ρ (codeWrites c) K) a W

theorem loop_ok (hct : CtOK P glb S) (an : Nat → Items) (id : Nat) (body : Code) (ih : VcOK P glb Bk X0 w0 F n S an body) : VcOK P glb Bk X0 w0 F n S an (.block id (.loop body)) := by
  intro st ρ a W K m h
  simp only [vc] at h
  obtain ⟨hc, I, μ, h1, h2⟩ := chk_iff.1 h
  simp only [Bool.and_eq_true] at hc
  obtain ⟨hnd, hok⟩ := hc
  have hA := m.ahead (an id) (codeWrites body)
  refine wpIn_block ?_
  let Inv : (an id).G → Act → World → Prop := fun g a W => (an id).app I g ∧ ∃ ρ', Mt P glb Bk X0 w0 ((an id).head st (codeWrites body) g) ρ' a W ∧ ρ.le ρ'
  refine wpIn_loop (fun a W => ∃ g, Inv g a W) (least Inv ((an id).app μ)) ?_ ?_
  · obtain ⟨g, ρh, hk, mh⟩ := m.head hct (an id) (codeWrites body) hA hnd hok h1
    exact ⟨g, hk, ρh, mh.1, fun l v hv => by rw [mh.2.1 l (m.dom l v hv)]; exact hv⟩
  · rintro a1 W1 ⟨g0, hg0⟩
    obtain ⟨g, ⟨hI, ρg, mg, hleg⟩, hμ⟩ := least_at (μ := (an id).app μ) hg0
    refine wpIn_mono (ih _ ρg a1 W1 _ mg (All_spec h2 g hI)) ?_
    rintro e a2 W2 ⟨xt, st2, ρ2, rfl, hk, hf, m2⟩
    have hfr : Frm st st2 (codeWrites body) ∧ ρ.le ρ2 := ⟨(head_frm g hok).trans hf.1, hleg.trans hf.2⟩
    cases xt with
    | norm =>
      obtain ⟨hkept, hget⟩ := chk_iff.1 hk
      obtain ⟨g', ρ', ⟨hI', hlt⟩, m0, hold', _⟩ := m2.head hct (an id) (codeWrites body) (hA.next hok hf.1 hkept) hnd hok hget
      have m' := And.intro m0 (show ρ.le ρ' from fun l v hv => by rw [hold' l (m.dom l v hv)]; exact hfr.2 l v hv)
      refine ⟨⟨g', hI', ρ', m'⟩, ?_⟩
      rw [← hμ]
      exact Nat.lt_of_le_of_lt (least_le (I := Inv) ⟨hI', ρ', m'⟩) hlt
    | ret => exact ⟨.ret, st2, ρ2, rfl, hk, hfr, m2⟩
    | exit i =>
      show if i = id then _ else _
      by_cases hi : i = id
      · subst hi
        rw [if_pos rfl]
        have hk' : cond (Nat.beq i i) (K .norm st2) (K (.exit i) st2) := hk
        rw [Nat.beq_refl, cond_true] at hk'
        exact ⟨.norm, st2, ρ2, rfl, hk', hfr, m2⟩
      · rw [if_neg hi]
        have hk' : cond (Nat.beq i id) (K .norm st2) (K (.exit i) st2) := hk
        rw [beq_ne hi, cond_false] at hk'
        exact ⟨.exit i, st2, ρ2, rfl, hk', hfr, m2⟩

def VcAll (P : Program) (glb : Nat → Option GV) (S : Stat) (an : Nat → Items) (c : Code) : Prop :=
  ∀ (Bk X0 : Nat → Prop) (w0 : World) (F : Fence) (n : Nat), Wide F P → (F.round = none ∨ noRF c = true) → VcOK P glb Bk X0 w0 F n S an c

theorem seqC_ok {c : SC} {k : (A : Kd) → List A.T → Prop} (h : seqC c k) : ∃ A xs, c = .d (.seq A) xs ∧ k A xs := by
  unfold seqC at h
  split at h
  · exact ⟨_, _, rfl, h⟩
  · exact h.elim

structure RfI (P : Program) (glb : Nat → Option GV) (Bk X0 : Nat → Prop) (w0 : World) (its : Items) (I : its.G → Prop) (st : St) (ρ : Lab) (tmps : Array Value) (W : World) (Ds : List Nat) (l : Nat) (r : Loop) (Ib : Nat → Prop) (W2 : World) : Prop where
  ex : ∃ g ρg, I g ∧ Mt P glb Bk (fun k => X0 k ∨ Ib k) w0 (its.head st [] g) ρg ⟨tmps, []⟩ W2 ∧ ρ.le ρg ∧ Evo (Xs st ρ X0) W (Xs (its.head st [] g) ρg (fun k => X0 k ∨ Ib k)) W2
  lp : W2.heap[l]? = some (.loop r)
  dfr : ∀ D, D ∈ Ds → W2.heap[D]? = some (.deferred (some []))
  low : ∀ k, Ib k → l < k

structure RfX (P : Program) (glb : Nat → Option GV) (Bk X0 : Nat → Prop) (w0 : World) (KX : Xt → St → Prop) (st : St) (ρ : Lab) (tmps : Array Value) (Ds : List Nat) (l : Nat) (rd : Code → Loop) (Ib : Nat → Prop) (W2 : World) : Prop where
  ex : ∃ xt c st' ρ', ((xt = .ret ∧ c = .ret) ∨ ∃ i, xt = .exit i ∧ c = .exit i) ∧ KX xt st' ∧ Frm st st' [] ∧ ρ.le ρ' ∧ Mt P glb Bk (fun k => X0 k ∨ Ib k) w0 st' ρ' ⟨tmps, []⟩ W2 ∧ W2.heap[l]? = some (.loop (rd c))
  dfr : ∀ D, D ∈ Ds → W2.heap[D]? = some (.deferred (some []))
  low : ∀ k, Ib k → l < k

theorem turned_low {Ib I' : Nat → Prop} {l : Nat} (ht : Turned Ib W I' W') (hl : l < W.heap.size) (h : ∀ k, Ib k → l < k) : ∀ k, I' k → l < k := by
  intro k hk
  rcases ht.new k hk with h1 | h1
  · exact h k h1
  · omega

theorem turned_at {Ib I' : Nat → Prop} {l k : Nat} {o : Obj} (ht : Turned Ib W I' W') (h : ∀ k, Ib k → l < k) (hk : k ≤ l) (ho : W.heap[k]? = some o) (hm : ∀ es c, o ≠ .map es c) : W'.heap[k]? = some o :=
  (ht.keep k (Array.getElem?_eq_some_iff.1 ho).1 (fun hi => by have := h k hi; omega) (fun es c hc => by rw [ho] at hc; cases hc; exact (hm es c rfl).elim)).trans ho

theorem RfI.turned {its : Items} {I : its.G → Prop} {tmps : Array Value} {W0 : World} {Ds : List Nat} {l : Nat} {r : Loop} {Ib I' : Nat → Prop} (h : RfI P glb Bk X0 w0 its I st ρ tmps W0 Ds l r Ib W) (ht : Turned Ib W I' W') (hB : ∀ k, Bk k → k ≤ l) (hD : ∀ D, D ∈ Ds → D ≤ l) :
    RfI P glb Bk X0 w0 its I st ρ tmps W0 Ds l r I' W' := by
  have hlt := (Array.getElem?_eq_some_iff.1 h.lp).1
  obtain ⟨g, ρg, hI, m, hle, hev⟩ := h.ex
  obtain ⟨m', ev'⟩ := m.turned (B := l + 1) ht (fun k hk => h.low k hk) (fun k hk => Nat.lt_succ_of_le (hB k hk)) DefOK.nil
  exact ⟨⟨g, ρg, hI, m', hle, hev.trans ev'⟩, turned_at ht h.low (Nat.le_refl _) h.lp (fun _ _ h => (by cases h)), fun D hDm => turned_at ht h.low (hD D hDm) (h.dfr D hDm) (fun _ _ h => (by cases h)), turned_low ht hlt h.low⟩

theorem RfX.turned {KX : Xt → St → Prop} {tmps : Array Value} {Ds : List Nat} {l : Nat} {rd : Code → Loop} {Ib I' : Nat → Prop} (h : RfX P glb Bk X0 w0 KX st ρ tmps Ds l rd Ib W) (ht : Turned Ib W I' W') (hB : ∀ k, Bk k → k ≤ l) (hD : ∀ D, D ∈ Ds → D ≤ l) :
    RfX P glb Bk X0 w0 KX st ρ tmps Ds l rd I' W' := by
  obtain ⟨xt, c, st', ρ', hc, hk, hf, hle, m, hrec⟩ := h.ex
  have hlt := (Array.getElem?_eq_some_iff.1 hrec).1
  obtain ⟨m', ev'⟩ := m.turned (B := l + 1) ht (fun k hk => h.low k hk) (fun k hk => Nat.lt_succ_of_le (hB k hk)) DefOK.nil
  exact ⟨⟨xt, c, st', ρ', hc, hk, hf, hle, m', turned_at ht h.low (Nat.le_refl _) hrec (fun _ _ h => (by cases h))⟩, fun D hDm => turned_at ht h.low (hD D hDm) (h.dfr D hDm) (fun _ _ h => (by cases h)), turned_low ht hlt h.low⟩

theorem round_end {Bk0 : Nat → Prop} {w00 : World} {XI X1 Bk2 : Nat → Prop} {sth st3 : St} {ρg ρ3 : Lab} {tmps : Array Value} {ds0 : List Deferred} {a5 : Act} {L l : Nat} {r r2 : Loop} {W2 W4 W5 : World} {o : Obj}
    (m0 : Mt P glb Bk0 X0 w00 st ρ ⟨tmps, ds0⟩ W) (hev : Evo (Xs st ρ X0) W (Xs sth ρg XI) W2) (hle : ρ.le ρ3) (hn : st3.n = st.n)
    (mg : Mt P glb Bk XI w0 sth ρg ⟨tmps, []⟩ W2) (hBk2 : ∀ k, Bk2 k ↔ k < W2.heap.size ∧ ¬ OwnWr sth ρg k)
    (m5 : Mt P glb Bk2 X1 W4 st3 ρ3 a5 W5) (h24 : Bel (fun k => Bk2 k ∧ k ≠ l) W2 W4)
    (hl : W4.heap[l]? = some (.loop r)) (hlW2 : W2.heap[l]? = some (.loop r2)) (hl2 : Bk2 l) (hBl : ¬ Bk l) (hX1 : ∀ k, XI k → Xs st3 ρ3 X1 k)
    (hnl : noLn (strike st3 L).look st3.dom = true) :
    Mt P glb Bk XI w0 (backSt st L st3) ρ3 ⟨tmps, []⟩ (W5.putObj l o) ∧ Evo (Xs sth ρg XI) W2 (Xs (backSt st L st3) ρ3 XI) (W5.putObj l o) ∧ Bel (fun k => Bk2 k ∧ k ≠ l) W2 (W5.putObj l o) := by
  have hl5 : W5.heap[l]? = some (.loop r) := (m5.bel.block l hl2 (fun es c hc => by rw [hl] at hc; cases hc)).trans hl
  have other : ∀ {l' he s}, (strike st3 L).hp l' = some (he, s) → l' ≠ L ∧ st3.hp l' = some (he, s) := by
    intro l' he s h
    by_cases hl' : l' = L
    · subst hl'; rw [show (strike st3 l').hp = updf st3.hp l' none from rfl, updf_same] at h; cases h
    · rw [show (strike st3 L).hp = updf st3.hp L none from rfl, updf_other _ _ hl'] at h; exact ⟨hl', h⟩
  have nln : ∀ {l' he s}, l' ≠ L → st3.hp l' = some (he, s) → he.isLn = false := by
    intro l' he s hne h
    obtain ⟨v, hv, _⟩ := m5.hps l' he s h
    refine noLn_spec hnl l' (memL_iff.1 (m5.dom l' v hv)) he ?_
    show ((updf st3.hp L none) l').map (·.1) = some he
    rw [updf_other _ _ hne, h]; rfl
  have hBB : ∀ k, Bk k → Bk2 k := fun k hk => (hBk2 k).2 ⟨Nat.lt_of_lt_of_le (mg.bk k hk) mg.bel.size, fun ⟨l', he, s, v, h1, h2, h3, h4⟩ => (mg.nb l' he s v k h1 h2 h3).1 h4 hk⟩
  have hIB : ∀ k, XI k → Bk2 k := fun k hk => (hBk2 k).2 ⟨mg.x0 k hk, fun ⟨l', he, s, v, h1, h2, h3, h4⟩ => (mg.nb l' he s v k h1 h2 h3).2 hk⟩
  have same : Bel (fun k => Bk2 k ∧ k ≠ l) W2 (W5.putObj l o) := (h24.trans (m5.bel.mono fun k hk => hk.1)).trans
    ⟨rfl, rfl, rfl, by simp, fun k hk _ => World.putObj_heap_other hk.2, fun mm xs _ hg => GoodAt.keep hg fun k hk => World.putObj_heap_other (by rintro rfl; obtain ⟨_, _, hc⟩ := hk; rw [hl5] at hc; cases hc)⟩
  have hsz5 : W2.heap.size ≤ W5.heap.size := Nat.le_trans h24.size m5.bel.size
  have mA : Mt P glb (fun _ => False) X1 W5 st3 ρ3 a5 W5 := m5.reguard (fun _ h => h.elim) (.refl _ _) (fun _ _ _ _ _ _ _ _ _ h => h) (m5.dfr.noBk (fun _ h => h.elim))
  have mB := mA.putLoop hl5 (fun h => h) o
  have mC : Mt P glb Bk X1 w0 st3 ρ3 a5 (W5.putObj l o) := by
    refine mB.reguard mg.bk (mg.bel.trans (same.mono fun k hk => ⟨hBB k hk, fun hh => hBl (hh ▸ hk)⟩))
      (fun l' he s v k h1 h2 h3 h4 hk => (m5.nb l' he s v k h1 h2 h3).1 h4 (hBB k hk)) ?_
    refine (m5.dfr.keep (W' := W5.putObj l o) (fun D hD => World.putObj_heap_other (fun hh => ?_))).noBk hBB
    subst hh; rw [hl5] at hD; cases hD
  have mD : Mt P glb Bk XI w0 (strike st3 L) ρ3 a5 (W5.putObj l o) := by
    refine mC.struck ?_ (fun l' he s v k hne h1 h2 h3 hX => ?_) (fun k hk => ?_)
    · rintro k (h | ⟨l', he, s, v, h1, h2, h3⟩)
      · exact hX1 k h
      · exact .inr ⟨l', he, s, v, (other h1).2, h2, h3⟩
    · exact (m5.nb l' he s v k h1 h2 h3).1 (nln hne h1) (hIB k hX)
    · have := mg.x0 k hk
      simp only [World.putObj_size]; omega
  have ev : Evo (Xs sth ρg XI) W2 (Xs (strike st3 L) ρ3 XI) (W5.putObj l o) := by
    have ne : ∀ k, (∃ cs t fr, W2.heap[k]? = some (.cells cs t fr)) → k ≠ l := by
      rintro k ⟨cs, t, fr, hc⟩ rfl
      rw [hlW2] at hc; cases hc
    refine ⟨by simpa using hsz5, fun k hc hx => ?_, fun k hk hlt => ?_, mD.Xlt, fun mm xs hp hg => same.memo mm xs (hp.mono fun k hx hk hn => hn ⟨(hBk2 k).2 ⟨cells_lt hk, fun h => hx h.xs⟩, ne k hk⟩) hg⟩
    · exact same.block k ⟨(hBk2 k).2 ⟨cells_lt hc, fun h => hx (h.xs)⟩, ne k hc⟩ (noMap_cells hc)
    · rcases hk with hk | ⟨l', he, s, v, h1, h2, h3⟩
      · exact .inl hk
      · obtain ⟨hne, h1⟩ := other h1
        have hnb := (m5.nb l' he s v k h1 h2 h3).1 (nln hne h1)
        exact Classical.byContradiction fun hno => hnb ((hBk2 k).2 ⟨hlt, fun h => hno h.xs⟩)
  refine ⟨mD.retm (tm' := st.tm) (tmps' := tmps) (m0.size.trans hn.symm) (fun t => (m0.tms t).mono hle (hev.trans ev)) DefOK.nil, ev, same⟩

theorem sameStamp_some {a b : Option (HE × Nat)} {he : HE} {n : Nat} (h : sameStamp a b = true) (hb : b = some (he, n)) : ∃ he', a = some (he', n) := by
  subst hb
  cases a with
  | none => cases h
  | some p => obtain ⟨he', m⟩ := p; have := Nat.eq_of_beq_eq_true h; subst this; exact ⟨he', rfl⟩

theorem base_frm_back {st : St} {L : Nat} {st1 st2 st3 : St} {its : Items} {g : its.G} {wa wb : List Nat} (hok : its.ok st [] = true) (hoth : ∀ l, l ≠ L → st1.hp l = (its.head st [] g).hp l) (hcnt1 : st1.cnt = (its.head st [] g).cnt) (hn1 : st1.n = (its.head st [] g).n)
    (hf2 : Frm st1 st2 wa) (hf3 : Frm st2 st3 wb) : Frm st (backSt st L st3) [] := by
  have hh := head_frm (st0 := st) (wr := []) g hok
  refine ⟨hf3.n.trans (hf2.n.trans (hn1.trans hh.n)), Nat.le_trans hh.cnt (hcnt1 ▸ Nat.le_trans hf2.cnt hf3.cnt), fun _ _ => rfl, fun l he s h hs => ?_⟩
  have h' : updf st3.hp L none l = some (he, s) := h
  by_cases hl : l = L
  · subst hl; rw [updf_same] at h'; cases h'
  · rw [updf_other _ _ hl] at h'
    have e1 : st.cnt ≤ st1.cnt := by rw [hcnt1]; exact hh.cnt
    have h2 := hf3.hp l he s h' (Nat.le_trans hs (Nat.le_trans e1 hf2.cnt))
    have h1 := hf2.hp l he s h2 (Nat.le_trans hs e1)
    rw [hoth l hl] at h1
    exact hh.hp l he s h1 hs

theorem ahead_back {st : St} {L : Nat} {st1 st2 st3 : St} {its : Items} {g : its.G} {wa wb : List Nat} (hA : Ahead P st [] its st) (hLd : memL L st.dom = false) (hoth : ∀ l, l ≠ L → st1.hp l = (its.head st [] g).hp l) (hcnt1 : st1.cnt = (its.head st [] g).cnt) (hn1 : st1.n = (its.head st [] g).n)
    (hf2 : Frm st1 st2 wa) (hf3 : Frm st2 st3 wb) (hk : keptOK its.labs st1 st3 (its.labs ++ st.dom) = true) : Ahead P st [] its (backSt st L st3) := by
  refine ⟨hf3.n.trans (hf2.n.trans (hn1.trans rfl)), fun _ _ => rfl, fun l he s hb hl => ?_, hA.utm, hA.uhp⟩
  obtain ⟨hd, _, hs⟩ := hA.uhp l he s (base_some hb)
  have hne : l ≠ L := by rintro rfl; rw [hd] at hLd; cases hLd
  have hhd : st1.hp l = some (he, s) := (hoth l hne).trans ((hp_notlab hl).trans hb)
  show ∃ s', updf st3.hp L none l = some (he, s')
  rw [updf_other _ _ hne]
  rcases kept_spec hk l (by rw [memL_append, hd, Bool.or_true]) with h1 | h1
  · rw [hl] at h1; cases h1
  · obtain ⟨he', h3⟩ := sameStamp_some h1 hhd
    have e1 : s ≤ st1.cnt := by rw [hcnt1]; show s ≤ st.cnt + 1; omega
    have h2 := hf2.hp l he' s (hf3.hp l he' s h3 (Nat.le_trans e1 hf2.cnt)) e1
    rw [hhd] at h2; cases h2
    exact ⟨s, h3⟩

theorem rf_ok (hF : Wide F P) (hro : F.round = none) (hS : StatOK P S) (hct : CtOK P glb S) (hg : S.glb = glb) (an : Nat → Items) (id : Nat) (f : Operand) (ps : Array Tmp) (asg body : Code) (iha : VcAll P glb S an asg) (ihb : VcAll P glb S an body) :
    VcOK P glb Bk X0 w0 F n S an (.block id (.rangeFunc f ps asg body)) := by
  intro st ρ a W K m h
  simp only [vc] at h
  obtain ⟨hc, h⟩ := chk_iff.1 h
  simp only [Bool.and_eq_true, Bool.not_eq_true'] at hc
  obtain ⟨⟨⟨⟨⟨⟨hnd, hok⟩, hheap⟩, hnra⟩, hnrb⟩, hps⟩, hL⟩ := hc
  have hpsn : ∀ p, p ∈ ps.toList → p < st.n := fun p hp => by have := List.all_eq_true.1 hps p hp; simpa [Nat.blt_eq] using this
  rw [memL_append, Bool.or_eq_false_iff] at hL
  obtain ⟨c, hk, hv⟩ := oneC_ok h (ev_ok hS hg m 0 f)
  obtain ⟨A, xs, rfl, I, hget, hrounds, hend⟩ := seqC_ok hk
  obtain ⟨u, hu, _, _, hseq⟩ := hv
  cases hu
  have hA := m.ahead (an id) []
  refine wpIn_block (wpIn_rangeFunc fun fn hfn => ?_)
  rw [hro]
  obtain ⟨rec, hrec⟩ : ∃ rec : LoopState → Option Code → Loop, rec = fun st pe => { state := st, pending := pe, fn, tmps := a.tmps, params := ps, assign := asg, body, defers := W.heap.size } := ⟨_, rfl⟩
  obtain ⟨W1, hW1⟩ : ∃ W1, (W.alloc (.deferred (some []))).alloc (.loop (rec .ready none)) = W1 := ⟨_, rfl⟩
  have hL1 : W1.heap[W.heap.size + 1]? = some (.loop (rec .ready none)) := by
    rw [← hW1]; have := World.alloc_heap_new (W.alloc (.deferred (some []))) (.loop (rec .ready none)); rwa [World.size_alloc] at this
  have hK1 : W1.heap[W.heap.size]? = some (.deferred (some [])) := by
    rw [← hW1]; exact (Below.heap_alloc _ _ _ (by simp)).trans (World.alloc_heap_new W _)
  have hb1 : Below W.heap.size W W1 := by
    rw [← hW1]; exact (((Below.refl _ W).alloc (Nat.le_refl _) _).alloc (by simp) _)
  have hsz1 : W1.heap.size = W.heap.size + 2 := by rw [← hW1]; simp
  obtain ⟨l, hl⟩ : ∃ l, l = W.heap.size + 1 := ⟨_, rfl⟩
  rw [← hl] at hL1
  obtain ⟨Ds, hDs, hDnd, hDD⟩ := m.dfr
  have hDlt : ∀ D, D ∈ Ds → D < W.heap.size := fun D hD => (Array.getElem?_eq_some_iff.1 (hDD D hD).1).1
  have hBlt : ∀ k, Bk k → k < W.heap.size := fun k hk => Nat.lt_of_lt_of_le (m.bk k hk) m.bel.size
  have ev1 := m.evoBelow hb1
  have m1 := m.below hb1
  have m1' : Mt P glb Bk X0 w0 st ρ ⟨a.tmps, []⟩ W1 := m1.retm (tm' := st.tm) (tmps' := a.tmps) m1.size m1.tms DefOK.nil
  obtain ⟨gf, fi, cap, hfv, hent, hrun⟩ := hseq _ W1 ev1
  refine ⟨l, [{ target := .collected W.heap.size, args := #[] }], W1, { target := .fn (.func gf) cap, args := fi ++ #[.func (.yield l) #[] #[]] }, W1, gf,
    fi ++ #[.func (.yield l) #[] #[]] ++ cap, W1, ?_, ?_, fun f' _ => hF.fn f', ?_, fun hd => (by rw [hF.depth] at hd; cases hd), ?_⟩
  · rw [← hW1, hrec, hl]; exact run_enterLoop_outer _ _ _ _ _
  · simp only [resolve, hfv]
    simp [go_sem]
  · simp [invoke, go_sem, hent _ _]
  · obtain ⟨Q, hQ⟩ : ∃ Q, Q = Exit.inBlock id (PostX P glb Bk X0 w0 st ρ (codeWrites (.block id (.rangeFunc f ps asg body))) K) := ⟨_, rfl⟩
    rw [← hQ]
    obtain ⟨KX, hKX⟩ : ∃ KX : Xt → St → Prop, KX = fun xt st' => match xt with
      | .norm => False
      | .exit i => cond (Nat.beq i id) (K .norm st') (K (.exit i) st')
      | .ret => K .ret st' := ⟨_, rfl⟩
    have key := hrun 0 l (fun pre Ib W2 => RfI P glb Bk X0 w0 (an id) (fun g => (an id).app (I pre) g) st ρ a.tmps W1 (W.heap.size :: Ds) l (rec .ready none) Ib W2)
      (fun Ib W2 => RfX P glb Bk X0 w0 KX st ρ a.tmps (W.heap.size :: Ds) l (fun c => rec .done (some c)) Ib W2)
      (fun pre Ib W2 I' W3 h ht => h.turned ht (fun k hk => by have := hBlt k hk; omega) (fun D hD => by
        rcases List.mem_cons.1 hD with rfl | hD
        · omega
        · have := hDlt D hD; omega))
      (fun Ib W2 I' W3 h ht => h.turned ht (fun k hk => by have := hBlt k hk; omega) (fun D hD => by
        rcases List.mem_cons.1 hD with rfl | hD
        · omega
        · have := hDlt D hD; omega))
      ?_ ?_
    · refine hF.calls _ _ _ _ _ ((callsIn_wide.1 key).mono ?_)
      have hne : ∀ D, D ∈ W.heap.size :: Ds → D ≠ l ∧ ¬ Bk D := by
        intro D hD
        rcases List.mem_cons.1 hD with rfl | hD
        · exact ⟨by omega, fun hb => by have := hBlt _ hb; omega⟩
        · exact ⟨by have := hDlt D hD; omega, (hDD D hD).2⟩
      have hdef : ∀ (W2 : World) (o : Obj), (∀ D, D ∈ W.heap.size :: Ds → W2.heap[D]? = some (.deferred (some []))) → DefOK Bk (W2.putObj l o) ([{ target := .collected W.heap.size, args := #[] }] ++ a.defers) := by
        intro W2 o hd
        refine ⟨W.heap.size :: Ds, by rw [hDs]; rfl, List.nodup_cons.2 ⟨fun hm => by have := hDlt _ hm; omega, hDnd⟩, fun D hD => ⟨(World.putObj_heap_other (hne D hD).1).trans (hd D hD), (hne D hD).2⟩⟩
      have hBl : ¬ Bk l := fun hb => by have := hBlt _ hb; omega
      have hsub : ∀ t, t ∈ ([] : List Nat) → t ∈ codeWrites (.block id (.rangeFunc f ps asg body)) := fun t ht => by simp at ht
      rintro e W2 ⟨⟨v, rfl⟩, Ib, hJ | hJ⟩
      · obtain ⟨g, ρg, hI, mg, hle, hev⟩ := hJ.ex
        refine ⟨none, _, (by have := run_endLoop (P := P) hJ.lp (by rw [hrec]; simp); rw [hrec] at this; exact this), ?_⟩
        have mE := (mg.freeX (X0 := X0) (fun k hk => .inl hk)).putLoop hJ.lp hBl (.loop { rec .ready none with state := .exhausted })
        have mF := mE.retm (tm' := ((an id).head st [] g).tm) (tmps' := a.tmps) mE.size mE.tms (hdef W2 _ hJ.dfr)
        rw [hQ]
        exact ⟨.norm, (an id).head st [] g, ρg, rfl, All_spec hend g hI, ⟨(head_frm g hok).sub hsub, hle⟩, by rw [hrec] at mF; exact mF⟩
      · obtain ⟨xt, c, st', ρ', hc, hk, hf, hle, mg, hlp⟩ := hJ.ex
        refine ⟨some c, _, (by have := run_endLoop (P := P) hlp (by rw [hrec]; simp); rw [hrec] at this; exact this), ?_⟩
        have mE := (mg.freeX (X0 := X0) (fun k hk => .inl hk)).putLoop hlp hBl (.loop { rec .done (some c) with state := .exhausted })
        have mF := mE.retm (tm' := st'.tm) (tmps' := a.tmps) mE.size mE.tms (hdef W2 _ hJ.dfr)
        rw [hrec] at mF
        rw [hKX] at hk
        rcases hc with ⟨rfl, rfl⟩ | ⟨i, rfl, rfl⟩
        · refine wpIn_ret ?_
          rw [hQ]
          exact ⟨.ret, st', ρ', rfl, hk, ⟨hf.sub hsub, hle⟩, mF⟩
        · refine wpIn_exit ?_
          rw [hQ]
          show if i = id then _ else _
          have hk' : cond (Nat.beq i id) (K .norm st') (K (.exit i) st') := hk
          by_cases hi : i = id
          · subst hi
            rw [if_pos rfl]
            rw [Nat.beq_refl, cond_true] at hk'
            exact ⟨.norm, st', ρ', rfl, hk', ⟨hf.sub hsub, hle⟩, mF⟩
          · rw [if_neg hi]
            rw [beq_ne hi, cond_false] at hk'
            exact ⟨.exit i, st', ρ', rfl, hk', ⟨hf.sub hsub, hle⟩, mF⟩
    ·
      rintro pre x rest Ib W2 vs hxs hJ hlow hWs hvals
      obtain ⟨g, ρg, hIg, mg, hle, hev⟩ := hJ.ex
      obtain ⟨st1, hst1, hvc⟩ := optK_ok (All_spec (hrounds pre x rest hxs) g hIg)
      have mr := mg.rebase
      have hLh : memL (id * 100 + 90) ((an id).head st [] g).dom = false := by show memL _ ((an id).labs ++ st.dom) = false; rw [memL_append, hL.1, hL.2]; rfl
      obtain ⟨ρ1, X1, hle1, m2, hoth, hcnt1, hn1, hX1, hLc⟩ := round_ok mr hLh (I := Ib) (fun k hk => .inr hk) hst1 hvals hpsn
      have hsz := roundSt_len hst1 hvals
      have hy := run_yield (P := P) (args := vs.toArray) hJ.lp (by rw [hrec]; simp [hsz])
      have htm : (((rec .ready none).params.zip vs.toArray).foldl (fun tmps (x : Nat × Value) => tmps.setIfInBounds x.1 x.2) (rec .ready none).tmps) = layTm a.tmps ps.toList vs := by
        rw [hrec, ← foldl_layTm, ← Array.foldl_toList]
        simp
      rw [htm] at hy
      obtain ⟨Bk2, hBk2⟩ : ∃ Bk2 : Nat → Prop, Bk2 = fun k => k < W2.heap.size ∧ ¬ OwnWr ((an id).head st [] g) ρg k := ⟨_, rfl⟩
      rw [← hBk2] at m2
      have hBi : ∀ k, Bk2 k ↔ k < W2.heap.size ∧ ¬ OwnWr ((an id).head st [] g) ρg k := fun k => by rw [hBk2]
      have notCells : ∀ {k : Nat} {o : Obj}, W2.heap[k]? = some o → (∀ cs t fr, o ≠ .cells cs t fr) → Bk2 k := by
        intro k o ho hno
        refine (hBi k).2 ⟨(Array.getElem?_eq_some_iff.1 ho).1, fun ⟨l', he, s, v, h1, h2, h3, _⟩ => ?_⟩
        obtain ⟨v', hv', hok'⟩ := mg.hps l' he s h1
        rw [h2] at hv'; cases hv'
        obtain ⟨cs, t, fr, hc⟩ := hok'.cells h3
        rw [ho] at hc; cases hc; exact hno _ _ _ rfl
      have hBl2 : Bk2 l := notCells hJ.lp (fun _ _ _ h => by cases h)
      have hfnr : rec .ready none = { state := .ready, pending := none, fn, tmps := a.tmps, params := ps, assign := asg, body, defers := W.heap.size } := by rw [hrec]
      refine ⟨fn, _, asg, body, (by rw [hfnr] at hy; exact hy), roundIn_of_wpIn trivial ?_⟩
      refine wpIn_mono (iha _ _ W2 (Fence.wide.inRound l) 0 (Wide.inRound P l) (.inr hnra) st1 ρ1 _ W2 _ m2 hvc) ?_
      rintro e a2 W3 ⟨y, st2, ρ2, rfl, hk2, hf2, m3⟩
      cases y with
      | exit i => exact hk2.elim
      | ret => exact hk2.elim
      | norm =>
      have hl3 : W3.heap[l]? = some (.loop (rec .ready none)) := (m3.bel.block l hBl2 (fun es c hc => by rw [hJ.lp] at hc; cases hc)).trans hJ.lp
      refine ⟨_, run_beginRound hl3 (by rw [hrec]), ?_⟩
      obtain ⟨W4, hW4⟩ : ∃ W4, W3.putObj l (.loop { rec .ready none with state := .busy }) = W4 := ⟨_, rfl⟩
      rw [hW4]
      have m4 : Mt P glb Bk2 X1 W4 st2 ρ2 a2 W4 := by
        have mA : Mt P glb (fun _ => False) X1 W3 st2 ρ2 a2 W3 := m3.reguard (fun _ h => h.elim) (.refl _ _) (fun _ _ _ _ _ _ _ _ _ h => h) (m3.dfr.noBk (fun _ h => h.elim))
        have mB := mA.putLoop hl3 (fun h => h) (.loop { rec .ready none with state := .busy })
        rw [hW4] at mB
        refine mB.reguard (fun k hk => ?_) (.refl _ _) (fun l' he s v k h1 h2 h3 h4 => (m3.nb l' he s v k h1 h2 h3).1 h4) ?_
        · have := m3.bk k hk
          have := m3.bel.size
          rw [← hW4, World.putObj_size]; omega
        · refine m3.dfr.keep (fun D hD => ?_)
          rw [← hW4]
          exact World.putObj_heap_other (fun hh => by subst hh; rw [hl3] at hD; cases hD)
      refine wpIn_mono (ihb Bk2 X1 W4 (Fence.wide.inRound l) 0 (Wide.inRound P l) (.inr hnrb) st2 ρ2 a2 W4 _ m4 hk2) ?_
      rintro e a5 W5 ⟨z, st3, ρ3, rfl, hk3, hf3, m5⟩
      obtain ⟨hck, hk3⟩ := chk_iff.1 hk3
      simp only [Bool.and_eq_true] at hck
      obtain ⟨hst, hnl⟩ := hck
      have hl4 : W4.heap[l]? = some (.loop { rec .ready none with state := .busy }) := by
        rw [← hW4]; exact World.putObj_heap_same (Array.getElem?_eq_some_iff.1 hl3).1
      have hl5 : W5.heap[l]? = some (.loop { rec .ready none with state := .busy }) := (m5.bel.block l hBl2 (fun es c hc => by rw [hl4] at hc; cases hc)).trans hl4
      have h24 : Bel (fun k => Bk2 k ∧ k ≠ l) W2 W4 := by
        rw [← hW4]
        exact (m3.bel.mono fun k hk => hk.1).trans ⟨rfl, rfl, rfl, by simp, fun k hk _ => World.putObj_heap_other hk.2, fun mm xs _ hg => GoodAt.keep hg fun k hk => World.putObj_heap_other (by rintro rfl; obtain ⟨_, _, hc⟩ := hk; rw [hl3] at hc; cases hc)⟩
      have hX13 : ∀ k, (X0 k ∨ Ib k) → Xs st3 ρ3 X1 k := by
        intro k hk
        rcases hLc with ⟨rfl, _⟩ | ⟨he, v, h1, h2, h3, rfl⟩
        · exact .inl hk
        · by_cases hb : ownBlk he v = some k
          · obtain ⟨he', h4⟩ := sameStamp_some hst h1
            have e1 : ((an id).head st [] g).cnt ≤ st1.cnt := by rw [hcnt1]; exact Nat.le_refl _
            have h5 := hf2.1.hp _ he' _ (hf3.1.hp _ he' _ h4 (Nat.le_trans e1 hf2.1.cnt)) e1
            rw [h1] at h5; cases h5
            exact .inr ⟨_, he, _, v, h4, hf3.2 _ _ (hf2.2 _ _ h3), .inl hb⟩
          · exact .inl ⟨hk, hb⟩
      have hle3 : ρ.le ρ3 := fun l' v hv => hf3.2 _ _ (hf2.2 _ _ (hle1 _ _ (hle _ _ hv)))
      have fin : ∀ (jump : Option Code), (Instr.endRound l jump).run P W5 = .ok (.bool jump.isNone) (W5.putObj l (.loop (rec (if jump.isNone then .ready else .done) jump))) ∧
          Mt P glb Bk (fun k => X0 k ∨ Ib k) w0 (backSt st (id * 100 + 90) st3) ρ3 ⟨a.tmps, []⟩ (W5.putObj l (.loop (rec (if jump.isNone then .ready else .done) jump))) ∧
          Evo (Xs ((an id).head st [] g) ρg (fun k => X0 k ∨ Ib k)) W2 (Xs (backSt st (id * 100 + 90) st3) ρ3 (fun k => X0 k ∨ Ib k)) (W5.putObj l (.loop (rec (if jump.isNone then .ready else .done) jump))) ∧
          (W5.putObj l (.loop (rec (if jump.isNone then .ready else .done) jump))).heap[l]? = some (.loop (rec (if jump.isNone then .ready else .done) jump)) ∧
          (∀ D, D ∈ W.heap.size :: Ds → (W5.putObj l (.loop (rec (if jump.isNone then .ready else .done) jump))).heap[D]? = some (.deferred (some []))) ∧
          Kept (Xs st ρ X0) W1 Ib W2 (W5.putObj l (.loop (rec (if jump.isNone then .ready else .done) jump))) := by
        intro jump
        have hr := run_endRound (P := P) jump hl5
        have hrr : ({ ({ rec .ready none with state := .busy } : Loop) with state := if jump.isNone then .ready else .done, pending := jump } : Loop) = rec (if jump.isNone then .ready else .done) jump := by rw [hrec]
        rw [hrr] at hr
        obtain ⟨mE, ev6, same⟩ := round_end (o := .loop (rec (if jump.isNone then .ready else .done) jump)) m1' hev hle3 (hf3.1.n.trans (hf2.1.n.trans (hn1.trans rfl))) mg hBi m5 h24 hl4 hJ.lp hBl2 (fun hb => by have := hBlt _ hb; omega) hX13 hnl
        have hneD : ∀ D, D ∈ W.heap.size :: Ds → D ≠ l := by
          intro D hD
          rcases List.mem_cons.1 hD with rfl | hD
          · omega
          · have := hDlt D hD; omega
        refine ⟨hr, mE, ev6, World.putObj_heap_same (Array.getElem?_eq_some_iff.1 hl5).1, fun D hD => (same.block D ⟨notCells (hJ.dfr D hD) (fun _ _ _ h => by cases h), hneD D hD⟩ (fun es c hc => by rw [hJ.dfr D hD] at hc; cases hc)).trans (hJ.dfr D hD), ?_⟩
        have ne : ∀ k, (∃ cs t fr, W2.heap[k]? = some (.cells cs t fr)) → k ≠ l := by
          rintro k ⟨cs, t, fr, hc⟩ rfl
          rw [hJ.lp] at hc; cases hc
        have inI : ∀ k, Ib k → Bk2 k ∧ k ≠ l := fun k hk => ⟨(hBi k).2 ⟨mg.x0 k (.inr hk), fun ⟨l', he, s, v, h1, h2, h3, _⟩ => (mg.nb l' he s v k h1 h2 h3).2 (.inr hk)⟩, by have := hJ.low k hk; omega⟩
        have inO : ∀ k, (∃ cs t fr, W2.heap[k]? = some (.cells cs t fr)) → k < W1.heap.size → ¬ Xs st ρ X0 k → Bk2 k ∧ k ≠ l := fun k hc hlt hx => ⟨(hBi k).2 ⟨cells_lt hc, fun ho => hev.notIn hx hlt ho.xs⟩, ne k hc⟩
        refine ⟨same.os, same.tape, same.output, ev6.size, fun k hk hn => same.block k (inI k hk) hn, fun k hc hlt hx => same.block k (inO k hc hlt hx) (noMap_cells hc), fun mm xs hp hg => same.memo mm xs (hp.mono fun k hx hc hn => hx ?_) hg⟩
        rintro (h | h)
        · exact hn (inI k h)
        · exact hn (inO k hc h.1 h.2)
      have frmB : Frm st (backSt st (id * 100 + 90) st3) [] := base_frm_back (g := g) hok hoth hcnt1 hn1 hf2.1 hf3.1
      cases z with
      | norm =>
        obtain ⟨hkept, hget'⟩ := chk_iff.1 hk3
        obtain ⟨hr, mE, ev6, hlp6, hd6, hK6⟩ := fin none
        refine ⟨_, _, hr, .inl ⟨rfl, ?_, hK6⟩⟩
        obtain ⟨g', ρ', hI', mh', hold', hXh'⟩ := mE.head hct (an id) [] (ahead_back hA hL.2 hoth hcnt1 hn1 hf2.1 hf3.1 hkept) hnd hok hget'
        exact ⟨⟨g', ρ', hI', mh', fun l' v hv => by rw [hold' l' (m.dom l' v hv)]; exact hle3 l' v hv, (hev.trans ev6).trans (Evo.mono mh'.Xlt hXh')⟩, hlp6, hd6, hJ.low⟩
      | exit i =>
        obtain ⟨hr, mE, ev6, hlp6, hd6, hK6⟩ := fin (some (.exit i))
        refine ⟨_, _, hr, .inr ⟨rfl, ⟨⟨.exit i, .exit i, _, ρ3, .inr ⟨i, rfl, rfl⟩, by rw [hKX]; exact hk3, frmB, hle3, mE, hlp6⟩, hd6, hJ.low⟩, hK6⟩⟩
      | ret =>
        obtain ⟨hr, mE, ev6, hlp6, hd6, hK6⟩ := fin (some .ret)
        refine ⟨_, _, hr, .inr ⟨rfl, ⟨⟨.ret, .ret, _, ρ3, .inl ⟨rfl, rfl⟩, by rw [hKX]; exact hk3, frmB, hle3, mE, hlp6⟩, hd6, hJ.low⟩, hK6⟩⟩
    ·
      obtain ⟨g, ρh, hI, mh, hold, hXh⟩ := m1'.head hct (an id) [] hA hnd hok hget
      have mi := mh.freeX (X0 := fun k => X0 k ∨ False) (fun k hk => hk.elim (fun h => h) False.elim)
      refine ⟨⟨g, ρh, hI, mi, fun l v hv => by rw [hold l (m.dom l v hv)]; exact hv, Evo.mono mi.Xlt (fun k hk => hXh k ?_)⟩, hL1, fun D hD => ?_, fun k hk => hk.elim⟩
      · rcases hk with (hk | hk) | hk
        · exact .inl hk
        · exact hk.elim
        · exact .inr hk
      · rcases List.mem_cons.1 hD with rfl | hD
        · exact hK1
        · exact (hb1.block D (hDlt D hD)).trans (hDD D hD).1
theorem oneB_get {v : SV} {k : Bool → Prop} (h : oneB v k) : ∃ b, v = .mk false [.d .bool b] ∧ k b := by
  unfold oneB at h
  split at h
  · exact ⟨_, rfl, h⟩
  · exact h.elim
theorem known_eq {S : Stat} {st : St} {c : Operand} {b : Bool} (h : ev S st 0 c = .mk false [.d .bool b]) : known st c b = st := by
  cases c with
  | tmp t =>
    have h : st.tm t = .mk false [.d .bool b] := h
    have : updf st.tm t (.mk false [.d .bool b]) = st.tm := by
      funext i
      unfold updf
      cases hi : Nat.beq i t with
      | true => rw [Nat.eq_of_beq_eq_true hi]; exact h.symm
      | false => rfl
    exact congrArg (fun f => ({ st with tm := f } : St)) this
  | const => rfl
  | global => rfl
  | func => rfl
theorem rfOr {F : Fence} {x y z : Code} (h : F.round = none ∨ noRF z = true) (hz : noRF z = (noRF x && noRF y)) : (F.round = none ∨ noRF x = true) ∧ (F.round = none ∨ noRF y = true) := by
  rcases h with h | h
  · exact ⟨.inl h, .inl h⟩
  · rw [hz, Bool.and_eq_true] at h
    exact ⟨.inr h.1, .inr h.2⟩

def runR (S : Stat) (id : Nat) (ops : List Oper) (draw : Bool) (st : St) (k : St → Prop) : Prop :=
  match draw with
  | false => vcOps S ops (id * 100) ops 0 st k
  | true => runAny S ops (id * 100) st k
theorem vc_ok_all (hS : StatOK P S) (hct : CtOK P glb S) (hg : S.glb = glb) (an : Nat → Items) (c : Code) : VcAll P glb S an c ∧ (∀ b, c = .loop b → VcAll P glb S an b) ∧ ∀ f ps x y, c = .rangeFunc f ps x y → VcAll P glb S an x ∧ VcAll P glb S an y := by
  have no : ∀ {c : Code}, (∀ b, c ≠ .loop b) → (∀ f ps x y, c ≠ .rangeFunc f ps x y) → VcAll P glb S an c → VcAll P glb S an c ∧ (∀ b, c = .loop b → VcAll P glb S an b) ∧ ∀ f ps x y, c = .rangeFunc f ps x y → VcAll P glb S an x ∧ VcAll P glb S an y :=
    fun h1 h2 h => ⟨h, fun b hb => absurd hb (h1 b), fun f ps x y hb => absurd hb (h2 f ps x y)⟩
  induction c with
  | skip => refine no (fun _ h => by cases h) (fun _ _ _ _ h => by cases h) (fun Bk X0 w0 F n hF hrf st ρ a W K m h => wpIn_skip ⟨.norm, st, ρ, rfl, h, ⟨Frm.refl _ _, ρ.le_refl⟩, m⟩)
  | exit id => refine no (fun _ h => by cases h) (fun _ _ _ _ h => by cases h) (fun Bk X0 w0 F n hF hrf st ρ a W K m h => wpIn_exit ⟨.exit id, st, ρ, rfl, h, ⟨Frm.refl _ _, ρ.le_refl⟩, m⟩)
  | ret => refine no (fun _ h => by cases h) (fun _ _ _ _ h => by cases h) (fun Bk X0 w0 F n hF hrf st ρ a W K m h => wpIn_ret ⟨.ret, st, ρ, rfl, h, ⟨Frm.refl _ _, ρ.le_refl⟩, m⟩)
  | region id ops draw =>
    refine no (fun _ h => by cases h) (fun _ _ _ _ h => by cases h) (fun Bk X0 w0 F n hF hrf st ρ a W K m h => ?_)
    have base : ∀ K' : Xt → St → Prop, runR S id ops.toList draw st (K' .norm) → (Code.region id ops draw).wpIn F n P (PostX P glb Bk X0 w0 st ρ (codeWrites (.region id ops draw)) K') a W := by
      intro K' h
      cases draw with
      | false =>
        refine wpIn_region_list ?_
        have := vcOps_ok (F := F) (n := n) hF hS hct hg ops.toList (id * 100) (K' .norm) (PostX P glb Bk X0 w0 st ρ (codeWrites (.region id ops false)) K') st ρ (codeWrites (.region id ops false)) (fun j o d ho hd => mem_filterMap_dst ho hd)
          (fun a W hp => let ⟨st', ρ', h1, h2, h3⟩ := hp; ⟨.norm, st', ρ', rfl, h1, h2, h3⟩) ops.toList 0 st ρ a W (fun j => by rw [Nat.zero_add]) ⟨Frm.refl _ _, ρ.le_refl⟩ m h
        simpa using this
      | true =>
        have h : runAny S ops.toList (id * 100) st (K' .norm) := h
        unfold runAny at h
        split at h
        · exact vcAny_ok hF hS hct hg id ops (id * 100) (K' .norm) _ (codeWrites (.region id ops true)) (fun j o d ho hd => mem_filterMap_dst ho hd) m h
            (fun a W hp => let ⟨st', ρ', h1, h2, h3⟩ := hp; ⟨.norm, st', ρ', rfl, h1, h2, h3⟩)
        · rename_i p _
          obtain ⟨hpv, h⟩ := chk_iff.1 h
          exact vcLook_ok hF hS hct hg id ops (id * 100) p (K' .norm) _ (codeWrites (.region id ops true)) (fun j o d ho hd => mem_filterMap_dst ho hd) m hpv h
            (fun a W hp => let ⟨st', ρ', h1, h2, h3⟩ := hp; ⟨.norm, st', ρ', rfl, h1, h2, h3⟩)
    have hj : joinS S (an (1000000 + id)) st (ops.toList.filterMap (·.dst)) (runR S id ops.toList draw st) (K .norm) := by
      cases draw with
      | false => exact h
      | true => exact h
    generalize an (1000000 + id) = its at hj
    cases its with
    | nil => exact base K hj
    | cons i r =>
      obtain ⟨hc, I, h1, h2⟩ := chk_iff.1 hj
      simp only [Bool.and_eq_true] at hc
      exact wpIn_mono (base (thruK K fun st' => chk (keptOK (Items.labs (i :: r)) st st' (Items.labs (i :: r) ++ st.dom)) <| Items.get S (Items.kept (i :: r) st) st' (i :: r) [] fun g => Items.app (i :: r) I g) h1) (fun e a1 W1 hp => join_post hct m hc.1 hc.2 h2 hp)
  | seq x y ihx ihy =>
    refine no (fun _ h => by cases h) (fun _ _ _ _ h => by cases h) (fun Bk X0 w0 F n hF hrf st ρ a W K m h => ?_)
    refine wpIn_seq (wpIn_mono (ihx.1 Bk X0 w0 F n hF (rfOr hrf rfl).1 st ρ a W _ m h) ?_)
    rintro e a1 W1 ⟨xt, st1, ρ1, rfl, hk, hf, m1⟩
    have hfx : Frm st st1 (codeWrites x ++ codeWrites y) ∧ ρ.le ρ1 := ⟨hf.1.sub (fun t ht => List.mem_append.2 (.inl ht)), hf.2⟩
    cases xt with
    | norm =>
      refine wpIn_mono (ihy.1 Bk X0 w0 F n hF (rfOr hrf rfl).2 st1 ρ1 a1 W1 K m1 hk) ?_
      rintro e a2 W2 ⟨xt2, st2, ρ2, he, hk2, hf2, m2⟩
      exact ⟨xt2, st2, ρ2, he, hk2, ⟨hfx.1.trans (hf2.1.sub (fun t ht => List.mem_append.2 (.inr ht))), hfx.2.trans hf2.2⟩, m2⟩
    | exit i => exact ⟨.exit i, st1, ρ1, rfl, hk, hfx, m1⟩
    | ret => exact ⟨.ret, st1, ρ1, rfl, hk, hfx, m1⟩
  | cond c x y ihx ihy =>
    refine no (fun _ h => by cases h) (fun _ _ _ _ h => by cases h) (fun Bk X0 w0 F n hF hrf st ρ a W K m h => ?_)
    have base : ∀ K' : Xt → St → Prop, (oneB (ev S st 0 c) fun b => cnd b (vc S an x (known st c true) K') (vc S an y (known st c false) K')) → (Code.cond c x y).wpIn F n P (PostX P glb Bk X0 w0 st ρ (codeWrites (.cond c x y)) K') a W := by
      intro K h
      obtain ⟨b, he0, hk⟩ := oneB_get h
      obtain ⟨b', hbb, hv⟩ := oneB_ok (k := fun x => x = b) (by rw [he0]; exact rfl) (ev_ok hS hg m 0 c)
      obtain ⟨k1, k2⟩ := cnd_iff.1 hk
      subst hbb
      replace k1 : b' = true → vc S an x st K := fun hb => by have := k1 hb; rwa [← hb, known_eq he0] at this
      replace k2 : b' = false → vc S an y st K := fun hb => by have := k2 hb; rwa [← hb, known_eq he0] at this
      refine wpIn_cond_split hv (fun hb => ?_) (fun hb => ?_)
      · refine wpIn_mono (ihx.1 Bk X0 w0 F n hF (rfOr hrf rfl).1 st ρ a W K m (k1 hb)) ?_
        rintro e a1 W1 ⟨xt, st1, ρ1, he, hk, hf, m1⟩
        exact ⟨xt, st1, ρ1, he, hk, ⟨hf.1.sub (fun t ht => List.mem_append.2 (.inl ht)), hf.2⟩, m1⟩
      · refine wpIn_mono (ihy.1 Bk X0 w0 F n hF (rfOr hrf rfl).2 st ρ a W K m (k2 hb)) ?_
        rintro e a1 W1 ⟨xt, st1, ρ1, he, hk, hf, m1⟩
        exact ⟨xt, st1, ρ1, he, hk, ⟨hf.1.sub (fun t ht => List.mem_append.2 (.inr ht)), hf.2⟩, m1⟩
    simp only [vc] at h
    generalize an (2000000 + firstR x) = its at h
    cases its with
    | nil => exact base K h
    | cons i r =>
      obtain ⟨hc, I, h1, h2⟩ := chk_iff.1 h
      simp only [Bool.and_eq_true] at hc
      exact wpIn_mono (base _ h1) (fun e a1 W1 hp => join_post hct m hc.1 hc.2 h2 hp)
  | block id c ih =>
    refine no (fun _ h => by cases h) (fun _ _ _ _ h => by cases h) (fun Bk X0 w0 F n hF hrf => ?_)
    by_cases hc : ∃ b, c = .loop b
    · obtain ⟨b, rfl⟩ := hc
      exact loop_ok hct an id b (ih.2.1 b rfl Bk X0 w0 F n hF hrf)
    by_cases hrf2 : ∃ f ps x y, c = .rangeFunc f ps x y
    · obtain ⟨f, ps, x, y, rfl⟩ := hrf2
      have h2 := ih.2.2 f ps x y rfl
      exact rf_ok hF (hrf.resolve_right (by simp [noRF])) hS hct hg an id f ps x y h2.1 h2.2
    · intro st ρ a W K m h
      have hc2 : ∀ f ps x y, c ≠ .rangeFunc f ps x y := fun f ps x y hb => hrf2 ⟨f, ps, x, y, hb⟩
      have hc' : ∀ b, c ≠ .loop b := fun b hb => hc ⟨b, hb⟩
      rw [vc_block an id c K hc' hc2] at h
      refine wpIn_block (wpIn_mono (ih.1 Bk X0 w0 F n hF hrf st ρ a W _ m h) ?_)
      intro e a W hp
      refine block_post (id := id) (K := K) (wr := codeWrites c) ?_ ?_ ?_ ?_ e a W hp
      · exact fun e a W hp => hp
      · exact fun st' hk => hk
      · exact fun i st' hk => hk
      · exact fun st' hk => hk
  | loop c ih => exact ⟨fun Bk X0 w0 F n hF hrf st ρ a W K m h => h.elim, (fun b hb => by cases hb; exact fun Bk X0 w0 F n hF hrf => ih.1 Bk X0 w0 F n hF hrf), (fun f ps x y hb => by cases hb)⟩
  | rangeFunc f ps x y ihx ihy => exact ⟨fun Bk X0 w0 F n hF hrf st ρ a W K m h => h.elim, (fun b hb => by cases hb), (fun f ps x y hb => by cases hb; exact ⟨ihx.1, ihy.1⟩)⟩
  | scope c ih => refine no (fun _ h => by cases h) (fun _ _ _ _ h => by cases h) (fun Bk X0 w0 F n hF hrf st ρ a W K m h => h.elim)
  | label l => refine no (fun _ h => by cases h) (fun _ _ _ _ h => by cases h) (fun Bk X0 w0 F n hF hrf st ρ a W K m h => h.elim)
  | goto l => refine no (fun _ h => by cases h) (fun _ _ _ _ h => by cases h) (fun Bk X0 w0 F n hF hrf st ρ a W K m h => h.elim)
  | refuse s => refine no (fun _ h => by cases h) (fun _ _ _ _ h => by cases h) (fun Bk X0 w0 F n hF hrf st ρ a W K m h => h.elim)

theorem vc_ok (hF : Wide F P) (hrf : F.round = none) (hS : StatOK P S) (hct : CtOK P glb S) (hg : S.glb = glb) (an : Nat → Items) (c : Code) : VcOK P glb Bk X0 w0 F n S an c := (vc_ok_all hS hct hg an c).1 Bk X0 w0 F n hF (.inl hrf)
end
end Go.GX
set_option linter.unusedVariables false
namespace Go.GX
variable [Inhabited BaseD]
open Go.RowKit Go.Shelf Go.Proofs

theorem argsSV_length : ∀ (K : Kd) (x : K.T), (argsSV K x).length = K.ar
  | .pair A B, x => by simp [argsSV, Kd.ar, argsSV_length B]
  | .unit, _ => rfl
  | .agg K, x => rfl
  | .int k, x => rfl
  | .bool, x => rfl
  | .str, x => rfl
  | .sl e K, x => rfl
  | .nsl e K, x => rfl
  | .fn A R, x => rfl
  | .ptr t K, x => rfl
  | .seq A, x => rfl
  | .mem A, x => rfl

theorem tmOf_append (l1 l2 : List SV) : ∀ i, tmOf (l1 ++ l2) i = if i < l1.length then tmOf l1 i else tmOf l2 (i - l1.length) := by
  induction l1 with
  | nil => intro i; simp
  | cons s r ih =>
    intro i
    cases i with
    | zero => simp [tmOf]
    | succ i =>
      simp only [List.cons_append, tmOf, List.length_cons, Nat.succ_lt_succ_iff, Nat.add_sub_add_right]
      exact ih i

theorem tmOf_past : ∀ (l : List SV) (i : Nat), l.length ≤ i → tmOf l i = .any
  | [], i, _ => by cases i <;> rfl
  | s :: r, 0, h => by simp at h
  | s :: r, i + 1, h => tmOf_past r i (by simpa using h)

section
variable {P : Program} {glb : Nat → Option GV} {Bk X0 : Nat → Prop} {w0 : World} {st : St} {ρ : Lab} {a : Act} {W : World} {S : Stat}

def resOne (tmps : Array Value) : ResultVar → Sem Value
  | .tmp t => pure (tmps.getD t undef)
  | .cell c t => do loadVar t (← asAddr (tmps.getD c undef))

theorem resSV_ok (hS : StatOK P S) (m : Mt P glb Bk X0 w0 st ρ a W) (rv : ResultVar) (h : resSV S st rv ≠ .any) : ∃ v, (resOne a.tmps rv).run P W = .ok v W ∧ RepV P ρ (Xs st ρ X0) W (resSV S st rv) v := by
  cases rv with
  | tmp t => exact ⟨_, rfl, m.tms t⟩
  | cell c t =>
    simp only [resSV] at h ⊢
    cases hi : S.ty t with
    | none => rw [hi] at h; exact absurd rfl h
    | some i =>
      rw [hi] at h
      simp only at h ⊢
      have hv := m.tms c
      split at h
      · rename_i sc hsc
        rw [hsc] at hv
        obtain ⟨c', hc', hrc⟩ := hv
        cases hc'
        split at h
        · rename_i cs hcs
          cases hn : Nat.ble i.kd.n cs.length with
          | false => rw [hn] at h; exact absurd rfl h
          | true =>
            have hn := Nat.le_of_ble_eq_true hn
            simp only [cond_true]
            obtain ⟨ad, us, he, hr, hcell⟩ := cellsAt_ok m hcs hrc
            have hlen := hr.length
            have hsz := run_sizeOf hS hi W
            obtain ⟨harg, _, hagg⟩ := hS.ty t i hi
            have hagg := hagg W
            have hr' := hr.take i.kd.n
            cases hb : i.kd.isAgg with
            | true =>
              rw [hb] at hagg
              have hl : (loadCells ad (us.take i.kd.n).length).run P W = .ok (us.take i.kd.n).toArray W := run_loadCells_list W ad _ (fun j v hv => by
                rw [List.getElem?_take] at hv
                split at hv
                · exact hcell j v hv
                · cases hv)
              rw [List.length_take, Nat.min_eq_left (by omega)] at hl
              refine ⟨.agg (us.take i.kd.n).toArray, ?_, _, rfl, hr'⟩
              simp only [resOne, he]
              simp only [asAddr, loadVar, Sem.run_bind, Sem.run_pure, Result.andThen_ok, hagg, if_true, hsz, hl]
            | false =>
              rw [hb] at hagg
              have h1 := kd_n_one harg hb
              rw [h1] at hn hr' ⊢
              cases us with
              | nil => simp at hlen; omega
              | cons u us =>
                cases cs with
                | nil => simp at hn
                | cons c0 cs =>
                  obtain ⟨v0, vs0, hv0, hrc', _⟩ := hr
                  cases hv0
                  have hc0 := hcell 0 u rfl
                  rw [addZero] at hc0
                  refine ⟨u, ?_, c0, rfl, hrc'⟩
                  simp only [resOne, he]
                  simp [asAddr, loadVar, hagg, run_load, hc0]
        · exact absurd rfl h
      · exact absurd rfl h

theorem decArgs_any {d1 : (K : Kd) → SC → Option (K.T × List Nat)} : ∀ (K : Kd) (ss : List SV) (x : K.T) (ls : List Nat), decArgs d1 K ss = some (x, ls) → ∀ s, s ∈ ss → s ≠ .any := by
  have single : ∀ (K : Kd) (ss : List SV) (x : K.T) (ls : List Nat), decArg d1 K ss = some (x, ls) → ∀ s, s ∈ ss → s ≠ .any := by
    intro K ss x ls h s hs
    unfold decArg at h
    split at h
    · rcases List.mem_singleton.1 hs with rfl
      simp
    · cases h
  intro K
  induction K with
  | unit =>
    intro ss x ls h s hs
    cases ss with
    | nil => simp at hs
    | cons s' r => cases s' <;> cases h
  | pair A B ihA ihB =>
    intro ss x ls h s hs
    cases ss with
    | nil => simp at hs
    | cons s' r =>
      cases s' with
      | mk ag cs =>
        rcases List.mem_cons.1 hs with rfl | hs
        · simp
        · simp only [decArgs] at h
          split at h
          · split at h
            · rename_i y l hd
              cases hr : decArgs d1 B r with
              | none => rw [hr] at h; cases h
              | some q => exact ihB r q.1 q.2 hr s hs
            · cases h
          · cases h
      | any => cases h
      | tup l => cases h
  | _ => intro ss x ls h s hs; exact single _ ss x ls h s hs

theorem results_ok (hS : StatOK P S) (m : Mt P glb Bk X0 w0 st ρ a W) : ∀ (rs : List ResultVar), (∀ r, r ∈ rs → resSV S st r ≠ .any) →
    ∃ vs : List Value, (rs.mapM (resOne a.tmps)).run P W = .ok vs W ∧ RepVs P ρ (Xs st ρ X0) W (rs.map (resSV S st)) vs
  | [], _ => ⟨[], rfl, rfl⟩
  | r :: rs, h => by
    obtain ⟨v, h1, h2⟩ := resSV_ok hS m r (h r List.mem_cons_self)
    obtain ⟨vs, h3, h4⟩ := results_ok hS m rs (fun r' hr' => h r' (List.mem_cons_of_mem _ hr'))
    refine ⟨v :: vs, ?_, v, vs, rfl, h2, h4⟩
    rw [List.mapM_cons, Sem.run_bind, h1]
    simp only [Result.andThen_ok, Sem.run_bind, h3, Sem.run_pure]

theorem ret_of_vals {R : Kd} {X : Nat → Prop} {x : R.T} {vs : List Value} (h : (R.sem P).vals X W x vs) (hr : R.retOK = true) : (R.sem P).ret X W x (if h : vs.toArray.size = 1 then vs.toArray[0] else .tuple vs.toArray) := by
  cases R with
  | unit =>
    have h : vs = [] := h
    subst h
    rfl
  | pair A B =>
    obtain ⟨v, vs', rfl, h1, h2⟩ := h
    have hne : vs' ≠ [] := by
      intro hn
      subst hn
      cases B <;> first
        | (simp [Kd.retOK] at hr; done)
        | (obtain ⟨_, _, h, _⟩ := h2; cases h; done)
        | (obtain ⟨_, h, _⟩ := h2; cases h; done)
    have : ¬ (v :: vs').toArray.size = 1 := by
      cases vs' with
      | nil => exact absurd rfl hne
      | cons w r => simp
    rw [dif_neg this]
    exact ⟨v, vs', rfl, h1, h2⟩
  | agg K => obtain ⟨cs, rfl, h1⟩ := h; exact ⟨cs, rfl, h1⟩
  | int k => obtain ⟨v, rfl, h1⟩ := h; exact h1
  | bool => obtain ⟨v, rfl, h1⟩ := h; exact h1
  | str => obtain ⟨v, rfl, h1⟩ := h; exact h1
  | sl e K => obtain ⟨v, rfl, h1⟩ := h; exact h1
  | nsl e K => obtain ⟨v, rfl, h1⟩ := h; exact h1
  | fn A R => obtain ⟨v, rfl, h1⟩ := h; exact h1
  | ptr t K => obtain ⟨v, rfl, h1⟩ := h; exact h1
  | seq A => obtain ⟨v, rfl, h1⟩ := h; exact h1
  | mem A => obtain ⟨v, rfl, h1⟩ := h; exact h1
end

def takeAll (W : World) : List Nat → World
  | [] => W
  | D :: r => takeAll (W.putObj D (.deferred none)) r

theorem takeAll_leaves {F : Fence} {n : Nat} {P : Program} {fn : Func} {tmps : Array Value} {R : Ending → World → Prop} : ∀ (Ds : List Nat) (W : World), Ds.Nodup → (∀ D : Nat, D ∈ Ds → W.heap[D]? = some (Obj.deferred (some []))) →
    (∃ v, (results fn tmps).run P (takeAll W Ds) = .ok v (takeAll W Ds) ∧ R (.returned v) (takeAll W Ds)) → LeavesInM F n P fn tmps R (Ds.map fun D => ({ target := .collected D, args := #[] } : Deferred)) .returning W
  | [], W, _, _, h => h
  | D :: r, W, hn, hD, h => by
    obtain ⟨h1, h2⟩ := List.nodup_cons.1 hn
    refine ⟨by simp, .inl ⟨D, W.putObj D (.deferred none), rfl, run_takeDeferred (hD D List.mem_cons_self), takeAll_leaves r _ h2 (fun E hE => ?_) h⟩⟩
    rw [World.putObj_heap_other (by intro hh; subst hh; exact h1 hE)]
    exact hD E (List.mem_cons_of_mem _ hE)

theorem takeAll_spec : ∀ (Ds : List Nat) (W : World), (takeAll W Ds).heap.size = W.heap.size ∧ (takeAll W Ds).os = W.os ∧ (takeAll W Ds).tape = W.tape ∧ (takeAll W Ds).output = W.output ∧ ∀ k, k ∉ Ds → (takeAll W Ds).heap[k]? = W.heap[k]?
  | [], W => ⟨rfl, rfl, rfl, rfl, fun _ _ => rfl⟩
  | D :: r, W => by
    obtain ⟨h1, h2, h3, h4, h5⟩ := takeAll_spec r (W.putObj D (.deferred none))
    refine ⟨h1.trans (by simp [World.putObj]), h2, h3, h4, fun k hk => ?_⟩
    simp only [List.mem_cons, not_or] at hk
    exact (h5 k hk.2).trans (World.putObj_heap_other hk.1)

theorem decFresh_any {st : St} {R : Kd} {rs : List SV} {x : R.T} (h : decFresh st R rs = some x) : ∀ s, s ∈ rs → s ≠ .any := by
  intro s hs
  unfold decFresh at h
  split at h
  · rcases List.mem_singleton.1 hs with rfl; simp
  · rcases List.mem_singleton.1 hs with rfl; simp
  · cases h

theorem decFresh_ok {P : Program} {glb : Nat → Option GV} {X0 : Nat → Prop} {w0 : World} {st : St} {ρ : Lab} {a : Act} {W : World} (m : Mt P glb (fun k => k < w0.heap.size) X0 w0 st ρ a W) {R : Kd} {rs : List SV} {x : R.T} (h : decFresh st R rs = some x) {vs : List Value} (hv : RepVs P ρ (Xs st ρ X0) W rs vs) :
    (R.sem P).vals (fun k => k < w0.heap.size) W x vs := by
  unfold decFresh at h
  split at h
  · rename_i l
    obtain ⟨v, vs', rfl, ⟨c, hc, hcc⟩, hvs⟩ := hv
    have hvs : vs' = [] := hvs
    subst hvs
    cases hc
    obtain ⟨hρ, _⟩ := hcc
    split at h
    · rename_i nn e K' xs hl
      obtain ⟨s, hs⟩ := look_some hl
      cases hf : K'.flat with
      | false => rw [hf] at h; cases h
      | true =>
        rw [hf, cond_true] at h
        have hval : ∀ e : TypeId, ((Kd.sl e K').sem P).val (fun k => k < w0.heap.size) W xs v := by
          intro e'
          obtain ⟨A, cap, h1, h2, h3, h4⟩ := m.rowElems hs hρ
          refine ⟨A, cap, h1, h2, h3, fun hne => ?_⟩
          obtain ⟨g, rfl, hget⟩ := h4 hne
          have hnb := m.nb l _ s v g hs hρ (by rw [h1]; exact .inl rfl)
          obtain ⟨v2, hv2, hok⟩ := m.hps l _ s hs
          rw [hρ] at hv2; cases hv2
          have hlt := (hok.lt (k := g) (by rw [h1]; exact .inl rfl)).2
          refine ⟨_, rfl, hnb.1 rfl, hlt, fun j y hy => ?_⟩
          obtain ⟨ecs, k1, k2⟩ := hget j y hy
          exact ⟨ecs, Kd.flat_cells P K' hf k1, fun i u hu => by rw [plainAdd, Nat.zero_add]; exact k2 i u hu⟩
        split at h
        · rename_i e2 K
          split at h
          · rename_i hk
            subst hk
            cases h
            exact vals_one (hval e2) rfl
          · cases h
        · rename_i e2 K
          split at h
          · rename_i hk
            subst hk
            split at h
            · rename_i hnn
              cases h
              obtain ⟨v2, hv2, hok⟩ := m.hps l _ s hs
              rw [hρ] at hv2; cases hv2
              obtain ⟨a2, n2, c2, hv3⟩ := hok.2.2 hnn
              refine vals_one (K := .nsl e2 K') ?_ rfl
              show (some xs = none → v = Value.slice none 0 0) ∧ ∀ ys, some xs = some ys → _
              refine ⟨fun hx => (by cases hx), fun ys hy => ?_⟩
              cases hy
              obtain ⟨A, c, g1, g2, g3, g4⟩ := hval e2
              refine ⟨A, c, g1, ?_, g2, g3, g4⟩
              rw [hv3] at g1
              injection g1 with g1
              rw [← g1]
              simp
            · cases h
          · cases h
        · cases h
    · cases h
  · obtain ⟨v, vs', rfl, ⟨c, hc, hcc⟩, hvs⟩ := hv
    have hvs : vs' = [] := hvs
    subst hvs
    cases hc
    have hcc : v = .slice none 0 0 := hcc
    subst hcc
    split at h
    · cases h
      exact ⟨_, rfl, none, 0, rfl, Nat.le_refl _, by unfold maxLen; omega, fun h => absurd rfl h⟩
    · cases h
      exact ⟨_, rfl, fun _ => rfl, fun xs hx => by cases hx⟩
    · cases h
  · cases h

section
variable {P : Program}

theorem toList_nodup {o : Option Nat} : o.toList.Nodup := by cases o <;> simp

theorem mat_fp {W : World} {e e1 : TypeId} {K1 : Kd} {xs : List (List K1.T)} {us : List Value} {v : Value} (mo : MatOK P W e e1 K1 xs none us v) : (v.ownBlock.toList ++ us.flatMap fun u => u.ownBlock.toList).Nodup := by
  rw [List.nodup_append]
  refine ⟨toList_nodup, ?_, ?_⟩
  · have go : ∀ (ws : List Value), (∀ (j j' : Nat) u u' k, j ≠ j' → ws[j]? = some u → ws[j']? = some u' → u.ownBlock = some k → u'.ownBlock ≠ some k) → (ws.flatMap fun u => u.ownBlock.toList).Nodup := by
      intro ws
      induction ws with
      | nil => intro _; simp
      | cons w r ih =>
        intro h
        rw [List.flatMap_cons, List.nodup_append]
        refine ⟨toList_nodup, ih (fun j j' u u' k hne hj hj' => h (j + 1) (j' + 1) u u' k (by omega) (by simpa using hj) (by simpa using hj')), fun k hk k' hk' hkk => ?_⟩
        subst hkk
        obtain ⟨u, hu, hku⟩ := List.mem_flatMap.1 hk'
        obtain ⟨j, hj⟩ := List.getElem?_of_mem hu
        have h1 : w.ownBlock = some k := by simpa using hk
        have h2 : u.ownBlock = some k := by simpa using hku
        exact h 0 (j + 1) w u k (by omega) rfl (by simpa using hj) h1 h2
    exact go us (fun j j' u u' k hne hj hj' => mo.dis j j' u u' k hne hj hj' rfl rfl)
  · intro k hk k' hk' hkk
    subst hkk
    obtain ⟨u, hu, hku⟩ := List.mem_flatMap.1 hk'
    obtain ⟨j, hj⟩ := List.getElem?_of_mem hu
    exact mo.apart j u k hj rfl (by simpa using hku) (by simpa using hk)

def FpOf (st : St) (ρ : Lab) (ls : List Nat) (fp : List Nat) : Prop := ∀ k, k ∈ fp → ∃ l he s u, l ∈ ls ∧ st.hp l = some (he, s) ∧ ρ l = some u ∧ OwnB ρ he u k ∧ he.isLn = false

theorem slOwn_row {W : World} {e : TypeId} {K : Kd} {xs : List K.T} {v : Value} (h : InRow P W e K xs v) (hf : K.flat = true) (hn : 0 < K.n) : slOwn P W e K xs v v.ownBlock.toList := by
  cases K with
  | sl e1 K1 => simp [Kd.flat] at hf
  | agg K =>
    cases K with
    | sl e1 K1 => simp [Kd.flat] at hf
    | _ => exact ⟨h, hf, hn, rfl⟩
  | _ => exact ⟨h, hf, hn, rfl⟩

theorem decSlO_ok {P : Program} {glb : Nat → Option GV} {Bk X0 : Nat → Prop} {w0 : World} {st : St} {ρ : Lab} {a : Act} {W : World} {X : Nat → Prop} (m : Mt P glb Bk X0 w0 st ρ a W) {e : TypeId} {K : Kd} (hok : (Kd.sl e K).ownOK = true) {c : SC} {xs : List K.T} {ls : List Nat} {v : Value} (h : decSlO st.look e K c = some (xs, ls)) (hv : RepC P ρ X W c v) :
    ∃ fp, slOwn P W e K xs v fp ∧ (∃ A n q, v = .slice A n q) ∧ FpOf st ρ ls fp ∧ fp.Nodup := by
  unfold decSlO at h
  split at h
  · cases h
    have hv : v = .slice none 0 0 := hv
    subst hv
    have nilM : ∀ (e1 : TypeId) (K1 : Kd), (K1.flat && Nat.ble 1 K1.n) = true → MatOK P W e e1 K1 [] none [] (.slice none 0 0) := fun e1 K1 h => by
      simp only [Bool.and_eq_true] at h
      exact ⟨h.1, Nat.le_of_ble_eq_true h.2, rfl, ⟨[], World.ownsRow_nil W _ e 1, fun j u hj => by simp at hj⟩, fun j u xr hj => by simp at hj, fun j j' u u' k _ hj => by simp at hj, fun j u k hj => by simp at hj⟩
    refine ⟨[], ?_, ⟨_, _, _, rfl⟩, fun k hk => by simp at hk, List.nodup_nil⟩
    have row : ∀ K : Kd, (K.flat && Nat.ble 1 K.n) = true → slOwn P W e K ([] : List K.T) (.slice none 0 0) [] := fun K h => by
      simp only [Bool.and_eq_true] at h
      exact slOwn_row (v := .slice none 0 0) ⟨[], World.ownsRow_nil W _ e K.n, fun i x hx => by simp at hx⟩ h.1 (Nat.le_of_ble_eq_true h.2)
    cases K with
    | sl e1 K1 => exact ⟨[], nilM e1 K1 hok, rfl⟩
    | agg K =>
      cases K with
      | sl e1 K1 => exact ⟨[], nilM e1 K1 hok, rfl⟩
      | _ => exact row _ hok
    | _ => exact row _ hok
  · rename_i l
    obtain ⟨hρ, hsl⟩ := hv
    split at h
    · rename_i nn e' K' ys hl
      cases hb : (Nat.beq e' e && K'.flat) with
      | false => rw [hb] at h; cases h
      | true =>
        rw [hb, cond_true] at h
        simp only [Bool.and_eq_true] at hb
        obtain rfl := Nat.eq_of_beq_eq_true hb.1
        split at h
        · rename_i hK
          subst hK
          cases h
          obtain ⟨s, hs⟩ := look_some hl
          obtain ⟨v', hv', hok2⟩ := m.hps l _ s hs
          rw [hρ] at hv'; injection hv' with hv'; subst hv'
          obtain ⟨hpos, ⟨fl, ho, hc⟩, _⟩ := hok2
          refine ⟨v.ownBlock.toList, slOwn_row ⟨fl, ho, fun i x hi => Kd.flat_cells P _ hb.2 (hc i x hi)⟩ hb.2 hpos, hsl, fun k hk => ?_, toList_nodup⟩
          exact ⟨l, _, s, v, by simp, hs, hρ, by rw [ownB_row, ownBlk_row]; simpa using hk, rfl⟩
        · cases h
    · rename_i nn e' ag e1 K1 ys vl hl
      cases hb : Nat.beq e' e with
      | false => rw [hb] at h; cases h
      | true =>
        rw [hb, cond_true] at h
        obtain rfl := Nat.eq_of_beq_eq_true hb
        split at h
        · rename_i hK
          subst hK
          cases h
          obtain ⟨us, s, hs, hu, mo, _, _, _⟩ := m.matAt hl hρ
          refine ⟨v.ownBlock.toList ++ us.flatMap fun u => u.ownBlock.toList, ?_, hsl, fun k hk => ?_, mat_fp mo⟩
          · cases ag with
            | false =>
              refine ⟨us, ?_, rfl⟩
              have : ys.map (elX false e1 K1) = ys := List.map_id ys
              have h2 : castL rfl (ys.map (elX false e1 K1)) = ys := this
              rw [h2]; exact mo
            | true =>
              refine ⟨us, ?_, rfl⟩
              have : ys.map (elX true e1 K1) = ys := List.map_id ys
              have h2 : castL rfl (ys.map (elX true e1 K1)) = ys := this
              rw [h2]; exact mo
          · refine ⟨l, _, s, v, by simp, hs, hρ, (mat_own hu).2 ?_, rfl⟩
            rcases List.mem_append.1 hk with hk | hk
            · exact .inl (by simpa using hk)
            · obtain ⟨u, hu', hku⟩ := List.mem_flatMap.1 hk
              obtain ⟨j, hj⟩ := List.getElem?_of_mem hu'
              exact .inr ⟨j, u, rfl, hj, by simpa using hku⟩
        · cases h
    · cases h
  · cases h

theorem FpOf.app {st : St} {ρ : Lab} {l1 l2 f1 f2 : List Nat} (h1 : FpOf st ρ l1 f1) (h2 : FpOf st ρ l2 f2) : FpOf st ρ (l1 ++ l2) (f1 ++ f2) := by
  intro k hk
  rcases List.mem_append.1 hk with hk | hk
  · obtain ⟨l, he, s, u, a, b⟩ := h1 k hk; exact ⟨l, he, s, u, List.mem_append.2 (.inl a), b⟩
  · obtain ⟨l, he, s, u, a, b⟩ := h2 k hk; exact ⟨l, he, s, u, List.mem_append.2 (.inr a), b⟩

theorem FpOf.nodup {P : Program} {glb : Nat → Option GV} {Bk X0 : Nat → Prop} {w0 : World} {st : St} {ρ : Lab} {a : Act} {W : World} (m : Mt P glb Bk X0 w0 st ρ a W) {l1 l2 f1 f2 : List Nat} (h1 : FpOf st ρ l1 f1) (h2 : FpOf st ρ l2 f2) (hn : (l1 ++ l2).Nodup) (n1 : l1.Nodup → f1.Nodup) (n2 : l2.Nodup → f2.Nodup) : (f1 ++ f2).Nodup := by
  obtain ⟨a1, a2, a3⟩ := List.nodup_append.1 hn
  refine List.nodup_append.2 ⟨n1 a1, n2 a2, fun k hk k' hk' hkk => ?_⟩
  subst hkk
  obtain ⟨l, he, s, u, q1, q2, q3, q4, _⟩ := h1 k hk
  obtain ⟨l', he', s', u', p1, p2, p3, p4, _⟩ := h2 k hk'
  have := m.dis l l' he he' s s' u u' k q2 p2 q3 p3 q4 p4
  exact a3 l q1 l' p1 this

theorem flOwn_pair {W : World} {A B : Kd} {x : (Kd.pair A B).T} {c1 c2 : List Value} {f1 f2 : List Nat} (h1 : flOwn P W A x.1 c1 f1) (h2 : flOwn P W B x.2 c2 f2) : flOwn P W (.pair A B) x (c1 ++ c2) (f1 ++ f2) := ⟨c1, c2, f1, f2, rfl, rfl, h1, h2⟩
theorem flOwn_sl {W : World} {e : TypeId} {K : Kd} {xs : List K.T} {v : Value} {fp : List Nat} (h1 : ∃ A n q, v = .slice A n q) (h2 : slOwn P W e K xs v fp) : flOwn P W (.sl e K) xs [v] fp := ⟨v, rfl, h1, h2⟩

theorem decsO_pairEq {S : Stat} {look : Nat → Option HE} {A B : Kd} {cs : List SC} : decsO S look (.pair A B) cs = (match decsO S look A cs with
    | some (x, r, l) => match decsO S look B r with
      | some (y, r', l') => some ((x, y), r', l ++ l')
      | none => none
    | none => none) := rfl

theorem decsO_slEq {S : Stat} {look : Nat → Option HE} {e : TypeId} {K : Kd} {c : SC} {r : List SC} : decsO S look (.sl e K) (c :: r) = (decSlO look e K c).map fun p => (p.1, r, p.2) := rfl

theorem decsO_pair {S : Stat} {look : Nat → Option HE} {A B : Kd} {cs : List SC} {x : (Kd.pair A B).T} {r : List SC} {ls : List Nat} (h : decsO S look (.pair A B) cs = some (x, r, ls)) : ∃ r1 l1 l2, decsO S look A cs = some (x.1, r1, l1) ∧ decsO S look B r1 = some (x.2, r, l2) ∧ ls = l1 ++ l2 := by
  rw [decsO_pairEq] at h
  split at h
  · rename_i x1 r1 l1 h1
    split at h
    · rename_i x2 r2 l2 h2
      have h3 := Option.some.inj h
      have e1 := congrArg Prod.fst h3
      have e2 := congrArg (fun p => p.2.1) h3
      have e3 := congrArg (fun p => p.2.2) h3
      have e1a := congrArg Prod.fst e1
      have e1b := congrArg Prod.snd e1
      simp only at e2 e3 e1a e1b
      rw [← e2, ← e3, ← e1a, ← e1b]
      exact ⟨r1, l1, l2, h1, h2, rfl⟩
    · cases h
  · cases h

theorem decsO_ok {P : Program} {glb : Nat → Option GV} {X0 Bk : Nat → Prop} {w0 : World} {st : St} {ρ : Lab} {a : Act} {W : World} {S : Stat} (m : Mt P glb Bk X0 w0 st ρ a W) (hct : CtOK P glb S) : ∀ (K : Kd) (cs : List SC) (x : K.T) (r : List SC) (ls : List Nat) (us : List Value), K.ownOK = true →
    decsO S st.look K cs = some (x, r, ls) → RepCs P ρ (Xs st ρ X0) W cs us → ∃ v1 v2 fp, us = v1 ++ v2 ∧ flOwn P W K x v1 fp ∧ RepCs P ρ (Xs st ρ X0) W r v2 ∧ FpOf st ρ ls fp ∧ (ls.Nodup → fp.Nodup) := by
  have leaf : ∀ (K : Kd) (cs : List SC) (x : K.T) (r : List SC) (ls : List Nat) (us : List Value), K.flat = true → (match decs (dec1 S st.look fuel) K cs with
      | some (x, r, []) => some (x, r, [])
      | _ => none) = some (x, r, ls) → RepCs P ρ (Xs st ρ X0) W cs us → ∃ v1 v2, us = v1 ++ v2 ∧ (K.sem P).cells (fun _ => False) W x v1 ∧ RepCs P ρ (Xs st ρ X0) W r v2 ∧ ls = [] := by
    intro K cs x r ls us hf h hr
    split at h
    · rename_i y r' hd
      cases h
      obtain ⟨v1, v2, e, h1, h2⟩ := decs_ok (Z := fun _ => false) (dec1_ok m hct fuel) K cs _ _ [] us hd hr (by simp)
      exact ⟨v1, v2, e, Kd.flat_cells P K hf h1, h2, rfl⟩
    · cases h
  intro K
  induction K with
  | pair A B ihA ihB =>
    intro cs x r ls us hok h hr
    simp only [Kd.ownOK, Bool.and_eq_true] at hok
    obtain ⟨r1, l1, l2, h1, h2, rfl⟩ := decsO_pair h
    obtain ⟨v1, v2, f1, e1, a1, b1, d1, n1⟩ := ihA cs x.1 r1 l1 us hok.1 h1 hr
    obtain ⟨v3, v4, f2, e2, a2, b2, d2, n2⟩ := ihB r1 x.2 r l2 v2 hok.2 h2 b1
    exact ⟨v1 ++ v3, v4, f1 ++ f2, by rw [e1, e2, List.append_assoc], flOwn_pair a1 a2, b2, d1.app d2, fun hn => FpOf.nodup m d1 d2 hn n1 n2⟩
  | agg K ih => intro cs x r ls us hok h hr; exact ih cs x r ls us hok h hr
  | sl e K ih =>
    intro cs x r ls us hok h hr
    cases cs with
    | nil => cases h
    | cons c rest =>
      rw [decsO_slEq] at h
      cases hd : decSlO st.look e K c with
      | none => rw [hd] at h; cases h
      | some p =>
        rw [hd] at h
        have h3 := Option.some.inj h
        have e1 := congrArg Prod.fst h3
        have e2 := congrArg (fun p => p.2.1) h3
        have e3 := congrArg (fun p => p.2.2) h3
        simp only at e1 e2 e3
        rw [← e2, ← e3, ← e1]
        obtain ⟨v, vs, rfl, h1, h2⟩ := hr
        obtain ⟨fp, a1, a2, a3, a4⟩ := decSlO_ok m hok (xs := p.1) (ls := p.2) hd h1
        exact ⟨[v], vs, fp, rfl, flOwn_sl a2 a1, h2, a3, fun _ => a4⟩
  | unit =>
    intro cs x r ls us hok h hr
    cases h
    exact ⟨[], us, [], rfl, ⟨rfl, rfl⟩, hr, fun k hk => by simp at hk, fun _ => List.nodup_nil⟩
  | int k =>
    intro cs x r ls us hok h hr
    obtain ⟨v1, v2, e, h1, h2, rfl⟩ := leaf (.int k) cs x r ls us rfl h hr
    exact ⟨v1, v2, [], e, ⟨h1, rfl⟩, h2, fun k hk => by simp at hk, fun _ => List.nodup_nil⟩
  | bool =>
    intro cs x r ls us hok h hr
    obtain ⟨v1, v2, e, h1, h2, rfl⟩ := leaf .bool cs x r ls us rfl h hr
    exact ⟨v1, v2, [], e, ⟨h1, rfl⟩, h2, fun k hk => by simp at hk, fun _ => List.nodup_nil⟩
  | str =>
    intro cs x r ls us hok h hr
    obtain ⟨v1, v2, e, h1, h2, rfl⟩ := leaf .str cs x r ls us rfl h hr
    exact ⟨v1, v2, [], e, ⟨h1, rfl⟩, h2, fun k hk => by simp at hk, fun _ => List.nodup_nil⟩
  | nsl e K ih => intro cs x r ls us hok; cases hok
  | fn A B ihA ihB => intro cs x r ls us hok; cases hok
  | ptr t K ih => intro cs x r ls us hok; cases hok
  | seq A ih => intro cs x r ls us hok; cases hok
  | mem A ih => intro cs x r ls us hok; cases hok

theorem valO_of {P : Program} {glb : Nat → Option GV} {X0 Bk : Nat → Prop} {w0 : World} {st : St} {ρ : Lab} {a : Act} {W : World} {S : Stat} (m : Mt P glb Bk X0 w0 st ρ a W) (hct : CtOK P glb S) {K : Kd} {ag : Bool} {cs : List SC} {x : K.T} {ls : List Nat} {v : Value} (hok : K.ownOK = true)
    (hk : (ag == K.isAgg && K.arg) = true) (hd : decsO S st.look K cs = some (x, [], ls)) (hv : RepV P ρ (Xs st ρ X0) W (.mk ag cs) v) : ∃ fp, valOwn P W K x v fp ∧ FpOf st ρ ls fp ∧ (ls.Nodup → fp.Nodup) := by
  simp only [Bool.and_eq_true, beq_iff_eq] at hk
  obtain ⟨ha, harg⟩ := hk
  cases ag with
  | false =>
    obtain ⟨c, rfl, hc⟩ := hv
    obtain ⟨v1, v2, fp, he, h1, h2, h3, h4⟩ := decsO_ok m hct K [c] x [] ls [v] hok hd ⟨v, [], rfl, hc, rfl⟩
    have : v2 = [] := h2
    subst this
    rw [List.append_nil] at he
    subst he
    exact ⟨fp, by unfold valOwn; rw [← ha]; exact h1, h3, h4⟩
  | true =>
    obtain ⟨vs, rfl, hc⟩ := hv
    obtain ⟨v1, v2, fp, he, h1, h2, h3, h4⟩ := decsO_ok m hct K cs x [] ls vs hok hd hc
    have : v2 = [] := h2
    subst this
    rw [List.append_nil] at he
    subst he
    exact ⟨fp, by unfold valOwn; rw [← ha]; exact ⟨vs, rfl, h1⟩, h3, h4⟩

theorem decArgsO_ok {P : Program} {glb : Nat → Option GV} {X0 Bk : Nat → Prop} {w0 : World} {st : St} {ρ : Lab} {a : Act} {W : World} {S : Stat} (m : Mt P glb Bk X0 w0 st ρ a W) (hct : CtOK P glb S) : ∀ (K : Kd) (ss : List SV) (x : K.T) (ls : List Nat) (vs : List Value), K.ownOK = true →
    decArgsO S st.look K ss = some (x, ls) → RepVs P ρ (Xs st ρ X0) W ss vs → (∃ fp, valsOwn P W K x vs fp ∧ FpOf st ρ ls fp ∧ (ls.Nodup → fp.Nodup)) ∧ ∀ s, s ∈ ss → s ≠ .any := by
  have single : ∀ (K : Kd) (ss : List SV) (x : K.T) (ls : List Nat) (vs : List Value), K.ownOK = true → decArgO S st.look K ss = some (x, ls) → RepVs P ρ (Xs st ρ X0) W ss vs →
      (∃ fp, (∃ v, vs = [v] ∧ valOwn P W K x v fp) ∧ FpOf st ρ ls fp ∧ (ls.Nodup → fp.Nodup)) ∧ ∀ s, s ∈ ss → s ≠ .any := by
    intro K ss x ls vs hok h hv
    unfold decArgO at h
    split at h
    · rename_i ag cs
      obtain ⟨v, vs', rfl, h1, h2⟩ := hv
      have : vs' = [] := h2
      subst this
      split at h
      · rename_i hk
        split at h
        · rename_i y l hd
          cases h
          obtain ⟨fp, a1, a2, a3⟩ := valO_of m hct hok hk hd h1
          refine ⟨⟨fp, ⟨v, rfl, a1⟩, a2, a3⟩, fun s hs => ?_⟩
          rcases List.mem_singleton.1 hs with rfl
          simp
        · cases h
      · cases h
    · cases h
  intro K
  induction K with
  | unit =>
    intro ss x ls vs hok h hv
    cases ss with
    | nil =>
      cases h
      exact ⟨⟨[], ⟨hv, rfl⟩, fun k hk => by simp at hk, fun _ => List.nodup_nil⟩, fun s hs => by simp at hs⟩
    | cons s r => cases s <;> cases h
  | pair A B ihA ihB =>
    intro ss x ls vs hok h hv
    simp only [Kd.ownOK, Bool.and_eq_true] at hok
    cases ss with
    | nil => cases h
    | cons s r =>
      cases s with
      | mk ag cs =>
        simp only [decArgsO] at h
        split at h
        · rename_i hk
          split at h
          · rename_i y l hd
            cases hr : decArgsO S st.look B r with
            | none => rw [hr] at h; cases h
            | some q =>
              obtain ⟨y2, l2⟩ := q
              rw [hr] at h
              cases h
              obtain ⟨v, vs', rfl, h1, h2⟩ := hv
              obtain ⟨f1, a1, d1, n1⟩ := valO_of m hct hok.1 hk hd h1
              obtain ⟨⟨f2, a2, d2, n2⟩, hany⟩ := ihB r y2 l2 vs' hok.2 hr h2
              refine ⟨⟨f1 ++ f2, ⟨v, vs', f1, f2, rfl, rfl, a1, a2⟩, d1.app d2, fun hn => FpOf.nodup m d1 d2 hn n1 n2⟩, fun s hs => ?_⟩
              rcases List.mem_cons.1 hs with rfl | hs
              · simp
              · exact hany s hs
          · cases h
        · cases h
      | any => cases h
      | tup l => cases h
  | nsl e K ih => intro ss x ls vs hok; cases hok
  | fn A B ihA ihB => intro ss x ls vs hok; cases hok
  | ptr t K ih => intro ss x ls vs hok; cases hok
  | seq A ih => intro ss x ls vs hok; cases hok
  | mem A ih => intro ss x ls vs hok; cases hok
  | _ => intro ss x ls vs hok h hv; exact single _ ss x ls vs hok h hv

theorem decArgsO_any {S : Stat} {look : Nat → Option HE} : ∀ (K : Kd) (ss : List SV) (x : K.T) (ls : List Nat), decArgsO S look K ss = some (x, ls) → ∀ s, s ∈ ss → s ≠ .any := by
  have single : ∀ (K : Kd) (ss : List SV) (x : K.T) (ls : List Nat), decArgO S look K ss = some (x, ls) → ∀ s, s ∈ ss → s ≠ .any := by
    intro K ss x ls h s hs
    unfold decArgO at h
    split at h
    · rcases List.mem_singleton.1 hs with rfl; simp
    · cases h
  intro K
  induction K with
  | unit =>
    intro ss x ls h s hs
    cases ss with
    | nil => simp at hs
    | cons s' r => cases s' <;> cases h
  | pair A B ihA ihB =>
    intro ss x ls h s hs
    cases ss with
    | nil => simp at hs
    | cons s' r =>
      cases s' with
      | mk ag cs =>
        rcases List.mem_cons.1 hs with rfl | hs
        · simp
        · simp only [decArgsO] at h
          split at h
          · split at h
            · rename_i y l hd
              cases hr : decArgsO S look B r with
              | none => rw [hr] at h; cases h
              | some q => exact ihB r q.1 q.2 hr s hs
            · cases h
          · cases h
      | any => cases h
      | tup l => cases h
  | nsl e K ih => intro ss x ls h; cases h
  | fn A B ihA ihB => intro ss x ls h; cases h
  | ptr t K ih => intro ss x ls h; cases h
  | seq A ih => intro ss x ls h; cases h
  | mem A ih => intro ss x ls h; cases h
  | _ => intro ss x ls h s hs; exact single _ ss x ls h s hs

theorem nodupL_nodup : ∀ {ls : List Nat}, nodupL ls = true → ls.Nodup
  | [], _ => List.nodup_nil
  | l :: r, h => by
    simp only [nodupL, Bool.and_eq_true, Bool.not_eq_true'] at h
    refine List.nodup_cons.2 ⟨fun hm => ?_, nodupL_nodup h.2⟩
    rw [memL_mem hm] at h; cases h.1

theorem retO_of_vals {W : World} {R : Kd} {x : R.T} {vs : List Value} {fp : List Nat} (h : valsOwn P W R x vs fp) (hr : R.retOK = true) : retOwn P W R x (if h : vs.toArray.size = 1 then vs.toArray[0] else .tuple vs.toArray) fp := by
  cases R with
  | unit =>
    obtain ⟨rfl, rfl⟩ := h
    exact ⟨rfl, rfl⟩
  | pair A B =>
    have h0 := h
    obtain ⟨v, vs', f1, f2, rfl, rfl, h1, h2⟩ := h
    have hne : vs' ≠ [] := by
      intro hn
      subst hn
      cases B <;> first
        | (simp [Kd.retOK] at hr; done)
        | (obtain ⟨_, _, _, _, h, _⟩ := h2; cases h; done)
        | (obtain ⟨_, h, _⟩ := h2; cases h; done)
    have : ¬ (v :: vs').toArray.size = 1 := by
      cases vs' with
      | nil => exact absurd rfl hne
      | cons w r => simp
    rw [dif_neg this]
    exact ⟨v :: vs', rfl, h0⟩
  | _ => obtain ⟨v, rfl, h1⟩ := h; exact h1

end

theorem Mt.taken {P : Program} {glb : Nat → Option GV} {Bk X0 : Nat → Prop} {w0 : World} {st : St} {ρ : Lab} {a : Act} {W : World} (m : Mt P glb Bk X0 w0 st ρ a W) {Ds : List Nat} (hD : ∀ D : Nat, D ∈ Ds → W.heap[D]? = some (Obj.deferred (some [])) ∧ ¬ Bk D) :
    Mt P glb Bk X0 w0 st ρ { a with defers := [] } (takeAll W Ds) := by
  obtain ⟨h1, h2, h3, h4, h5⟩ := takeAll_spec Ds W
  have notD : ∀ {k cs t fr}, W.heap[k]? = some (Obj.cells cs t fr) → k ∉ Ds := by
    intro k cs t fr hc hk
    rw [(hD k hk).1] at hc; cases hc
  have hmm : ∀ mm xs, GoodAt W mm xs → GoodAt (takeAll W Ds) mm xs := fun mm xs hg => GoodAt.keep hg fun k hk => h5 k (fun hm => by obtain ⟨_, _, hc⟩ := hk; rw [(hD k hm).1] at hc; cases hc)
  have ev : Evo (Xs st ρ X0) W (Xs st ρ X0) (takeAll W Ds) := ⟨by rw [h1]; exact Nat.le_refl _, fun k hk _ => (let ⟨_, _, _, hc⟩ := hk; h5 k (notD hc)), fun _ h _ => h, fun k hk => by rw [h1]; exact m.Xlt k hk, fun mm xs _ hg => hmm mm xs hg⟩
  refine ⟨m.size, DefOK.nil, fun t => (m.tms t).mono ρ.le_refl ev, fun l he s h => ?_, m.dis, fun k hk => by rw [h1]; exact m.x0 k hk, m.bk, m.bel.trans ⟨h2, h3, h4, by rw [h1]; exact Nat.le_refl _, fun k hk _ => h5 k (fun hm => (hD k hm).2 hk), fun mm xs _ hg => hmm mm xs hg⟩, m.nb, m.glb.evo ev, m.dom, m.stamp⟩
  obtain ⟨v, hv, hok⟩ := m.hps l he s h
  refine ⟨v, hv, hok.mono ρ.le_refl ev (fun k hk => ?_)⟩
  obtain ⟨cs, t, fr, hc⟩ := hok.cells hk
  exact h5 k (notD hc)

theorem calls_of_vc {P : Program} {glb : Nat → Option GV} {S : Stat} (hS : StatOK P S) (hct : CtOK P glb S) (hg : S.glb = glb) (an : Nat → Items) {f : FuncId} {fn : Func} {c : Code} (hf : P.funcs[f]? = some fn) (hname : (fn.name == "runtime.NumGoroutine") = false) (hb : fn.body = some c) (ct : Ct)
    {x : ct.A.T} {y : ct.C.T} {Q : ct.R.T → Prop} (hvc : vcFunc S ct.own ct.fresh an fn c ct.A ct.C ct.R x y Q) {X : Nat → Prop} {W : World} {vs cs : List Value} (hX : ∀ k, X k → k < W.heap.size) (hglb : GlbOK P glb X W) (hvs : (ct.A.sem P).vals X W x vs) (hcs : (ct.C.sem P).vals X W y cs) :
    Calls P f (vs ++ cs).toArray W (PostM P ct.own ct.fresh ct.R X W Q) := by
  obtain ⟨hc0, hvc⟩ := chk_iff.1 hvc
  simp only [Bool.and_eq_true] at hc0
  obtain ⟨hn, hret⟩ := hc0
  have hn := Nat.le_of_ble_eq_true hn
  refine callsIn_wide.1 (callsIn_of_wp_marks (F := Fence.wide) (n := 0) hf hb trivial ?_)
  obtain ⟨l1, g1⟩ := RepV.of_vals (P := P) (ρ := fun _ => none) (X := X) (W := W) ct.A hvs
  obtain ⟨l2, g2⟩ := RepV.of_vals (P := P) (ρ := fun _ => none) (X := X) (W := W) ct.C hcs
  have hl1 : vs.length = ct.A.ar := by rw [← l1, argsSV_length]
  have hl2 : cs.length = ct.C.ar := by rw [← l2, argsSV_length]
  have hsz : (vs ++ cs).toArray.size = ct.A.ar + ct.C.ar := by simp [hl1, hl2]

  have hXs : ∀ k, Xs { n := fn.ntmps, tm := tmOf (argsSV ct.A x ++ argsSV ct.C y), hp := fun _ => none, cnt := 0, dom := [] } (fun _ => none) X k → X k := by
    rintro k (h | ⟨l, he, s, v, h, _⟩)
    · exact h
    · cases h
  have m : Mt P glb (fun k => k < W.heap.size) X W { n := fn.ntmps, tm := tmOf (argsSV ct.A x ++ argsSV ct.C y), hp := fun _ => none, cnt := 0, dom := [] } (fun _ => none) { tmps := (vs ++ cs).toArray ++ Array.replicate (fn.ntmps - (vs ++ cs).toArray.size) undef, defers := [] } W := by
    refine ⟨?_, DefOK.nil, fun t => ?_, fun l he s h => (by cases h), fun l l' he he' s s' v v' k h => (by cases h), hX, fun k hk => hk, .refl _ _, fun l he s v k h => (by cases h), ?_, fun l v h => (by cases h), fun l he s h => (by cases h)⟩
    · simp only [Array.size_append, Array.size_replicate, hsz]; omega
    · have hfin : RepV P (fun _ => none) X W (tmOf (argsSV ct.A x ++ argsSV ct.C y) t) (((vs ++ cs).toArray ++ Array.replicate (fn.ntmps - (vs ++ cs).toArray.size) undef).getD t undef) := by
        by_cases ht : t < (vs ++ cs).length
        · have hget : ((vs ++ cs).toArray ++ Array.replicate (fn.ntmps - (vs ++ cs).toArray.size) undef).getD t undef = (vs ++ cs)[t] := by
            rw [Array.getD_eq_getD_getElem?, Array.getElem?_append_left (by simpa using ht), List.getElem?_toArray, List.getElem?_eq_getElem ht]
            rfl
          rw [hget, tmOf_append]
          by_cases h1 : t < vs.length
          · rw [if_pos (by rw [l1]; exact h1)]
            refine g1 t _ ?_
            rw [List.getElem_append_left h1]
            exact List.getElem?_eq_getElem h1
          · rw [if_neg (by rw [l1]; exact h1), l1]
            refine g2 _ _ ?_
            rw [List.getElem_append_right (by omega)]
            exact List.getElem?_eq_getElem _
        · rw [tmOf_past _ t (by simp [l1, l2]; simp at ht; omega)]
          trivial
      exact hfin.mono (Lab.le_refl _) (Evo.mono (fun k hk => hX k (hXs k hk)) hXs)
    · exact hglb.evo (Evo.mono (fun k hk => hX k (hXs k hk)) hXs)
  refine wpIn_mono (vc_ok (Wide.wide P) rfl hS hct hg an c _ _ _ _ _ m hvc) ?_
  rintro e a' W' ⟨xt, st', ρ', rfl, hk, hf', m'⟩
  have fin : decEnd S ct.own ct.fresh st' ct.R (fn.results.toList.map (resSV S st')) Q → LeavesInM Fence.wide 0 P fn a'.tmps (PostM P ct.own ct.fresh ct.R X W Q) a'.defers .returning W' := by
    intro hk
    obtain ⟨Ds, hDs, hnd, hDD⟩ := m'.dfr
    rw [hDs]
    refine takeAll_leaves Ds W' hnd (fun D hD => (hDD D hD).1) ?_
    have m' := m'.taken hDD
    revert m'
    generalize takeAll W' Ds = W'
    intro m'
    have run : ∀ us : List Value, (fn.results.toList.mapM (resOne a'.tmps)).run P W' = .ok us W' → (results fn a'.tmps).run P W' = .ok (if h : us.toArray.size = 1 then us.toArray[0] else .tuple us.toArray) W' := by
      intro us hr
      have hm : fn.results.mapM (resOne a'.tmps) = (do pure (← fn.results.toList.mapM (resOne a'.tmps)).toArray) := by
        rw [Array.mapM_eq_mapM_toList]
        simp
      have hres : results fn a'.tmps = (do
          let vs ← fn.results.mapM (resOne a'.tmps)
          pure (if h : vs.size = 1 then vs[0] else .tuple vs)) := by
        unfold results
        congr 1
      rw [hres, hm]
      simp only [Sem.run_bind, hr, Result.andThen_ok, Sem.run_pure]
    have main : ct.own = false → (∀ rv, rv ∈ fn.results.toList → resSV S st' rv ≠ .any) → (∀ us, RepVs P ρ' (Xs st' ρ' X) W' (fn.results.toList.map (resSV S st')) us → ∃ r, Q r ∧ (ct.R.sem P).vals (frX ct.fresh X W) W' r us) →
        ∃ v, (results fn a'.tmps).run P W' = .ok v W' ∧ PostM P ct.own ct.fresh ct.R X W Q (.returned v) W' := by
      intro hown hany hd
      obtain ⟨us, hr, hrep⟩ := results_ok hS m' fn.results.toList hany
      obtain ⟨r, hQ, hvals⟩ := hd us hrep
      refine ⟨_, run us hr, ?_⟩
      rw [hown]
      exact ⟨r, _, rfl, ret_of_vals hvals hret, m'.bel, hQ⟩
    unfold decEnd at hk
    cases hown : ct.own with
    | true =>
      rw [hown] at hk
      obtain ⟨⟨r, ls⟩, hd, hk2⟩ := optK_ok hk
      obtain ⟨hc, hQ⟩ := chk_iff.1 hk2
      simp only [Bool.and_eq_true] at hc
      have hany := fun us hv => (decArgsO_ok m' hct ct.R _ r ls us hc.2 hd hv).2
      have noany : ∀ rv, rv ∈ fn.results.toList → resSV S st' rv ≠ .any := fun rv hrv => decArgsO_any ct.R _ r ls hd _ (List.mem_map_of_mem hrv)
      obtain ⟨us, hr, hrep⟩ := results_ok hS m' fn.results.toList noany
      obtain ⟨⟨fp, h1, h2, h3⟩, _⟩ := decArgsO_ok m' hct ct.R _ r ls us hc.2 hd hrep
      refine ⟨_, run us hr, r, _, fp, rfl, retO_of_vals h1 hret, h3 (nodupL_nodup hc.1), fun k hk => ?_, m'.bel, hQ⟩
      obtain ⟨l, he, s, u, _, q1, q2, q3, q4⟩ := h2 k hk
      exact Nat.le_of_not_lt ((m'.nb l he s u k q1 q2 q3).1 q4)
    | false =>
    rw [hown] at hk
    rw [hown] at main
    replace main := main rfl
    cases hfr : ct.fresh with
    | true =>
      rw [hfr] at hk
      obtain ⟨r, hd, hQ⟩ := optK_ok hk
      rw [hfr] at main
      exact main (fun rv hrv => decFresh_any hd _ (List.mem_map_of_mem hrv)) (fun us hrep => ⟨r, hQ, decFresh_ok m' hd hrep⟩)
    | false =>
      rw [hfr] at hk
      obtain ⟨⟨r, ls⟩, hd, hQ⟩ := optK_ok hk
      rw [hfr] at main
      refine main (fun rv hrv => decArgs_any ct.R _ r ls hd _ (List.mem_map_of_mem hrv)) (fun us hrep => ⟨r, hQ, ?_⟩)
      have hvals := decArgs_ok (Z := fun l => memL l ls) (dec1_ok m' hct fuel) ct.R _ r ls us hd hrep (fun l hl => memL_mem hl)
      exact (Kd.stands P ct.R).vals (Evo.mono (fun k hk => Nat.lt_of_lt_of_le (hX k hk) m'.bel.size) (fun k hk => .inl hk)) hvals
  cases xt with
  | norm => exact fin hk
  | ret => exact fin hk
  | exit i => exact hk.elim

end Go.GX
set_option linter.unusedVariables false
namespace Go.GX
variable [Inhabited BaseD]
open Go.RowKit Go.Shelf Go.Proofs

def zeroEq : Value → Value → Bool
  | .int .i8 0, .int .i8 0 | .int .i16 0, .int .i16 0 | .int .i32 0, .int .i32 0 | .int .i64 0, .int .i64 0 => true
  | .int .u8 0, .int .u8 0 | .int .u16 0, .int .u16 0 | .int .u32 0, .int .u32 0 | .int .u64 0, .int .u64 0 => true
  | .bool false, .bool false => true
  | .string s, .string t => Nat.beq s.size 0 && Nat.beq t.size 0
  | .slice none 0 0, .slice none 0 0 => true
  | .nilFunc, .nilFunc => true
  | .pointer none, .pointer none => true
  | .map none, .map none => true
  | _, _ => false

theorem bytes_empty {s : ByteArray} (h : s.size = 0) : s = ByteArray.empty := by
  cases s with
  | mk d =>
    have : d = #[] := Array.eq_empty_of_size_eq_zero h
    subst this
    rfl

theorem zeroEq_eq {a b : Value} (h : zeroEq a b = true) : a = b := by
  unfold zeroEq at h
  split at h <;> first | rfl | skip
  · simp only [Bool.and_eq_true] at h
    rw [bytes_empty (Nat.eq_of_beq_eq_true h.1), bytes_empty (Nat.eq_of_beq_eq_true h.2)]
  · cases h

def zerosEq : List Value → List Value → Bool
  | [], [] => true
  | a :: r, b :: s => zeroEq a b && zerosEq r s
  | _, _ => false

theorem zerosEq_eq : ∀ {a b : List Value}, zerosEq a b = true → a = b
  | [], [], _ => rfl
  | a :: r, b :: s, h => by
    simp only [zerosEq, Bool.and_eq_true] at h
    rw [zeroEq_eq h.1, zerosEq_eq h.2]
  | [], _ :: _, h => by cases h
  | _ :: _, [], h => by cases h

def aggB : Option TypeDesc → Bool → Bool
  | some (.struct _), b => b
  | some (.array _ _), b => b
  | some _, b => !b
  | none, _ => false

def tyB (P : Program) (t : TypeId) (i : TI) : Bool :=
  i.kd.arg && (match P.info? t with
    | some inf => Nat.beq inf.size i.kd.n && Nat.beq inf.bytes i.bytes && (match inf.zero with
      | some z => zerosEq z.cells.toList i.kd.zv
      | none => false)
    | none => false) && aggB (P.underlying t) i.kd.isAgg && (match i.kd with
    | .bool => (match P.underlying t with
      | some .bool => true
      | _ => false)
    | .int k => (match P.underlying t with
      | some (.int k') => decide (k' = k)
      | _ => false)
    | _ => true)

def slB (P : Program) (t e : TypeId) : Bool :=
  match P.underlying t with
  | some (.slice e') => Nat.beq e' e
  | _ => false

def fldB (P : Program) (t f : Nat) (p : Nat × TypeId) : Bool :=
  cond (Nat.beq f 1000000) (match P.underlying t with
  | some (.array n e) => Nat.beq n p.1 && Nat.beq e p.2
  | _ => false) <|
  match P.underlying t with
  | some (.struct fs) => (match fs[f]? with
    | some fd => Nat.beq fd.offset p.1 && Nat.beq fd.type p.2
    | none => false) && fs.toList.all fun fd => (P.info? fd.type).isSome
  | _ => false

def eqfB (P : Program) : Nat → List Field → Bool
  | _, [] => true
  | i, fd :: r => (fd.name != "_") && Nat.beq fd.offset i && (match P.underlying fd.type with
    | some (.int _) => true
    | _ => false) && eqfB P (i + 1) r

def eqB1 (P : Program) (t n : Nat) : Bool := (match eqN P 20 t with
  | some m => Nat.beq m n
  | none => false) && !P.eqGuardType P.depth t && aggT P t
def eqB0 (P : Program) (t n : Nat) : Bool :=
  match P.underlying t with
  | some (.struct fs) => Nat.beq fs.size n && !P.stoodInHeld t && !P.eqGuardType P.depth t && eqfB P 0 fs.toList
  | some (.array m e) => Nat.beq m n && (P.info? e).isSome && Nat.beq (P.cellsOf e) 1 && !P.eqGuardType P.depth t && (match P.underlying e with
    | some (.int _) => true
    | _ => false)
  | _ => false

def eqB (P : Program) (t n : Nat) : Bool := cond (eqB1 P t n) true (eqB0 P t n)
theorem eqfB_spec {P : Program} : ∀ {fs : List Field} {i : Nat}, eqfB P i fs = true → ∀ (j : Nat) fd, fs[j]? = some fd → fd.name ≠ "_" ∧ fd.offset = i + j ∧ ∃ k, P.underlying fd.type = some (.int k)
  | fd0 :: r, i, h, j, fd, hj => by
    simp only [eqfB, Bool.and_eq_true, bne_iff_ne, ne_eq] at h
    obtain ⟨⟨⟨h1, h2⟩, h3⟩, h4⟩ := h
    cases j with
    | zero =>
      simp only [List.getElem?_cons_zero, Option.some.injEq] at hj
      subst hj
      refine ⟨h1, Nat.eq_of_beq_eq_true h2, ?_⟩
      split at h3
      · rename_i k hk; exact ⟨k, hk⟩
      · cases h3
    | succ j =>
      have := eqfB_spec h4 j fd (by simpa using hj)
      rwa [show i + 1 + j = i + (j + 1) by omega] at this

def statB (P : Program) (tyT : List (Nat × TI)) (slT : List (Nat × Nat)) (flT : List ((Nat × Nat) × (Nat × Nat))) (eqT : List (Nat × Nat)) : Bool :=
  P.follows .mixedOrders && eqT.all (fun p => eqB P p.1 p.2) && tyT.all (fun p => tyB P p.1 p.2) && slT.all (fun p => slB P p.1 p.2) && flT.all (fun p => fldB P p.1.1 p.1.2 p.2)

theorem assoc_mem {α : Type} : ∀ {l : List (Nat × α)} {n : Nat} {x : α}, assoc l n = some x → (n, x) ∈ l
  | [], n, x, h => by cases h
  | p :: r, n, x, h => by
    simp only [assoc] at h
    cases hb : Nat.beq p.1 n with
    | true =>
      rw [hb, cond_true] at h
      cases h
      have := Nat.eq_of_beq_eq_true hb
      subst this
      exact List.mem_cons_self
    | false =>
      rw [hb, cond_false] at h
      exact List.mem_cons_of_mem _ (assoc_mem h)

theorem assoc2_mem {α : Type} : ∀ {l : List ((Nat × Nat) × α)} {n m : Nat} {x : α}, assoc2 l n m = some x → ((n, m), x) ∈ l
  | [], n, m, x, h => by cases h
  | p :: r, n, m, x, h => by
    simp only [assoc2] at h
    cases hb : (Nat.beq p.1.1 n && Nat.beq p.1.2 m) with
    | true =>
      rw [hb, cond_true] at h
      cases h
      simp only [Bool.and_eq_true] at hb
      have h1 := Nat.eq_of_beq_eq_true hb.1
      have h2 := Nat.eq_of_beq_eq_true hb.2
      subst h1; subst h2
      exact List.mem_cons_self
    | false =>
      rw [hb, cond_false] at h
      exact List.mem_cons_of_mem _ (assoc2_mem h)

theorem statOK_of {P : Program} {tyT : List (Nat × TI)} {slT : List (Nat × Nat)} {flT : List ((Nat × Nat) × (Nat × Nat))} {eqT : List (Nat × Nat)} {mkT : List (Nat × (Nat × Nat))} {glT : List (Nat × GV)} {ctT : List (Nat × Ct)} {inls lits : List Nat} (h : statB P tyT slT flT eqT = true) : StatOK P (Stat.of tyT slT flT eqT mkT glT ctT inls lits) := by
  simp only [statB, Bool.and_eq_true, List.all_eq_true] at h
  obtain ⟨⟨⟨⟨h0, h4⟩, h1⟩, h2⟩, h3⟩ := h
  refine ⟨h0, fun t i hi => ?_, fun t e he => ?_, fun t p hp => (by cases hp), fun t n hn => ?_, fun t k b hb => ?_, fun t i hi => ?_, fun t b hb => ?_, fun t f p hp => ?_, fun t p hp => ?_⟩
  · have := h1 (t, i) (assoc_mem hi)
    simp only [tyB, Bool.and_eq_true] at this
    obtain ⟨⟨⟨g1, g2⟩, g3⟩, _⟩ := this
    refine ⟨g1, ?_, fun w => ?_⟩
    · cases hinf : P.info? t with
      | none => rw [hinf] at g2; cases g2
      | some inf =>
        rw [hinf] at g2
        simp only [Bool.and_eq_true] at g2
        obtain ⟨⟨k1, k2⟩, k3⟩ := g2
        cases hz : inf.zero with
        | none => rw [hz] at k3; cases k3
        | some z =>
          rw [hz] at k3
          exact ⟨inf, z, rfl, Nat.eq_of_beq_eq_true k1, Nat.eq_of_beq_eq_true k2, hz, zerosEq_eq k3⟩
    · cases hu : P.underlying t with
      | none => rw [hu] at g3; cases g3
      | some d =>
        rw [hu] at g3
        unfold Go.isAgg
        rw [Sem.run_bind, run_underlying hu w]
        cases d <;> first
          | (have g3' : i.kd.isAgg = true := g3; rw [g3']; rfl)
          | (have g3' : (!i.kd.isAgg) = true := g3; rw [Bool.not_eq_true'] at g3'; rw [g3']; rfl)
  · have := h2 (t, e) (assoc_mem he)
    simp only [slB] at this
    split at this
    · rename_i e' hu
      rw [hu, Nat.eq_of_beq_eq_true this]
    · cases this
  · have := h4 (t, n) (assoc_mem hn)
    simp only [eqB] at this
    cases hb1 : eqB1 P t n with
    | true =>
      simp only [eqB1, Bool.and_eq_true, Bool.not_eq_true'] at hb1
      obtain ⟨⟨g1, g2⟩, g3⟩ := hb1
      split at g1
      · rename_i m hm
        have := Nat.eq_of_beq_eq_true g1
        subst this
        exact .inr (.inr ⟨hm, g2, g3⟩)
      · cases g1
    | false =>
    rw [hb1, cond_false] at this
    simp only [eqB0] at this
    split at this
    · rename_i fs hu
      simp only [Bool.and_eq_true, Bool.not_eq_true'] at this
      obtain ⟨⟨⟨g1, g2⟩, g3⟩, g4⟩ := this
      refine .inl ⟨fs, hu, Nat.eq_of_beq_eq_true g1, g2, g3, fun i fd hi => ?_⟩
      have := eqfB_spec g4 i fd (by simpa using hi)
      rwa [Nat.zero_add] at this
    · rename_i m e hu
      simp only [Bool.and_eq_true, Bool.not_eq_true'] at this
      obtain ⟨⟨⟨⟨g1, g2⟩, g3⟩, g4⟩, g5⟩ := this
      obtain ⟨i, hi⟩ := Option.isSome_iff_exists.1 g2
      obtain rfl := Nat.eq_of_beq_eq_true g1
      split at g5
      · rename_i k hk
        exact .inr (.inl ⟨e, i, k, hu, hi, Nat.eq_of_beq_eq_true g3, g4, hk⟩)
      · cases g5
    · cases this
  · have := h1 (t, ⟨.int k, b⟩) (assoc_mem hb)
    simp only [tyB, Bool.and_eq_true] at this
    obtain ⟨_, g4⟩ := this
    split at g4
    · rename_i k' hu
      rw [hu, of_decide_eq_true g4]
    · cases g4
  · have := h1 (t, i) (assoc_mem hi)
    simp only [tyB, Bool.and_eq_true] at this
    obtain ⟨⟨_, g3⟩, _⟩ := this
    cases hu : P.underlying t with
    | none => rw [hu] at g3; cases g3
    | some d => rfl
  · have := h1 (t, ⟨.bool, b⟩) (assoc_mem hb)
    simp only [tyB, Bool.and_eq_true] at this
    obtain ⟨_, g4⟩ := this
    split at g4
    · rename_i hu; exact hu
    · cases g4
  · have hp : cond (Nat.blt f 1000000) (assoc2 flT t f) none = some p := hp
    cases hlt : Nat.blt f 1000000 with
    | false => rw [hlt] at hp; cases hp
    | true =>
    rw [hlt, cond_true] at hp
    have hne : Nat.beq f 1000000 = false := by
      cases he : Nat.beq f 1000000 with
      | false => rfl
      | true =>
        have := Nat.eq_of_beq_eq_true he
        subst this
        cases hlt
    have := h3 ((t, f), p) (assoc2_mem hp)
    simp only [fldB, hne, cond_false] at this
    split at this
    · rename_i fs hu
      simp only [Bool.and_eq_true, List.all_eq_true] at this
      obtain ⟨g1, g2⟩ := this
      cases hfd : fs[f]? with
      | none => rw [hfd] at g1; cases g1
      | some fd =>
        rw [hfd] at g1
        simp only [Bool.and_eq_true] at g1
        exact ⟨fs, fd, hu, hfd, Nat.eq_of_beq_eq_true g1.1, Nat.eq_of_beq_eq_true g1.2, fun fd' hfd' => g2 fd' (by simpa using hfd')⟩
    · cases this
  · have := h3 ((t, 1000000), p) (assoc2_mem hp)
    have this : (match P.underlying t with
      | some (.array n e) => Nat.beq n p.1 && Nat.beq e p.2
      | _ => false) = true := this
    split at this
    · rename_i n e hu
      simp only [Bool.and_eq_true] at this
      rw [hu, Nat.eq_of_beq_eq_true this.1, Nat.eq_of_beq_eq_true this.2]
    · cases this
end Go.GX
set_option linter.unusedVariables false
namespace Go.GX
variable [Inhabited BaseD]
open Go.RowKit Go.Shelf Go.Proofs

def AllOK (P : Program) (glb : Nat → Option GV) (l : List (Nat × Ct)) : Prop := ∀ f c, assoc l f = some c → CallsOK P glb f c
def AllMk (P : Program) (l : List (Nat × (Nat × Nat))) : Prop := ∀ f p, assoc l f = some p → MkOK P f p.1 p.2

theorem assoc_cons {α : Type} {p : Nat → α → Prop} {f : Nat} {c : α} {r : List (Nat × α)} (h : p f c) (hr : ∀ g d, assoc r g = some d → p g d) : ∀ g d, assoc ((f, c) :: r) g = some d → p g d := by
  intro g d hd
  simp only [assoc] at hd
  cases hb : Nat.beq f g with
  | true =>
    rw [hb, cond_true] at hd
    cases hd
    exact Nat.eq_of_beq_eq_true hb ▸ h
  | false =>
    rw [hb, cond_false] at hd
    exact hr g d hd

theorem AllOK.nil {P : Program} {glb : Nat → Option GV} : AllOK P glb [] := fun f c h => by cases h
theorem AllOK.cons {P : Program} {glb : Nat → Option GV} {f : Nat} {c : Ct} {r : List (Nat × Ct)} (h : CallsOK P glb f c) (hr : AllOK P glb r) : AllOK P glb ((f, c) :: r) := assoc_cons h hr
theorem AllMk.nil {P : Program} : AllMk P [] := fun f c h => by cases h
theorem AllMk.cons {P : Program} {f : Nat} {c : Nat × Nat} {r : List (Nat × (Nat × Nat))} (h : MkOK P f c.1 c.2) (hr : AllMk P r) : AllMk P ((f, c) :: r) := assoc_cons h hr

def AllInl (P : Program) (l : List Nat) : Prop := (∀ f, memL f l = true → f < 1000000 → InlOK P f) ∧ ∀ f, memL (f + 1000000) l = true → ClipOK P f
theorem AllInl.nil {P : Program} : AllInl P [] := ⟨fun f h => (by cases h), fun f h => (by cases h)⟩
theorem AllInl.cons {P : Program} {f : Nat} {r : List Nat} (h : InlOK P f) (hf : f < 1000000) (hr : AllInl P r) : AllInl P (f :: r) := by
  refine ⟨fun g hg hlt => ?_, fun g hg => ?_⟩
  · rw [memL_cons, Bool.or_eq_true] at hg
    rcases hg with hg | hg
    · exact Nat.eq_of_beq_eq_true hg ▸ h
    · exact hr.1 g hg hlt
  · rw [memL_cons, Bool.or_eq_true] at hg
    rcases hg with hg | hg
    · have := Nat.eq_of_beq_eq_true hg; omega
    · exact hr.2 g hg
theorem AllInl.clip {P : Program} {f : Nat} {r : List Nat} (h : ClipOK P f) (hr : AllInl P r) : AllInl P ((f + 1000000) :: r) := by
  refine ⟨fun g hg hlt => ?_, fun g hg => ?_⟩
  · rw [memL_cons, Bool.or_eq_true] at hg
    rcases hg with hg | hg
    · have := Nat.eq_of_beq_eq_true hg; omega
    · exact hr.1 g hg hlt
  · rw [memL_cons, Bool.or_eq_true] at hg
    rcases hg with hg | hg
    · have := Nat.eq_of_beq_eq_true hg
      obtain rfl : g = f := by omega
      exact h
    · exact hr.2 g hg
theorem AllInl.inlOK {P : Program} {l : List Nat} (h : AllInl P l) : ∀ f, (memL f l && Nat.blt f 1000000) = true → InlOK P f := by
  intro f hf
  simp only [Bool.and_eq_true, Nat.blt_eq] at hf
  exact h.1 f hf.1 hf.2

theorem ctOK_of {P : Program} {tyT : List (Nat × TI)} {slT : List (Nat × Nat)} {flT : List ((Nat × Nat) × (Nat × Nat))} {eqT : List (Nat × Nat)} {mkT : List (Nat × (Nat × Nat))} {glT : List (Nat × GV)} {ctT : List (Nat × Ct)} {inls lits : List Nat} (hct : AllOK P (assoc glT) ctT) (hmk : AllMk P mkT) (hin : AllInl P inls) : CtOK P (assoc glT) (Stat.of tyT slT flT eqT mkT glT ctT inls lits) := ⟨hct, hmk, hin.inlOK, hin.2, fun _ _ h => (by cases h), fun _ _ h => by cases h⟩

def AllMp (P : Program) (l : List (Nat × (Nat × Nat))) : Prop := ∀ t p, assoc l t = some p → KeyOK P t p
def AllItm (P : Program) (glb : Nat → Option GV) (l : List (Nat × ItM)) : Prop := ∀ f it, assoc l f = some it → ItmOK P glb f it
theorem AllMp.nil {P : Program} : AllMp P [] := fun f c h => by cases h
theorem AllMp.cons {P : Program} {f : Nat} {c : Nat × Nat} {r : List (Nat × (Nat × Nat))} (h : KeyOK P f c) (hr : AllMp P r) : AllMp P ((f, c) :: r) := assoc_cons h hr
theorem AllItm.nil {P : Program} {glb : Nat → Option GV} : AllItm P glb [] := fun f c h => by cases h
theorem AllItm.cons {P : Program} {glb : Nat → Option GV} {f : Nat} {c : ItM} {r : List (Nat × ItM)} (h : ItmOK P glb f c) (hr : AllItm P glb r) : AllItm P glb ((f, c) :: r) := assoc_cons h hr

theorem StatOK.more {P : Program} {S : Stat} (hS : StatOK P S) {mps : List (Nat × (Nat × Nat))} (hmp : AllMp P mps) (its : List (Nat × ItM)) : StatOK P ((S.withMp mps).withItm its) :=
  ⟨hS.mixed, hS.ty, hS.sl, hmp, hS.eq, hS.int, hS.dfd, hS.bool, hS.fld, hS.arr⟩

theorem callsOK_mkM {P : Program} {tyT : List (Nat × TI)} {slT : List (Nat × Nat)} {flT : List ((Nat × Nat) × (Nat × Nat))} {eqT : List (Nat × Nat)} {mkT : List (Nat × (Nat × Nat))} {glT : List (Nat × GV)} {ctT : List (Nat × Ct)} {inls : List Nat} {mps : List (Nat × (Nat × Nat))} {its : List (Nat × ItM)} (lits : List Nat) (hS : statB P tyT slT flT eqT = true) (hmp : AllMp P mps) (hit : AllItm P (assoc glT) its) (hmk : AllMk P mkT) (hin : AllInl P inls) (hct : AllOK P (assoc glT) ctT) (an : Nat → Items) {f : FuncId} {fn : Func} {c : Code}
    (hf : P.funcs[f]? = some fn) (hname : (fn.name == "runtime.NumGoroutine") = false) (hb : fn.body = some c) (ct : Ct) (H : ∀ x y Q, ct.wp x y Q → vcFunc (((Stat.of tyT slT flT eqT mkT glT ctT inls lits).withMp mps).withItm its) ct.own ct.fresh an fn c ct.A ct.C ct.R x y Q) : CallsOK P (assoc glT) f ct where
  enters := enters_of hf hname hb
  calls := fun X W x y vs cs hX hg hv hc Q hQ => calls_of_vc ((statOK_of hS).more hmp its) ⟨hct, hmk, hin.inlOK, hin.2, fun _ _ h => (by cases h), hit⟩ rfl an hf hname hb ct (H x y Q hQ) hX hg hv hc
end Go.GX
set_option linter.unusedVariables false
namespace Go.GX
variable [Inhabited BaseD]
open Go.RowKit Go.Shelf Go.Proofs

def fullGo (m : Nat) : Nat → List Rec → Bool
  | _, [] => true
  | i, x :: r => (Nat.blt i m || Nat.beq x.anc (2 ^ i - 1)) && fullGo m (i + 1) r

def fullFrom (m : Nat) (ops : List Oper) : Bool := edgesAll 0 ops && fullGo m 0 (ancRecs ops [])

theorem fullGo_spec (m : Nat) (l : List Rec) : ∀ (i : Nat), fullGo m i l = true → ∀ j x, l[j]? = some x → m ≤ i + j → x.anc = 2 ^ (i + j) - 1 := by
  induction l with
  | nil => intro i h j o ho; simp at ho
  | cons x r ih =>
    intro i h j x' hx hm
    simp only [fullGo, Bool.and_eq_true, Bool.or_eq_true] at h
    cases j with
    | zero =>
      simp only [List.getElem?_cons_zero, Option.some.injEq] at hx
      subst hx
      rcases h.1 with h1 | h1
      · have : i < m := by simpa [Nat.blt_eq] using h1
        omega
      · exact Nat.eq_of_beq_eq_true h1
    | succ j =>
      have := ih (i + 1) h.2 j x' (by simpa using hx) (by omega)
      rwa [show i + 1 + j = i + (j + 1) by omega] at this

theorem full_ready {all : List Oper} {D : Nat → Bool} {m : Nat} (hf : fullFrom m all = true) (hc : ClosedE all D) {i : Nat} {o : Oper} (hm : m ≤ i) (ho : all[i]? = some o) (hr : ∀ e, e ∈ o.after.toList → Region.binds .any e = true → D e.on = true) : ∀ j, j < i → D j = true := by
  intro j hj
  simp only [fullFrom, Bool.and_eq_true] at hf
  obtain ⟨rs', h1, h2, h3⟩ := ancRecs_at all [] i o ho
  simp only [List.length_nil, Nat.zero_add] at h1 h2 h3
  have ha := fullGo_spec m _ 0 hf.2 i _ h1 (by omega)
  simp only [Nat.zero_add] at ha
  have hb : Nat.testBit (ancOf rs' o) j = true := by rw [ha, Nat.testBit_two_pow_sub_one]; simpa using hj
  obtain ⟨e, he, hbd, hcase⟩ := ancOf_spec hb
  have hon := hr e he hbd
  rcases hcase with rfl | ⟨y, hy, hyi⟩
  · exact hon
  · have hel : e.on < i := by rw [← h2]; exact (List.getElem?_eq_some_iff.1 hy).1
    exact ancRecs_closed hc e.on y (by rw [← h3 _ hel]; exact hy) hon j hyi

section
variable {P : Program} {glb : Nat → Option GV} {Bk X0 : Nat → Prop} {w0 : World} {st0 : St} {ρ0 : Lab} {S : Stat} {lab : Nat} {F : Fence} {n : Nat} {all : List Oper} {es : List Ef}

theorem any_tail {m : Nat} (hfull : fullFrom m all = true) {Q : Exit → Act → World → Prop} : ∀ (d i : Nat) (fuel : Nat) (listed : Array Bool) (a : Act) (W : World), all.length = i + d → d ≤ fuel → m ≤ i → listed.size = all.length → (∀ k, k < all.length → listed.getD k false = decide (k < i)) →
    wpListIn F n P all.toArray Q (all.drop i) a W → wpAnyIn F n P .any all.toArray Q fuel listed a W := by
  have none : ∀ (i : Nat) (listed : Array Bool), all.length = i → listed.size = all.length → (∀ k, k < all.length → listed.getD k false = decide (k < i)) → Region.ready .any all.toArray listed = [] := by
    intro i listed hl hsz hli
    cases hr : Region.ready .any all.toArray listed with
    | nil => rfl
    | cons j r =>
      obtain ⟨o, h1, h2, h3, _⟩ := ready_lt (i := j) (by rw [hr]; exact List.mem_cons_self)
      rw [getD_tf _ _ (by omega), hli j h2] at h3
      simp at h3
      omega
  intro d
  induction d with
  | zero =>
    intro i fuel listed a W hl hfu hm hsz hli h
    rw [List.drop_of_length_le (by omega)] at h
    have hn := none i listed (by omega) hsz hli
    cases fuel with
    | zero => exact ⟨hn, h⟩
    | succ fuel => exact ⟨fun _ => h, fun j hj => by rw [hn] at hj; cases hj⟩
  | succ d ih =>
    intro i fuel listed a W hl hfu hm hsz hli h
    obtain ⟨fuel, rfl⟩ : ∃ f, fuel = f + 1 := ⟨fuel - 1, by omega⟩
    have hlt : i < all.length := by omega
    rw [List.drop_eq_getElem_cons hlt] at h
    have hf := hfull
    simp only [fullFrom, Bool.and_eq_true] at hf
    have hin : i ∈ Region.ready .any all.toArray listed := by
      refine mem_ready.2 ⟨by rw [getD_tf _ _ (by omega), hli i hlt]; simp, all[i], by simp, fun e he hb => ?_⟩
      have hedge := edgesAll_spec all 0 hf.1 i _ (List.getElem?_eq_getElem hlt)
      simp only [edgesOK, List.all_eq_true] at hedge
      have := hedge e (by simpa using he)
      rw [hb] at this
      have hlt2 : e.on < i := by simpa [Nat.blt_eq] using this
      rw [hli e.on (by omega)]
      simpa using hlt2
    refine ⟨fun hr => (by rw [hr] at hin; cases hin), fun j hj => ?_⟩
    obtain ⟨o, h1, h2, h3, h4⟩ := ready_lt hj
    rw [getD_tf _ _ (by omega), hli j h2] at h3
    have hji : i ≤ j := by simpa using h3
    have hc : ClosedE all (fun k => listed.getD k false) := by
      intro k o hk hd e he hb
      have hklt := (List.getElem?_eq_some_iff.1 hk).1
      replace hd : listed.getD k false = true := hd
      show listed.getD e.on false = true
      rw [hli k hklt] at hd
      have hki : k < i := by simpa using hd
      have hedge := edgesAll_spec all 0 hf.1 k o hk
      simp only [edgesOK, List.all_eq_true] at hedge
      have := hedge e he
      rw [hb] at this
      have hlt2 : e.on < k := by simpa [Nat.blt_eq] using this
      rw [hli e.on (by omega)]
      simp; omega
    have : j = i := by
      by_cases hji2 : j = i
      · exact hji2
      · have := full_ready hfull hc (by omega) h1 h4 i (by omega)
        replace this : listed.getD i false = true := this
        rw [hli i hlt] at this
        simp at this
    subst this
    unfold wpOpIn
    have hgo : all.toArray[j]? = some all[j] := by simp
    rw [hgo]
    simp only [wpListIn] at h ⊢
    have next : ∀ a' W', wpListIn F n P all.toArray Q (all.drop (j + 1)) a' W' → wpAnyIn F n P .any all.toArray Q fuel (listed.setIfInBounds j true) a' W' := fun a' W' h' =>
      ih (j + 1) fuel _ a' W' (by omega) (by omega) (by omega) (by simpa using hsz) (fun k hk => by
        by_cases hkj : k = j
        · subst hkj; simp [hsz, hk]
        · have := getD_set_ne (listed := listed) false (Ne.symm hkj)
          rw [this, hli k hk]
          by_cases hkj2 : k < j
          · simp [hkj2]; omega
          · simp [hkj2]; omega) h'
    split at h
    · rename_i hw
      rw [if_pos hw]
      exact Oper.wpIn_mono next h
    · rename_i hw
      rw [if_neg hw]
      exact ⟨h.1, next _ _ h.2⟩

theorem any_then (hF : Wide F P) (hS : StatOK P S) (hct : CtOK P glb S) (hg : S.glb = glb) {m : Nat} (hf : Facts S all lab none st0 es) (hlen : es.length = m) (hm : m ≤ all.length) (hfull : fullFrom m all = true) {Q : Exit → Act → World → Prop}
    (hQ : ∀ a W, InvD P glb Bk X0 w0 es st0 ρ0 (fun k => decide (k < m)) a W → wpListIn F n P all.toArray Q (all.drop m) a W) : ∀ (fuel : Nat) (listed : Array Bool) (a : Act) (W : World), listed.size = all.length → (∀ k, k < all.length → m ≤ k → listed.getD k false = false) →
    (List.range all.length).countP (fun k => !listed.getD k false) ≤ fuel → InvD P glb Bk X0 w0 es st0 ρ0 (fun k => listed.getD k false) a W → Closed es (fun k => listed.getD k false) → ClosedE all (fun k => listed.getD k false) → wpAnyIn F n P .any all.toArray Q fuel listed a W := by
  have hfe := hfull
  simp only [fullFrom, Bool.and_eq_true] at hfe
  have lis : ∀ (listed : Array Bool), listed.size = all.length → (∀ k, k < all.length → m ≤ k → listed.getD k false = false) → (∀ k, k < m → listed.getD k false = true) → ∀ k, listed.getD k false = decide (k < m) := by
    intro listed hsz h1 h2 k
    by_cases hk : k < m
    · rw [h2 k hk]; simp [hk]
    · by_cases hkl : k < all.length
      · rw [h1 k hkl (by omega)]; simp [hk]
      · simp [hk, Array.getElem?_eq_none (by omega : listed.size ≤ k)]
  have cnt : ∀ (listed : Array Bool), (∀ k, listed.getD k false = decide (k < m)) → all.length - m ≤ (List.range all.length).countP (fun k => !listed.getD k false) := by
    intro listed h
    have e : (fun k => !listed.getD k false) = fun k => decide (m ≤ k) := by funext k; rw [h k]; by_cases hk : k < m <;> simp [hk] <;> omega
    rw [e]
    have : ∀ n, n - m ≤ (List.range n).countP (fun k => decide (m ≤ k)) := by
      intro n
      induction n with
      | zero => simp
      | succ n ih => rw [List.range_succ, List.countP_append]; by_cases hk : m ≤ n <;> simp [hk] <;> omega
    exact this _
  intro fuel
  induction fuel with
  | zero =>
    intro listed a W hsz hlo hcount hinv hcl hce
    have hall : ∀ k, k < all.length → listed.getD k false = true := by
      intro k hk
      have h0 : (List.range all.length).countP (fun k => !listed.getD k false) = 0 := by omega
      have := List.countP_eq_zero.1 h0 k (List.mem_range.2 hk)
      simpa using this
    have hml : m = all.length := by
      rcases Nat.lt_or_ge m all.length with h | h
      · have h1 := hlo m h (Nat.le_refl _)
        rw [hall m h] at h1; cases h1
      · omega
    have hlis := lis listed hsz hlo (fun k hk => hall k (by omega))
    refine any_tail hfull 0 m 0 listed a W (by omega) (Nat.le_refl _) (Nat.le_refl _) hsz (fun k _ => hlis k) (hQ a W ?_)
    have : (fun k => listed.getD k false) = fun k => decide (k < m) := funext hlis
    rwa [this] at hinv
  | succ fuel ih =>
    intro listed a W hsz hlo hcount hinv hcl hce
    by_cases hdone : ∀ k, k < m → listed.getD k false = true
    · have hlis := lis listed hsz hlo hdone
      refine any_tail hfull (all.length - m) m (fuel + 1) listed a W (by omega) (Nat.le_trans (cnt listed hlis) hcount) (Nat.le_refl _) hsz (fun k _ => hlis k) (hQ a W ?_)
      have : (fun k => listed.getD k false) = fun k => decide (k < m) := funext hlis
      rwa [this] at hinv
    · have hex : ∃ k, k < m ∧ listed.getD k false = false := by
        refine Classical.byContradiction fun hno => hdone fun k hk => ?_
        cases hq : listed.getD k false with
        | true => rfl
        | false => exact absurd ⟨k, hk, hq⟩ hno
      obtain ⟨k0, hk0, hk1⟩ := hex
      refine ⟨fun hr => ?_, fun i hi => ?_⟩
      · exfalso

        have : ∀ k, k < m → listed.getD k false = true := by
          intro k
          induction k using Nat.strongRecOn with
          | _ k ihk =>
            intro hk
            cases hd : listed.getD k false with
            | true => rfl
            | false =>
              exfalso
              have hek : all[k]? = some all[k] := List.getElem?_eq_getElem (by omega)
              have : k ∈ Region.ready .any all.toArray listed := by
                refine mem_ready.2 ⟨by rw [getD_tf listed k (by omega)]; exact hd, all[k], by simp, fun ed hed hb => ?_⟩
                have hedge := edgesAll_spec all 0 hfe.1 k _ hek
                simp only [edgesOK, List.all_eq_true] at hedge
                have := hedge ed (by simpa using hed)
                rw [hb] at this
                have hlt : ed.on < k := by simpa [Nat.blt_eq] using this
                exact ihk ed.on hlt (by omega)
              rw [hr] at this
              simp at this
        rw [this k0 hk0] at hk1; cases hk1
      · obtain ⟨o, h2, hlt, h1, h3⟩ := ready_lt hi
        have him : i < m := by
          rcases Nat.lt_or_ge i m with h | h
          · exact h
          · have := full_ready hfull hce h h2 h3 k0 (by omega)
            rw [hk1] at this; cases this
        have hd : listed.getD i false = false := by rw [← getD_tf listed i (by omega)]; exact h1
        have hset : (listed.setIfInBounds i true).getD i false = true := by simp [hsz, hlt]
        refine any_step hF hS hct hg hf (by omega) hcl (i := i) (D' := fun k => (listed.setIfInBounds i true).getD k false) (List.getElem?_eq_getElem (by omega)) h2 (fun hh => by cases hh) hd h3 hset (fun k hk => getD_set_ne false (Ne.symm hk)) (fun a' W' hinv' hcl' => ?_) hinv
        refine ih _ a' W' (by simpa using hsz) (fun k hk hmk => by rw [getD_set_ne false (by omega : i ≠ k)]; exact hlo k hk hmk) ?_ hinv' hcl' ?_
        · have hlt2 : (List.range all.length).countP (fun k => !(listed.setIfInBounds i true).getD k false) < (List.range all.length).countP (fun k => !listed.getD k false) := by
            refine countP_lt (fun x hx => ?_) _ i (List.mem_range.2 hlt) (by rw [hd]; rfl) (by rw [hset]; rfl)
            cases hq : listed.getD x false with
            | false => rfl
            | true => rw [getD_set_true hq] at hx; cases hx
          omega
        · intro k ok hk hdk e he hb
          by_cases hki : k = i
          · subst hki
            rw [h2] at hk; cases hk
            exact getD_set_true (h3 e he hb)
          · have hdk' : listed.getD k false = true := by
              have := getD_set_ne (listed := listed) false (Ne.symm hki)
              rw [← this]; exact hdk
            exact getD_set_true (hce k ok hk hdk' e he hb)

theorem vcAny_then (hF : Wide F P) (hS : StatOK P S) (hct : CtOK P glb S) (hg : S.glb = glb) (id : Nat) (ops : Array Oper) (lab m : Nat) (K : St → Prop) (Q : Exit → Act → World → Prop) (wr : List Nat)
    (hwr : ∀ (j : Nat) o d, ops.toList[j]? = some o → o.dst = some d → d ∈ wr) {a : Act} {W : World} (mt : Mt P glb Bk X0 w0 st0 ρ0 a W) (hm : m ≤ ops.toList.length) (hfull : fullFrom m ops.toList = true) (h : vcAny S ops.toList lab (ops.toList.take m) 0 [] st0 K)
    (hQ : ∀ a W, PostR P glb Bk X0 w0 st0 ρ0 wr K a W → wpListIn F n P ops Q (ops.toList.drop m) a W) : (Code.region id ops true).wpIn F n P Q a W := by
  obtain ⟨es, hlen, hf, hk⟩ := text_run S ops.toList lab none K st0 (ops.toList.take m) 0 [] st0 rfl (fun j x hx => by
      rw [Nat.zero_add]
      rw [List.getElem?_take] at hx
      split at hx
      · exact hx
      · cases hx) (fun i e he => by simp at he) rfl h
  rw [Nat.zero_add, List.length_take, Nat.min_eq_left hm] at hlen
  refine wpIn_region_any hS.mixed ?_
  have m1 : Mt P glb Bk X0 w0 st0 ρ0 a { W with drawn := W.drawn + 1 } := mt.below ⟨rfl, rfl, rfl, Nat.le_refl _, fun _ _ => rfl⟩
  have hsz : ops.size = ops.toList.length := by simp
  have noD : ∀ k, (Array.replicate ops.size false).getD k false = false := fun k => by simp only [Array.getD_eq_getD_getElem?, Array.getElem?_replicate]; split <;> rfl
  have := any_then (Bk := Bk) (X0 := X0) (w0 := w0) (ρ0 := ρ0) (n := n) hF hS hct hg hf hlen hm hfull (Q := Q) (fun a' W' hinv => ?_) ops.size (Array.replicate ops.size false) a { W with drawn := W.drawn + 1 } (by simp) (fun k _ _ => noD k) ?_ ?_ ?_ ?_
  · simpa using this
  · obtain ⟨ρ', dom, hle', m', hdom⟩ := hinv
    have hall : appD (fun k => decide (k < m)) es 0 st0 = allE es st0 := appD_all es 0 st0 (fun k hk => by rw [Nat.zero_add]; simp only [decide_eq_true_eq]; omega)
    have fin := hQ a' W' ⟨allE es st0, ρ', hk, ⟨?_, hle'⟩, m'.same ?_ (fun t => ?_) (fun l => ?_) (fun l v hv => ?_) ?_⟩
    · simpa using fin
    · refine allE_frm wr es st0 (fun e he d hd => ?_)
      obtain ⟨i, hi⟩ := List.getElem?_of_mem he
      obtain ⟨o, fe, _, _⟩ := hf i e hi
      exact hwr i o d fe.op (by rw [← fe.wr]; exact hd)
    · rw [allE_n]; rfl
    · rw [← hall]; rfl
    · rw [canon_look, hall]
    · refine (allE_dom es st0).2 ?_
      rcases hdom l (m'.dom l v hv) with h | ⟨k, e, he, _, h⟩
      · exact .inl h
      · exact .inr ⟨e, List.mem_of_getElem? he, h⟩
    · exact allE_stamp es st0 mt.stamp
  · exact Nat.le_trans List.countP_le_length (by simp)
  · refine ⟨ρ0, st0.dom, ρ0.le_refl, m1.same rfl (fun t => ?_) (fun l => ?_) (fun l v hv => mt.dom l v hv) (fun l he s hh => ?_), fun l hl => .inl hl⟩
    · show (appD _ es 0 st0).tm t = _
      rw [appD_none es 0 st0 noD]
    · rw [canon_look, appD_none es 0 st0 noD]
    · have : ((appD (fun k => (Array.replicate ops.size false).getD k false) es 0 st0).look l).map (fun h => (h, 0)) = some (he, s) := hh
      cases hq : (appD (fun k => (Array.replicate ops.size false).getD k false) es 0 st0).look l with
      | none => rw [hq] at this; cases this
      | some x => rw [hq] at this; cases this; exact Nat.le_refl _
  · intro k e he hd
    exact absurd ((noD k).symm.trans hd) (by decide)
  · intro k o hk hd
    exact absurd ((noD k).symm.trans hd) (by decide)
end
end Go.GX
set_option linter.unusedVariables false
namespace Go.GX
variable [Inhabited BaseD]
open Go.RowKit Go.Shelf Go.Proofs

structure YS (α : Type) where
  S : Stat
  isY : Nat → Bool
  yop : St → List α → Oper → (List α → Prop) → Prop
  fst : Nat → Nat

section
variable {α : Type} (Y : YS α)

def yStep (st : St) (lab : Nat) (o : Oper) (g : List α) (s : Bool) (k : SV → List (Nat × Option HE) → List α → Bool → Prop) : Prop :=
  match Y.isY lab with
  | true => chk (!s && noLn st.look st.dom) (Y.yop st g o fun g' => k (boolSV true) [] g' false ∧ k (boolSV false) [] g' true)
  | false => sem Y.S false st lab o fun sv u => k sv u g s

def yOps (all : List Oper) (lab : Nat) : List Oper → Nat → St → List α → Bool → (St → List α → Bool → Prop) → Prop
  | [], _, st, g, s, K => K st g s
  | o :: rest, i, st, g, s, K =>
    chk (freshL (lab + i) st.dom && dstOK st.n o.dst)
    (match o.guard with
    | none => yStep Y st (lab + i) o g s fun sv u g s => yOps all lab rest (i + 1) ((st.upds u).put o.dst sv) g s K
    | some (j, want) => match undS st all j with
      | some _ => yOps all lab rest (i + 1) (st.put o.dst (.tup [])) g s K
      | none => yieldS st all j fun d b =>
        gdS b want (yStep Y (st.put (some d) (boolSV want)) (lab + i) o g s fun sv u g s => yOps all lab rest (i + 1) (((st.put (some d) (boolSV want)).upds u).put o.dst sv) g s K)
          (yOps all lab rest (i + 1) ((st.put (some d) (boolSV (!want))).put o.dst (.tup [])) g s K))

def vcY (an : Nat → Items) : Code → St → List α → Bool → (Xt → St → List α → Bool → Prop) → Prop
  | .skip, st, g, s, K => K .norm st g s
  | .region id ops false, st, g, s, K => yOps Y ops.toList (id * 100) ops.toList 0 st g s (K .norm)
  | .region id ops true, st, g, s, K => chk (Nat.ble (Y.fst id) ops.toList.length && fullFrom (Y.fst id) ops.toList) (vcAny Y.S ops.toList (id * 100) (ops.toList.take (Y.fst id)) 0 [] st fun st =>
      yOps Y ops.toList (id * 100) (ops.toList.drop (Y.fst id)) (Y.fst id) st g s (K .norm))
  | .seq a b, st, g, s, K => vcY an a st g s fun x st' g s => match x with
    | .norm => vcY an b st' g s K
    | .exit i => K (.exit i) st' g s
    | .ret => K .ret st' g s
  | .cond c t e, st, g, s, K => oneB (ev Y.S st 0 c) fun b => cnd b (vcY an t (known st c true) g s K) (vcY an e (known st c false) g s K)
  | .block id (.loop body), st, g, s, K =>
    chk (!s && nodupL (an id).labs && (an id).ok st (codeWrites body)) <| ∃ (I : List α → (an id).Cur Prop) (μ : (an id).Cur Nat), (an id).get Y.S ((an id).kept st) st [] (fun x => (an id).app (I g) x) ∧
      ∀ g, (an id).All fun x => (an id).app (I g) x → vcY an body ((an id).head st (codeWrites body) x) g false fun e st' g s => match e with
        | .norm => chk (!s && keptOK (an id).labs ((an id).head st (codeWrites body) x) st' ((an id).labs ++ st.dom)) <| (an id).get Y.S ((an id).kept st) st' [] fun x' => (an id).app (I g) x' ∧ (an id).app μ x' < (an id).app μ x
        | .exit i => cond (Nat.beq i id) (K .norm st' g s) (K (.exit i) st' g s)
        | .ret => K .ret st' g s
  | .block id (.rangeFunc f ps asg body), st, g, s, K => vc Y.S an (.block id (.rangeFunc f ps asg body)) st fun x st' => K x st' g s
  | .block id c, st, g, s, K => vcY an c st g s fun x st' g s => match x with
    | .norm => K .norm st' g s
    | .exit i => cond (Nat.beq i id) (K .norm st' g s) (K (.exit i) st' g s)
    | .ret => K .ret st' g s
  | .exit id, st, g, s, K => K (.exit id) st g s
  | .ret, st, g, s, K => K .ret st g s
  | _, _, _, _, _ => False
end

theorem Kept.trans {X : Nat → Prop} {W0 : World} {I I' : Nat → Prop} {A B C : World} (h : Kept X W0 I A B) (h' : Kept X W0 I' B C) (hi : ∀ k, I k → I' k) : Kept X W0 I A C where
  os := h'.os.trans h.os
  tape := h'.tape.trans h.tape
  output := h'.output.trans h.output
  size := Nat.le_trans h.size h'.size
  own := fun k hk hn => (h'.own k (hi k hk) (fun es c hc => by rw [h.own k hk hn] at hc; exact hn es c hc)).trans (h.own k hk hn)
  old := fun k hc hlt hx => by
    have e1 := h.old k hc hlt hx
    obtain ⟨cs, t, fr, hc⟩ := hc
    exact (h'.old k ⟨cs, t, fr, e1.trans hc⟩ hlt hx).trans e1
  memo := fun mm xs hp hg => h'.memo mm xs (hp.keep (fun k hc hx => by
      have hx : I k ∨ (k < W0.heap.size ∧ ¬ X k) := Classical.byContradiction hx
      rcases hx with hx | hx
      · exact h.own k hx (noMap_cells hc)
      · exact h.old k hc hx.1 hx.2) (fun k hx _ hn => hx fun hh => hn (hh.imp (hi k) id))) (h.memo mm xs hp hg)

structure Yt (P : Program) (α : Type) where
  vals : (Nat → Prop) → World → α → List Value → Prop
  X : Nat → Prop
  W0 : World
  n : Nat
  l : Nat
  xs : List α
  J : List α → (Nat → Prop) → World → Prop
  Jx : (Nat → Prop) → World → Prop
  jt : ∀ pre I W I' W', J pre I W → Turned I W I' W' → J pre I' W'
  jxt : ∀ I W I' W', Jx I W → Turned I W I' W' → Jx I' W'
  yd : ∀ pre x rest I W vs, xs = pre ++ x :: rest → J pre I W → (∀ k, I k → W0.heap.size ≤ k ∧ k < W.heap.size) → W0.heap.size ≤ W.heap.size → vals (fun k => ¬ I k) W x vs →
      YieldAt Fence.wide n P l vs.toArray W fun e W' => (e = .returned (.bool true) ∧ J (pre ++ [x]) I W' ∧ Kept X W0 I W W') ∨ (e = .returned (.bool false) ∧ Jx I W' ∧ Kept X W0 I W W')

section
variable {P : Program} {glb : Nat → Option GV} {α : Type}

def yBk (B0 I : Nat → Prop) (W : World) (k : Nat) : Prop := k < W.heap.size ∧ (¬ I k ∨ B0 k)
def yX (T : Yt P α) (I : Nat → Prop) (W : World) (k : Nat) : Prop := k < W.heap.size ∧ ¬ I k ∧ (T.W0.heap.size ≤ k ∨ T.X k)

def nowI (I : Nat → Prop) (Wl W : World) (k : Nat) : Prop := I k ∨ (Wl.heap.size ≤ k ∧ k < W.heap.size)

structure ItOK (glb : Nat → Option GV) (T : Yt P α) (B0 : Nat → Prop) (We : World) (g : List α) (s : Bool) (st : St) (ρ : Lab) (a : Act) (W : World) (I : Nat → Prop) (Wl : World) : Prop where
  j : s = false → T.J g I Wl
  jx : s = true → T.Jx I Wl
  b0 : ∀ k, B0 k → I k
  new : ∀ k, I k → B0 k ∨ We.heap.size ≤ k
  low : ∀ k, I k → T.W0.heap.size ≤ k ∧ k < Wl.heap.size
  sz : T.W0.heap.size ≤ Wl.heap.size
  kept : Kept T.X T.W0 B0 We Wl
  mt : Mt P glb (yBk B0 I Wl) (yX T I Wl) Wl st ρ a W

section
variable {T : Yt P α} {B0 I : Nat → Prop} {We Wl W W' : World} {g : List α} {s : Bool} {st st' : St} {ρ ρ' : Lab} {a a' : Act}

theorem ItOK.go (h : ItOK glb T B0 We g s st ρ a W I Wl) (m : Mt P glb (yBk B0 I Wl) (yX T I Wl) Wl st' ρ' a' W') : ItOK glb T B0 We g s st' ρ' a' W' I Wl :=
  ⟨h.j, h.jx, h.b0, h.new, h.low, h.sz, h.kept, m⟩

theorem ItOK.turned (h : ItOK glb T B0 We g s st ρ a W I Wl) : Turned I Wl (nowI I Wl W) W where
  os := h.mt.bel.os
  tape := h.mt.bel.tape
  output := h.mt.bel.output
  size := h.mt.bel.size
  keep := fun k hk hi => h.mt.bel.block k ⟨hk, .inl hi⟩
  memo := fun mm xs hp hg => h.mt.bel.memo mm xs (hp.mono fun k hx hc hn => hn ⟨cells_lt hc, .inl hx⟩) hg
  more := fun k hk => .inl hk
  new := fun k hk => hk

theorem ItOK.nowLow (h : ItOK glb T B0 We g s st ρ a W I Wl) : ∀ k, nowI I Wl W k → T.W0.heap.size ≤ k ∧ k < W.heap.size := by
  rintro k (hk | hk)
  · exact ⟨(h.low k hk).1, Nat.lt_of_lt_of_le (h.low k hk).2 h.mt.bel.size⟩
  · exact ⟨Nat.le_trans h.sz hk.1, hk.2⟩

theorem ItOK.nowSz (h : ItOK glb T B0 We g s st ρ a W I Wl) : T.W0.heap.size ≤ W.heap.size := Nat.le_trans h.sz h.mt.bel.size

theorem ItOK.ownNow (h : ItOK glb T B0 We g s st ρ a W I Wl) {l : Nat} {he : HE} {q : Nat} {v : Value} {k : Nat} (h1 : st.hp l = some (he, q)) (h2 : ρ l = some v) (h3 : OwnB ρ he v k) (hl : he.isLn = false) : nowI I Wl W k ∧ ¬ B0 k := by
  have hnb := (h.mt.nb l he q v k h1 h2 h3).1 hl
  obtain ⟨v', hv', hok⟩ := h.mt.hps l he q h1
  rw [h2] at hv'; cases hv'
  have hlt := (hok.lt h3).2
  by_cases hk : k < Wl.heap.size
  · have : I k ∧ ¬ B0 k := ⟨Classical.byContradiction fun hi => hnb ⟨hk, .inl hi⟩, fun hb => hnb ⟨hk, .inr hb⟩⟩
    exact ⟨.inl this.1, this.2⟩
  · refine ⟨.inr ⟨by omega, hlt⟩, fun hb => ?_⟩
    have := (h.low k (h.b0 k hb)).2
    omega

theorem ItOK.keptW (h : ItOK glb T B0 We g s st ρ a W I Wl) : Kept T.X T.W0 B0 Wl W :=
  have key : ∀ k, B0 k ∨ (k < T.W0.heap.size ∧ ¬ T.X k) → yBk B0 I Wl k := by
    rintro k (hb | hb)
    · exact ⟨(h.low k (h.b0 k hb)).2, .inr hb⟩
    · exact ⟨Nat.lt_of_lt_of_le hb.1 h.sz, .inl fun hi => by have := (h.low k hi).1; omega⟩
  ⟨h.mt.bel.os, h.mt.bel.tape, h.mt.bel.output, h.mt.bel.size, fun k hb => h.mt.bel.block k (key k (.inl hb)), fun k hc hlt hx => h.mt.bel.block k (key k (.inr ⟨hlt, hx⟩)) (noMap_cells hc),
    fun mm xs hp hg => h.mt.bel.memo mm xs (hp.mono fun k hx _ hn => hx fun h => hn (key k h)) hg⟩

theorem ItOK.after (h : ItOK glb T B0 We g s st ρ a W I Wl) (hln : noLn st.look st.dom = true) {g' : List α} {s' : Bool} {I' : Nat → Prop} (hj : s' = false → T.J g' I' W') (hjx : s' = true → T.Jx I' W')
    (hmore : ∀ k, nowI I Wl W k → I' k) (hnew : ∀ k, I' k → nowI I Wl W k ∨ (W.heap.size ≤ k ∧ k < W'.heap.size)) (hk : Kept T.X T.W0 (nowI I Wl W) W W') : ItOK glb T B0 We g' s' st ρ a W' I' W' := by
  have m := h.mt
  have hlow := h.nowLow
  have hlow' : ∀ k, I' k → T.W0.heap.size ≤ k ∧ k < W'.heap.size := by
    intro k hk'
    rcases hnew k hk' with h1 | h1
    · exact ⟨(hlow k h1).1, Nat.lt_of_lt_of_le (hlow k h1).2 hk.size⟩
    · exact ⟨Nat.le_trans h.nowSz h1.1, h1.2⟩
  have noln : ∀ {l he q}, st.hp l = some (he, q) → he.isLn = false := by
    intro l he q hl
    obtain ⟨v, hv, _⟩ := m.hps l he q hl
    exact noLn_spec hln l (memL_iff.1 (m.dom l v hv)) he (by show (st.hp l).map (·.1) = some he; rw [hl]; rfl)
  have hown : ∀ {l he q v k}, st.hp l = some (he, q) → ρ l = some v → OwnB ρ he v k → nowI I Wl W k ∧ ¬ B0 k := fun h1 h2 h3 => h.ownNow h1 h2 h3 (noln h1)

  have hWlW : Kept T.X T.W0 B0 Wl W := h.keptW
  have key : ∀ k, (∃ cs t fr, W.heap[k]? = some (.cells cs t fr)) → ¬ Xs st ρ (yX T I Wl) k → nowI I Wl W k ∨ (k < T.W0.heap.size ∧ ¬ T.X k) := by
    intro k hc hx
    by_cases hn : nowI I Wl W k
    · exact .inl hn
    · have hlt : k < W.heap.size := cells_lt hc
      have hkl : k < Wl.heap.size := by
        rcases Nat.lt_or_ge k Wl.heap.size with h1 | h1
        · exact h1
        · exact absurd (.inr ⟨h1, hlt⟩) hn
      have hno : ¬ (T.W0.heap.size ≤ k ∨ T.X k) := fun h2 => hx (.inl ⟨hkl, fun hi => hn (.inl hi), h2⟩)
      exact .inr ⟨Nat.lt_of_not_le fun h3 => hno (.inl h3), fun h3 => hno (.inr h3)⟩
  have ev : Evo (Xs st ρ (yX T I Wl)) W (Xs st ρ (yX T I' W')) W' := by
    refine ⟨hk.size, fun k hc hx => ?_, fun k hx hlt => ?_, ?_, fun mm xs hp hg => hk.memo mm xs (hp.mono fun k hx hc hno => hno (key k hc hx)) hg⟩
    · rcases key k hc hx with h1 | h1
      · exact hk.own k h1 (noMap_cells hc)
      · exact hk.old k hc h1.1 h1.2
    · rcases hx with ⟨h1, h2, h3⟩ | hx
      · have hn : ¬ nowI I Wl W k := fun hn => h2 (hmore k hn)
        have hkl : k < Wl.heap.size := by
          rcases Nat.lt_or_ge k Wl.heap.size with h1 | h1
          · exact h1
          · exact absurd (.inr ⟨h1, hlt⟩) hn
        exact .inl ⟨hkl, fun hi => hn (.inl hi), h3⟩
      · exact .inr hx
    · rintro k (hx | ⟨l, he, q, v, h1, h2, h3⟩)
      · exact hx.1
      · exact Nat.lt_of_lt_of_le (hlow k (hown h1 h2 h3).1).2 hk.size
  refine ⟨hj, hjx, fun k hb => hmore k (.inl (h.b0 k hb)), fun k hk' => ?_, hlow', Nat.le_trans h.nowSz hk.size, ?_, ?_⟩
  · rcases hnew k hk' with (h1 | h1) | h1
    · exact h.new k h1
    · exact .inr (Nat.le_trans h.kept.size h1.1)
    · exact .inr (Nat.le_trans (Nat.le_trans h.kept.size m.bel.size) h1.1)
  · exact (h.kept.trans hWlW fun _ h => h).trans hk fun k hb => .inl (h.b0 k hb)
  · refine ⟨m.size, ?_, fun t => (m.tms t).mono ρ.le_refl ev, fun l he q hl => ?_, m.dis, fun k hx => hx.1, fun k hb => hb.1, .refl _ _, fun l he q v k h1 h2 h3 => ⟨fun _ hb => ?_, fun hx => ?_⟩, m.glb.evo ev, m.dom, m.stamp⟩
    · obtain ⟨Ds, d1, d2, d3⟩ := m.dfr
      refine ⟨Ds, d1, d2, fun D hD => ?_⟩
      obtain ⟨g1, g2⟩ := d3 D hD
      have hlt := (Array.getElem?_eq_some_iff.1 g1).1
      have hn : nowI I Wl W D ∧ ¬ B0 D := by
        by_cases hkl : D < Wl.heap.size
        · exact ⟨.inl (Classical.byContradiction fun hi => g2 ⟨hkl, .inl hi⟩), fun hb => g2 ⟨hkl, .inr hb⟩⟩
        · exact ⟨.inr ⟨by omega, hlt⟩, fun hb => by have := (h.low D (h.b0 D hb)).2; omega⟩
      exact ⟨(hk.own D hn.1 (fun es c hc => by rw [g1] at hc; cases hc)).trans g1, fun hb => hb.2.elim (fun hi => hi (hmore D hn.1)) hn.2⟩
    · obtain ⟨v, hv, hok⟩ := m.hps l he q hl
      exact ⟨v, hv, hok.mono ρ.le_refl ev (fun k hk' => hk.own k (hown hl hv hk').1 (noMap_cells (hok.cells hk')))⟩
    · exact hb.2.elim (fun hi => hi (hmore k (hown h1 h2 h3).1)) (hown h1 h2 h3).2
    · exact hx.2.1 (hmore k (hown h1 h2 h3).1)
end

def YR (T : Yt P α) (I : Nat → Prop) (W : World) (k : List α → Prop) (e : Ending) (W' : World) : Prop :=
  ∃ b g' I', e = .returned (.bool b) ∧ k g' ∧ (b = true → T.J g' I' W') ∧ (b = false → T.Jx I' W') ∧ (∀ j, I j → I' j) ∧ (∀ j, I' j → I j ∨ (W.heap.size ≤ j ∧ j < W'.heap.size)) ∧ Kept T.X T.W0 I W W'

def YOut (P : Program) (o : Oper) (a : Act) (W : World) (R : Ending → World → Prop) : Prop :=
  (∃ l f tmps asg body, (execOp a.eval o).run P W = .ok (.round l f tmps asg body) W ∧ RoundIn Fence.wide 0 P l f tmps asg body W R) ∨ (∃ f args, (execOp a.eval o).run P W = .ok (.enter f args) W ∧ Calls P f args W R)

structure YopOK (glb : Nat → Option GV) (T : Yt P α) (B0 : Nat → Prop) (We : World) (Y : YS α) : Prop where
  ok : ∀ (st : St) (ρ : Lab) (a : Act) (W : World) (g : List α) (o : Oper) (k : List α → Prop) (I : Nat → Prop) (Wl : World), ItOK glb T B0 We g false st ρ a W I Wl → T.J g (nowI I Wl W) W → Y.yop st g o k →
    YOut P o a W (YR T (nowI I Wl W) W k) ∧ ∀ c, o.op ≠ .defer c

theorem round_any {m m' : Nat} {l : Nat} {f : FuncId} {tmps : Array Value} {assign body : Code} {w : World} {R : Ending → World → Prop} (h : RoundIn Fence.wide m P l f tmps assign body w R) : RoundIn Fence.wide m' P l f tmps assign body w R :=
  ⟨h.1, fun c cs _ => h.2 c cs (fun d h => by cases h)⟩

theorem YOut.wpIn {n : Nat} {o : Oper} {a : Act} {W : World} {R : Ending → World → Prop} {next : Act → World → Prop} {Q : Exit → Act → World → Prop} (hd : ∀ c, o.op ≠ .defer c)
    (h : YOut P o a W R) (hn : ∀ e w', R e w' → ∃ v, e = .returned v ∧ next (a.put o.dst v) w') : o.wpIn Fence.wide n P a W next Q := by
  refine ⟨fun f _ => trivial, ?_⟩
  rw [Oper.semAt_eq _ _ _ hd]
  rcases h with ⟨l, f, tmps, asg, body, h1, h2⟩ | ⟨f, args, h1, h2⟩
  · rw [h1]
    refine ⟨fun h => (by cases h), (round_any h2).mono ?_⟩
    intro e w' hr
    obtain ⟨v, rfl, h⟩ := hn e w' hr
    exact h
  · rw [h1]
    refine ⟨fun h => (by cases h), (callsIn_wide.2 h2).mono ?_⟩
    intro e w' hr
    obtain ⟨v, rfl, h⟩ := hn e w' hr
    exact h

section
variable {T : Yt P α} {B0 : Nat → Prop} {We : World} {Y : YS α}

def PostY (glb : Nat → Option GV) (T : Yt P α) (B0 : Nat → Prop) (We : World) (st : St) (ρ : Lab) (wr : List Nat) (K : Xt → St → List α → Bool → Prop) (e : Exit) (a : Act) (W : World) : Prop :=
  ∃ x st' ρ' g s I Wl, e = x.ex ∧ K x st' g s ∧ (Frm st st' wr ∧ ρ.le ρ') ∧ ItOK glb T B0 We g s st' ρ' a W I Wl

theorem yStep_ok {n : Nat} (hS : StatOK P Y.S) (hct : CtOK P glb Y.S) (hg : Y.S.glb = glb) (hy : YopOK glb T B0 We Y) {st : St} {ρ : Lab} {a : Act} {W : World} {g : List α} {s : Bool} {I : Nat → Prop} {Wl : World} {lab : Nat} {o : Oper} {k : SV → List (Nat × Option HE) → List α → Bool → Prop}
    {next : Act → World → Prop} {Q : Exit → Act → World → Prop} (hfr : freshL lab st.dom = true) (h : ItOK glb T B0 We g s st ρ a W I Wl) (hk : yStep Y st lab o g s k)
    (hn : ∀ sv u g' s' ρ' v W' I' Wl', k sv u g' s' → ρ.le ρ' → ItOK glb T B0 We g' s' (st.upds u) ρ' a W' I' Wl' → RepV P ρ' (Xs (st.upds u) ρ' (yX T I' Wl')) W' sv v → next (a.put o.dst v) W') : o.wpIn Fence.wide n P a W next Q := by
  unfold yStep at hk
  cases hi : Y.isY lab with
  | false =>
    rw [hi] at hk
    obtain ⟨h1, h2⟩ := sem_ok hS hct hg h.mt hfr hk
    refine h1.wpIn (Wide.wide P) h2 fun v w' hfit => ?_
    obtain ⟨sv, u, ρ', hk', hle, m', hv, _⟩ := hfit
    exact hn sv u g s ρ' v w' I Wl hk' hle (h.go m') hv
  | true =>
    rw [hi] at hk
    obtain ⟨hc, hk2⟩ := chk_iff.1 hk
    clear hk
    simp only [Bool.and_eq_true, Bool.not_eq_true'] at hc
    obtain ⟨hs, hln⟩ := hc
    subst hs
    obtain ⟨h1, h2⟩ := hy.ok st ρ a W g o _ I Wl h (T.jt _ _ _ _ _ (h.j rfl) h.turned) hk2
    refine h1.wpIn h2 fun e w' hr => ?_
    obtain ⟨b, g', I', rfl, ⟨k1, k2⟩, hj, hjx, hmore, hnew, hkept⟩ := hr
    refine ⟨_, rfl, ?_⟩
    cases b with
    | true => exact hn (boolSV true) [] g' false ρ (.bool true) w' I' w' k1 ρ.le_refl (h.after hln (fun _ => hj rfl) (fun h => by cases h) hmore hnew hkept) (rep_bool true)
    | false => exact hn (boolSV false) [] g' true ρ (.bool false) w' I' w' k2 ρ.le_refl (h.after hln (fun h => by cases h) (fun _ => hjx rfl) hmore hnew hkept) (rep_bool false)

def PostRY (glb : Nat → Option GV) (T : Yt P α) (B0 : Nat → Prop) (We : World) (st : St) (ρ : Lab) (wr : List Nat) (K : St → List α → Bool → Prop) (a : Act) (W : World) : Prop :=
  ∃ st' ρ' g s I Wl, K st' g s ∧ (Frm st st' wr ∧ ρ.le ρ') ∧ ItOK glb T B0 We g s st' ρ' a W I Wl

theorem yOps_ok {n : Nat} (hS : StatOK P Y.S) (hct : CtOK P glb Y.S) (hg : Y.S.glb = glb) (hy : YopOK glb T B0 We Y) (all : List Oper) (lab : Nat) (K : St → List α → Bool → Prop) (Q : Exit → Act → World → Prop) (st0 : St) (ρ0 : Lab) (wr : List Nat)
    (hwr : ∀ (j : Nat) o d, all[j]? = some o → o.dst = some d → d ∈ wr) (hQ : ∀ a W, PostRY glb T B0 We st0 ρ0 wr K a W → Q .normal a W) :
    ∀ (rest : List Oper) (i : Nat) (st : St) (ρ : Lab) (a : Act) (W : World) (g : List α) (s : Bool) (I : Nat → Prop) (Wl : World), (∀ j, rest[j]? = all[i + j]?) → Frm st0 st wr ∧ ρ0.le ρ → ItOK glb T B0 We g s st ρ a W I Wl → yOps Y all lab rest i st g s K → wpListIn Fence.wide n P all.toArray Q rest a W
  | [], i, st, ρ, a, W, g, s, I, Wl, hr, hf, m, h => hQ a W ⟨st, ρ, g, s, I, Wl, h, hf, m⟩
  | o :: rest, i, st, ρ, a, W, g, s, I, Wl, hr, hf, m, h => by
    have hr' : ∀ j, rest[j]? = all[i + 1 + j]? := fun j => by have := hr (j + 1); rw [List.getElem?_cons_succ] at this; rw [this]; congr 1; omega
    have ho : all[i]? = some o := by have := hr 0; simpa using this.symm
    have hod : ∀ d, o.dst = some d → d ∈ wr := fun d hd => hwr i o d ho hd
    simp only [yOps] at h
    obtain ⟨hb, h⟩ := chk_iff.1 h
    simp only [Bool.and_eq_true, Bool.not_eq_true'] at hb
    obtain ⟨hfr, hdst⟩ := hb
    have ih := fun st ρ a W g s I Wl hf m h => yOps_ok (n := n) hS hct hg hy all lab K Q st0 ρ0 wr hwr hQ rest (i + 1) st ρ a W g s I Wl hr' hf m h
    simp only [wpListIn]
    cases hgd : o.guard with
    | none =>
      rw [hgd] at h
      rw [wanted_none hgd]
      simp only [if_true]
      refine yStep_ok hS hct hg hy hfr m h fun sv u g' s' ρ' v w' I' Wl' hk hle m' hv => ?_
      refine ih _ ρ' _ w' g' s' I' Wl' ?_ (m'.go (m'.mt.put o.dst sv v ?_ hv)) hk
      · exact ⟨(hf.1.trans (upds_frm wr u st)).trans (put_frm _ _ _ _ hod), hf.2.trans hle⟩
      · rw [(upds_frm wr u st).n]; exact hdst
    | some p =>
      obtain ⟨j, want⟩ := p
      rw [hgd] at h
      simp only at h
      cases hu : undS st all j with
      | some d =>
        rw [hu] at h
        obtain ⟨ht, hlt, oj, hoj, hojd⟩ := undS_ok hu
        have hrep := m.mt.tms d
        rw [ht] at hrep
        obtain ⟨vs, hvs, hnil⟩ := hrep
        have hnil : vs = [] := hnil
        subst hnil
        have : Region.wanted o (yielded all.toArray a.tmps) = false := by simp [Region.wanted, hgd, yielded_und hoj hojd hvs]
        rw [this]
        simp only [Bool.false_eq_true, if_false]
        refine ⟨fun f _ => trivial, ?_⟩
        refine ih _ ρ _ W g s I Wl ?_ (m.go (m.mt.put o.dst (.tup []) undef hdst rep_und)) h
        exact ⟨hf.1.trans (put_frm _ _ _ _ hod), hf.2⟩
      | none =>
      rw [hu] at h
      simp only at h
      obtain ⟨d, b, hk, hval, hyd, oj, hoj, hojd⟩ := yieldS_ok m.mt h
      have hdw : d ∈ wr := hwr j oj d hoj hojd
      obtain ⟨k1, k2⟩ := gdS_iff.1 hk
      have hwant : Region.wanted o (yielded all.toArray a.tmps) = (some b == some want) := by simp [Region.wanted, hgd, hyd]
      have know : ∀ c : Bool, b = c → ItOK glb T B0 We g s (st.put (some d) (boolSV c)) ρ a W I Wl := fun c hc => m.go (m.mt.know d _ (by rw [hval, hc]; exact rep_bool c))
      have hfk : ∀ c : Bool, Frm st0 (st.put (some d) (boolSV c)) wr := fun c => hf.1.trans (put_frm _ _ _ _ (fun d' hd' => by cases hd'; exact hdw))
      by_cases hbw : b = want
      · have : Region.wanted o (yielded all.toArray a.tmps) = true := by rw [hwant, hbw]; simp
        rw [this]
        simp only [if_true]
        have m1 := know want hbw
        refine yStep_ok (st := st.put (some d) (boolSV want)) hS hct hg hy hfr m1 (k1 hbw) fun sv u g' s' ρ' v w' I' Wl' hk' hle m' hv => ?_
        refine ih _ ρ' _ w' g' s' I' Wl' ?_ (m'.go (m'.mt.put o.dst sv v ?_ hv)) hk'
        · exact ⟨((hfk want).trans (upds_frm wr u _)).trans (put_frm _ _ _ _ hod), hf.2.trans hle⟩
        · rw [(upds_frm wr u _).n]; exact hdst
      · have : Region.wanted o (yielded all.toArray a.tmps) = false := by
          rw [hwant]
          cases b <;> cases want <;> first | rfl | exact absurd rfl hbw
        rw [this]
        simp only [Bool.false_eq_true, if_false]
        refine ⟨fun f _ => trivial, ?_⟩
        have hbn : b = !want := by cases b <;> cases want <;> first | rfl | exact absurd rfl hbw
        have m2 := know (!want) hbn
        refine ih _ ρ _ W g s I Wl ?_ (m2.go (m2.mt.put o.dst (.tup []) undef hdst rep_und)) (k2 hbw)
        exact ⟨(hfk (!want)).trans (put_frm _ _ _ _ hod), hf.2⟩

def YcOK (glb : Nat → Option GV) (T : Yt P α) (B0 : Nat → Prop) (We : World) (n : Nat) (Y : YS α) (an : Nat → Items) (c : Code) : Prop :=
  ∀ (st : St) (ρ : Lab) (a : Act) (W : World) (g : List α) (s : Bool) (I : Nat → Prop) (Wl : World) (K : Xt → St → List α → Bool → Prop), ItOK glb T B0 We g s st ρ a W I Wl → vcY Y an c st g s K → c.wpIn Fence.wide n P (PostY glb T B0 We st ρ (codeWrites c) K) a W

theorem vcY_block (an : Nat → Items) (id : Nat) (c : Code) {st : St} {g : List α} {s : Bool} (K : Xt → St → List α → Bool → Prop) (hc : ∀ b, c ≠ .loop b) (hc2 : ∀ f ps x y, c ≠ .rangeFunc f ps x y) : vcY Y an (.block id c) st g s K = vcY Y an c st g s fun x st' g s => match x with
    | .norm => K .norm st' g s
    | .exit i => cond (Nat.beq i id) (K .norm st' g s) (K (.exit i) st' g s)
    | .ret => K .ret st' g s := by
  cases c <;> first | rfl | exact absurd rfl (hc _) | exact absurd rfl (hc2 _ _ _ _)

theorem loopY_ok {n : Nat} (hct : CtOK P glb Y.S) (an : Nat → Items) (id : Nat) (body : Code) (ih : YcOK glb T B0 We n Y an body) : YcOK glb T B0 We n Y an (.block id (.loop body)) := by
  intro st ρ a W g s I Wl K m h
  simp only [vcY] at h
  obtain ⟨hc, Iv, μ, h1, h2⟩ := chk_iff.1 h
  simp only [Bool.and_eq_true, Bool.not_eq_true'] at hc
  obtain ⟨⟨hs, hnd⟩, hok⟩ := hc
  subst hs
  have hA := m.mt.ahead (an id) (codeWrites body)
  refine wpIn_block ?_
  let Inv : (an id).G → Act → World → Prop := fun x a W => ∃ g ρ' I Wl, (an id).app (Iv g) x ∧ ItOK glb T B0 We g false ((an id).head st (codeWrites body) x) ρ' a W I Wl ∧ ρ.le ρ'
  refine wpIn_loop (fun a W => ∃ x, Inv x a W) (least Inv ((an id).app μ)) ?_ ?_
  · obtain ⟨x, ρh, hk, mh⟩ := m.mt.head hct (an id) (codeWrites body) hA hnd hok h1
    exact ⟨x, g, ρh, I, Wl, hk, m.go mh.1, fun l v hv => by rw [mh.2.1 l (m.mt.dom l v hv)]; exact hv⟩
  · rintro a1 W1 ⟨x0, hx0⟩
    obtain ⟨x, ⟨g1, ρg, I1, Wl1, hI, mg, hleg⟩, hμ⟩ := least_at (μ := (an id).app μ) hx0
    refine wpIn_mono (ih _ ρg a1 W1 g1 false I1 Wl1 _ mg (All_spec (h2 g1) x hI)) ?_
    rintro e a2 W2 ⟨xt, st2, ρ2, g2, s2, I2, Wl2, rfl, hk, hf, m2⟩
    have hfr : Frm st st2 (codeWrites body) ∧ ρ.le ρ2 := ⟨(head_frm x hok).trans hf.1, hleg.trans hf.2⟩
    cases xt with
    | norm =>
      obtain ⟨hkept, hget⟩ := chk_iff.1 hk
      simp only [Bool.and_eq_true, Bool.not_eq_true'] at hkept
      obtain ⟨hs2, hkept⟩ := hkept
      subst hs2
      obtain ⟨x', ρ', ⟨hI', hlt⟩, m0, hold', _⟩ := m2.mt.head hct (an id) (codeWrites body) (hA.next hok hf.1 hkept) hnd hok hget
      have hinv : Inv x' a2 W2 := ⟨g2, ρ', I2, Wl2, hI', m2.go m0, fun l v hv => by rw [hold' l (m.mt.dom l v hv)]; exact hfr.2 l v hv⟩
      refine ⟨⟨x', hinv⟩, ?_⟩
      rw [← hμ]
      exact Nat.lt_of_le_of_lt (least_le (I := Inv) hinv) hlt
    | ret => exact ⟨.ret, st2, ρ2, g2, s2, I2, Wl2, rfl, hk, hfr, m2⟩
    | exit i =>
      show if i = id then _ else _
      by_cases hi : i = id
      · subst hi
        rw [if_pos rfl]
        have hk' : cond (Nat.beq i i) (K .norm st2 g2 s2) (K (.exit i) st2 g2 s2) := hk
        rw [Nat.beq_refl, cond_true] at hk'
        exact ⟨.norm, st2, ρ2, g2, s2, I2, Wl2, rfl, hk', hfr, m2⟩
      · rw [if_neg hi]
        have hk' : cond (Nat.beq i id) (K .norm st2 g2 s2) (K (.exit i) st2 g2 s2) := hk
        rw [beq_ne hi, cond_false] at hk'
        exact ⟨.exit i, st2, ρ2, g2, s2, I2, Wl2, rfl, hk', hfr, m2⟩

theorem vcY_ok_all {n : Nat} (hS : StatOK P Y.S) (hct : CtOK P glb Y.S) (hg : Y.S.glb = glb) (hy : YopOK glb T B0 We Y) (an : Nat → Items) (c : Code) : YcOK glb T B0 We n Y an c ∧ ∀ b, c = .loop b → YcOK glb T B0 We n Y an b := by
  have no : ∀ {c : Code}, (∀ b, c ≠ .loop b) → YcOK glb T B0 We n Y an c → YcOK glb T B0 We n Y an c ∧ ∀ b, c = .loop b → YcOK glb T B0 We n Y an b :=
    fun h1 h => ⟨h, fun b hb => absurd hb (h1 b)⟩
  induction c with
  | skip => exact no (fun _ h => by cases h) (fun st ρ a W g s I Wl K m h => wpIn_skip ⟨.norm, st, ρ, g, s, I, Wl, rfl, h, ⟨Frm.refl _ _, ρ.le_refl⟩, m⟩)
  | exit id => exact no (fun _ h => by cases h) (fun st ρ a W g s I Wl K m h => wpIn_exit ⟨.exit id, st, ρ, g, s, I, Wl, rfl, h, ⟨Frm.refl _ _, ρ.le_refl⟩, m⟩)
  | ret => exact no (fun _ h => by cases h) (fun st ρ a W g s I Wl K m h => wpIn_ret ⟨.ret, st, ρ, g, s, I, Wl, rfl, h, ⟨Frm.refl _ _, ρ.le_refl⟩, m⟩)
  | region id ops draw =>
    refine no (fun _ h => by cases h) (fun st ρ a W g s I Wl K m h => ?_)
    cases draw with
    | false =>
      refine wpIn_region_list ?_
      have := yOps_ok (n := n) hS hct hg hy ops.toList (id * 100) (K .norm) (PostY glb T B0 We st ρ (codeWrites (.region id ops false)) K) st ρ (codeWrites (.region id ops false)) (fun j o d ho hd => mem_filterMap_dst ho hd)
        (fun a W hp => let ⟨st', ρ', g', s', I', Wl', h1, h2, h3⟩ := hp; ⟨.norm, st', ρ', g', s', I', Wl', rfl, h1, h2, h3⟩) ops.toList 0 st ρ a W g s I Wl (fun j => by rw [Nat.zero_add]) ⟨Frm.refl _ _, ρ.le_refl⟩ m h
      simpa using this
    | true =>
      simp only [vcY] at h
      obtain ⟨hc, h⟩ := chk_iff.1 h
      simp only [Bool.and_eq_true] at hc
      obtain ⟨hm, hfull⟩ := hc
      refine vcAny_then (Wide.wide P) hS hct hg id ops (id * 100) (Y.fst id) _ _ (codeWrites (.region id ops true)) (fun j o d ho hd => mem_filterMap_dst ho hd) m.mt (Nat.le_of_ble_eq_true hm) hfull h ?_
      rintro a1 W1 ⟨st1, ρ1, hk1, hf1, m1⟩
      have := yOps_ok (n := n) hS hct hg hy ops.toList (id * 100) (K .norm) (PostY glb T B0 We st ρ (codeWrites (.region id ops true)) K) st ρ (codeWrites (.region id ops true)) (fun j o d ho hd => mem_filterMap_dst ho hd)
        (fun a W hp => let ⟨st', ρ', g', s', I', Wl', h1, h2, h3⟩ := hp; ⟨.norm, st', ρ', g', s', I', Wl', rfl, h1, h2, h3⟩) (ops.toList.drop (Y.fst id)) (Y.fst id) st1 ρ1 a1 W1 g s I Wl (fun j => by rw [List.getElem?_drop]) hf1 (m.go m1) hk1
      simpa using this
  | seq x y ihx ihy =>
    refine no (fun _ h => by cases h) (fun st ρ a W g s I Wl K m h => ?_)
    refine wpIn_seq (wpIn_mono (ihx.1 st ρ a W g s I Wl _ m h) ?_)
    rintro e a1 W1 ⟨xt, st1, ρ1, g1, s1, I1, Wl1, rfl, hk, hf, m1⟩
    have hfx : Frm st st1 (codeWrites x ++ codeWrites y) ∧ ρ.le ρ1 := ⟨hf.1.sub (fun t ht => List.mem_append.2 (.inl ht)), hf.2⟩
    cases xt with
    | norm =>
      refine wpIn_mono (ihy.1 st1 ρ1 a1 W1 g1 s1 I1 Wl1 K m1 hk) ?_
      rintro e a2 W2 ⟨xt2, st2, ρ2, g2, s2, I2, Wl2, he, hk2, hf2, m2⟩
      exact ⟨xt2, st2, ρ2, g2, s2, I2, Wl2, he, hk2, ⟨hfx.1.trans (hf2.1.sub (fun t ht => List.mem_append.2 (.inr ht))), hfx.2.trans hf2.2⟩, m2⟩
    | exit i => exact ⟨.exit i, st1, ρ1, g1, s1, I1, Wl1, rfl, hk, hfx, m1⟩
    | ret => exact ⟨.ret, st1, ρ1, g1, s1, I1, Wl1, rfl, hk, hfx, m1⟩
  | cond c x y ihx ihy =>
    refine no (fun _ h => by cases h) (fun st ρ a W g s I Wl K m h => ?_)
    obtain ⟨b, he0, hk⟩ := oneB_get h
    obtain ⟨b', hbb, hv⟩ := oneB_ok (k := fun x => x = b) (by rw [he0]; exact rfl) (ev_ok hS hg m.mt 0 c)
    obtain ⟨k1, k2⟩ := cnd_iff.1 hk
    subst hbb
    replace k1 : b' = true → vcY Y an x st g s K := fun hb => by have := k1 hb; rwa [← hb, known_eq he0] at this
    replace k2 : b' = false → vcY Y an y st g s K := fun hb => by have := k2 hb; rwa [← hb, known_eq he0] at this
    refine wpIn_cond_split hv (fun hb => ?_) (fun hb => ?_)
    · refine wpIn_mono (ihx.1 st ρ a W g s I Wl K m (k1 hb)) ?_
      rintro e a1 W1 ⟨xt, st1, ρ1, g1, s1, I1, Wl1, he, hk, hf, m1⟩
      exact ⟨xt, st1, ρ1, g1, s1, I1, Wl1, he, hk, ⟨hf.1.sub (fun t ht => List.mem_append.2 (.inl ht)), hf.2⟩, m1⟩
    · refine wpIn_mono (ihy.1 st ρ a W g s I Wl K m (k2 hb)) ?_
      rintro e a1 W1 ⟨xt, st1, ρ1, g1, s1, I1, Wl1, he, hk, hf, m1⟩
      exact ⟨xt, st1, ρ1, g1, s1, I1, Wl1, he, hk, ⟨hf.1.sub (fun t ht => List.mem_append.2 (.inr ht)), hf.2⟩, m1⟩
  | block id c ih =>
    refine no (fun _ h => by cases h) ?_
    by_cases hc : ∃ b, c = .loop b
    · obtain ⟨b, rfl⟩ := hc
      exact loopY_ok hct an id b (ih.2 b rfl)
    by_cases hrf2 : ∃ f ps x y, c = .rangeFunc f ps x y
    · obtain ⟨f, ps, x, y, rfl⟩ := hrf2
      intro st ρ a W g s I Wl K m h
      have := vc_ok (F := Fence.wide) (n := n) (Wide.wide P) rfl hS hct hg an (.block id (.rangeFunc f ps x y)) st ρ a W _ m.mt h
      refine wpIn_mono this ?_
      rintro e a1 W1 ⟨xt, st1, ρ1, he, hk, hf, m1⟩
      exact ⟨xt, st1, ρ1, g, s, I, Wl, he, hk, hf, m.go m1⟩
    · intro st ρ a W g s I Wl K m h
      have hc2 : ∀ f ps x y, c ≠ .rangeFunc f ps x y := fun f ps x y hb => hrf2 ⟨f, ps, x, y, hb⟩
      have hc' : ∀ b, c ≠ .loop b := fun b hb => hc ⟨b, hb⟩
      rw [vcY_block an id c K hc' hc2] at h
      refine wpIn_block (wpIn_mono (ih.1 st ρ a W g s I Wl _ m h) ?_)
      rintro e a1 W1 ⟨xt, st1, ρ1, g1, s1, I1, Wl1, rfl, hk, hf, m1⟩
      cases xt with
      | norm => exact ⟨.norm, st1, ρ1, g1, s1, I1, Wl1, rfl, hk, hf, m1⟩
      | ret => exact ⟨.ret, st1, ρ1, g1, s1, I1, Wl1, rfl, hk, hf, m1⟩
      | exit i =>
        show if i = id then _ else _
        by_cases hi : i = id
        · subst hi
          rw [if_pos rfl]
          have hk' : cond (Nat.beq i i) (K .norm st1 g1 s1) (K (.exit i) st1 g1 s1) := hk
          rw [Nat.beq_refl, cond_true] at hk'
          exact ⟨.norm, st1, ρ1, g1, s1, I1, Wl1, rfl, hk', hf, m1⟩
        · rw [if_neg hi]
          have hk' : cond (Nat.beq i id) (K .norm st1 g1 s1) (K (.exit i) st1 g1 s1) := hk
          rw [beq_ne hi, cond_false] at hk'
          exact ⟨.exit i, st1, ρ1, g1, s1, I1, Wl1, rfl, hk', hf, m1⟩
  | loop c ih => exact ⟨fun st ρ a W g s I Wl K m h => h.elim, (fun b hb => by cases hb; exact ih.1)⟩
  | rangeFunc f ps x y ihx ihy => exact no (fun _ h => by cases h) (fun st ρ a W g s I Wl K m h => h.elim)
  | scope c ih => exact no (fun _ h => by cases h) (fun st ρ a W g s I Wl K m h => h.elim)
  | label l => exact no (fun _ h => by cases h) (fun st ρ a W g s I Wl K m h => h.elim)
  | goto l => exact no (fun _ h => by cases h) (fun st ρ a W g s I Wl K m h => h.elim)
  | refuse q => exact no (fun _ h => by cases h) (fun st ρ a W g s I Wl K m h => h.elim)
end
end
end Go.GX
set_option linter.unusedVariables false
namespace Go.GX
variable [Inhabited BaseD]
open Go.RowKit Go.Shelf Go.Proofs

def yEnd {α : Type} (S : Stat) (rs : List ResultVar) (k : Option Bool → List α → Bool → Prop) (st : St) (g : List α) (s : Bool) : Prop :=
  match rs with
  | [] => k none g s
  | [rv] => oneB (resSV S st rv) fun b => k (some b) g s
  | _ => False

def yFin {α : Type} (S : Stat) (rs : List ResultVar) (k : Option Bool → List α → Bool → Prop) (e : Xt) (st : St) (g : List α) (s : Bool) : Prop :=
  match e with
  | .exit _ => False
  | .norm => yEnd S rs k st g s
  | .ret => yEnd S rs k st g s

section
variable {P : Program} {glb : Nat → Option GV} {α : Type} {T : Yt P α} {B0 : Nat → Prop} {We : World} {Y : YS α}

def obVal : Option Bool → Value
  | some b => .bool b
  | none => .tuple #[]

def YE (T : Yt P α) (B0 : Nat → Prop) (We : World) (k : Option Bool → List α → Bool → Prop) (e : Ending) (W' : World) : Prop :=
  ∃ ob g s I', e = .returned (obVal ob) ∧ k ob g s ∧ (s = false → T.J g I' W') ∧ (s = true → T.Jx I' W') ∧ (∀ j, B0 j → I' j) ∧ (∀ j, I' j → B0 j ∨ (We.heap.size ≤ j ∧ j < W'.heap.size)) ∧ Kept T.X T.W0 B0 We W'

theorem ItOK.keptNow {I : Nat → Prop} {Wl W : World} {g : List α} {s : Bool} {st : St} {ρ : Lab} {a : Act} (h : ItOK glb T B0 We g s st ρ a W I Wl) : Kept T.X T.W0 B0 We W :=
  h.kept.trans h.keptW fun _ h => h

theorem ItOK.done {I : Nat → Prop} {Wl W : World} {g : List α} {s : Bool} {st : St} {ρ : Lab} {a : Act} (h : ItOK glb T B0 We g s st ρ a W I Wl) {k : Option Bool → List α → Bool → Prop} {ob : Option Bool} (hk : k ob g s) : YE T B0 We k (.returned (obVal ob)) W := by
  refine ⟨ob, g, s, nowI I Wl W, rfl, hk, fun hs => T.jt _ _ _ _ _ (h.j hs) h.turned, fun hs => T.jxt _ _ _ _ (h.jx hs) h.turned, fun j hj => .inl (h.b0 j hj), ?_, h.keptNow⟩
  rintro j (hj | hj)
  · rcases h.new j hj with h1 | h1
    · exact .inl h1
    · exact .inr ⟨h1, Nat.lt_of_lt_of_le (h.low j hj).2 h.mt.bel.size⟩
  · exact .inr ⟨Nat.le_trans h.kept.size hj.1, hj.2⟩

theorem y_run {n : Nat} (hS : StatOK P Y.S) (hct : CtOK P glb Y.S) (hg : Y.S.glb = glb) (hy : YopOK glb T B0 We Y) (an : Nat → Items) {f : FuncId} {fn : Func} {c : Code} (hf : P.funcs[f]? = some fn) (hb : fn.body = some c) {vs : List Value} {st0 : St} {ρ0 : Lab} {W : World} {g : List α} {I : Nat → Prop} {Wl : World}
    (h0 : ItOK glb T B0 We g false st0 ρ0 { tmps := vs.toArray ++ Array.replicate (fn.ntmps - vs.toArray.size) undef, defers := [] } W I Wl) (k : Option Bool → List α → Bool → Prop) (hvc : vcY Y an c st0 g false (yFin Y.S fn.results.toList k)) : CallsIn Fence.wide n P f vs.toArray W (YE T B0 We k) := by
  refine callsIn_of_wp_marks (F := Fence.wide) (n := n) hf hb trivial ?_
  refine wpIn_mono ((vcY_ok_all (n := n) hS hct hg hy an c).1 _ _ _ _ _ _ _ _ _ h0 hvc) ?_
  rintro e a' W' ⟨xt, st', ρ', g', s', I', Wl', rfl, hk, hf', m'⟩
  have fin : yEnd Y.S fn.results.toList k st' g' s' → LeavesInM Fence.wide n P fn a'.tmps (YE T B0 We k) a'.defers .returning W' := by
    intro hk
    obtain ⟨Ds, hDs, hnd, hDD⟩ := m'.mt.dfr
    rw [hDs]
    refine takeAll_leaves Ds W' hnd (fun D hD => (hDD D hD).1) ?_
    have m' := m'.go (m'.mt.taken hDD)
    revert m'
    generalize takeAll W' Ds = W'
    intro m'
    have run : ∀ us : List Value, (fn.results.toList.mapM (resOne a'.tmps)).run P W' = .ok us W' → (results fn a'.tmps).run P W' = .ok (if h : us.toArray.size = 1 then us.toArray[0] else .tuple us.toArray) W' := by
      intro us hr
      have hm : fn.results.mapM (resOne a'.tmps) = (do pure (← fn.results.toList.mapM (resOne a'.tmps)).toArray) := by
        rw [Array.mapM_eq_mapM_toList]
        simp
      have hres : results fn a'.tmps = (do
          let vs ← fn.results.mapM (resOne a'.tmps)
          pure (if h : vs.size = 1 then vs[0] else .tuple vs)) := by
        unfold results
        congr 1
      rw [hres, hm]
      simp only [Sem.run_bind, hr, Result.andThen_ok, Sem.run_pure]
    unfold yEnd at hk
    split at hk
    · rename_i hrs
      refine ⟨_, run [] (by rw [hrs]; rfl), ?_⟩
      exact m'.done (ob := none) hk
    · rename_i rv hrs
      obtain ⟨b0, hbe, _⟩ := oneB_get hk
      obtain ⟨v, hv, hrep⟩ := resSV_ok (W := W') hS m'.mt rv (by rw [hbe]; intro h; cases h)
      obtain ⟨b, hk2, hub⟩ := oneB_ok hk hrep
      subst hub
      refine ⟨_, run [.bool b] (by rw [hrs]; simp [List.mapM_cons, hv, Result.andThen_ok]), ?_⟩
      exact m'.done (ob := some b) hk2
    · exact hk.elim
  cases xt with
  | norm => exact fin hk
  | ret => exact fin hk
  | exit i => exact hk.elim

theorem mt_start {Bk X0 : Nat → Prop} {W : World} {fn : Func} {ss : List SV} {vs : List Value} {hp : Nat → Option (HE × Nat)} {ρ : Lab} {cnt : Nat} {dom : List Nat} (h1 : vs.length ≤ fn.ntmps) (h2 : ss.length = vs.length)
    (hrep : ∀ i v, vs[i]? = some v → RepV P ρ X0 W (tmOf ss i) v) (hps : ∀ l he q, hp l = some (he, q) → ∃ v, ρ l = some v ∧ HEok P 0 ρ X0 W he v ∧ ∀ k, ¬ OwnB ρ he v k)
    (hX : ∀ k, X0 k → k < W.heap.size) (hBk : ∀ k, Bk k → k < W.heap.size) (hglb : GlbOK P glb X0 W) (hdom : ∀ l v, ρ l = some v → memL l dom = true) (hst : ∀ l he q, hp l = some (he, q) → q ≤ cnt) :
    Mt P glb Bk X0 W ⟨fn.ntmps, tmOf ss, hp, cnt, dom⟩ ρ { tmps := vs.toArray ++ Array.replicate (fn.ntmps - vs.toArray.size) undef, defers := [] } W := by
  have noOwn : ∀ {l he q v k}, hp l = some (he, q) → ρ l = some v → ¬ OwnB ρ he v k := by
    intro l he q v k hl hv
    obtain ⟨v', hv', _, hn⟩ := hps l he q hl
    rw [hv] at hv'; cases hv'
    exact hn k
  have hXs : ∀ k, Xs ⟨fn.ntmps, tmOf ss, hp, cnt, dom⟩ ρ X0 k → X0 k := by
    rintro k (h | ⟨l, he, q, v, h1, h2, h3⟩)
    · exact h
    · exact absurd h3 (noOwn h1 h2)
  have ev : Evo X0 W (Xs ⟨fn.ntmps, tmOf ss, hp, cnt, dom⟩ ρ X0) W := Evo.mono (fun k hk => hX k (hXs k hk)) hXs
  refine ⟨?_, DefOK.nil, fun t => ?_, fun l he q h => ?_, fun l l' he he' q q' v v' k h h' h2 h2' h3 => absurd h3 (noOwn h h2), hX, hBk, .refl _ _, fun l he q v k h h2 h3 => absurd h3 (noOwn h h2), hglb.evo ev, hdom, hst⟩
  · simp only [Array.size_append, Array.size_replicate, List.size_toArray]; omega
  · refine RepV.mono (Lab.le_refl _) ev ?_
    show RepV P ρ X0 W (tmOf ss t) _
    by_cases ht : t < vs.length
    · have hget : (vs.toArray ++ Array.replicate (fn.ntmps - vs.toArray.size) undef).getD t undef = vs[t] := by
        rw [Array.getD_eq_getD_getElem?, Array.getElem?_append_left (by simpa using ht), List.getElem?_toArray, List.getElem?_eq_getElem ht]
        rfl
      rw [hget]
      exact hrep t _ (List.getElem?_eq_getElem ht)
    · rw [tmOf_past _ t (by omega)]
      trivial
  · obtain ⟨v, hv, hok, _⟩ := hps l he q h
    exact ⟨v, hv, hok.mono ρ.le_refl ev (fun _ _ => rfl)⟩
end

def yArg (S : Stat) (st : St) : (A : Kd) → List SV → Option A.T
  | .sl _ K, ss => match ss with
    | [.mk false [.own L]] => match st.look L with
      | some (.row _ _ K' xs) => cond (K'.flat && Nat.ble 1 K'.n) (if h : K' = K then some (castL h xs) else none) none
      | _ => none
    | [.mk false [.nl _ _]] => some []
    | _ => none
  | A, ss => cond A.flat ((decArgs (dec1 S st.look fuel) A ss).map (·.1)) none

def yv (l : Nat) : Value := .func (.yield l) #[] #[]

def scY (l : Nat) (sc : SC) (p : Prop) : Prop :=
  match sc with
  | .v u => u = yv l ∧ p
  | _ => False

def yopY (S : Stat) (A : Kd) (l : Nat) (xs : List A.T) (st : St) (g : List A.T) (o : Oper) (k : List A.T → Prop) : Prop :=
  match o.op with
  | .call c => match c.callee with
    | .value f => oneC (ev S st 0 f) fun sc => scY l sc (optK (yArg S st A (evAll S st c.argTypes.toList c.args.toList)) fun x => ∃ rest, xs = g ++ x :: rest ∧ k (g ++ [x]))
    | _ => False
  | _ => False

section
variable {P : Program} {glb : Nat → Option GV} {B0 : Nat → Prop} {We : World} {S : Stat}

theorem sl_re {W : World} {e e' : TypeId} {K : Kd} {xs : List K.T} {v : Value} {X X' : Nat → Prop} (hf : K.flat = true) (h : ((Kd.sl e K).sem P).val X W xs v) (hX : ∀ ad n c, v = .slice (some ad) n c → ¬ X' ad.block) : ((Kd.sl e' K).sem P).val X' W xs v := by
  obtain ⟨A, c, hv, h1, h2, h3⟩ := h
  refine ⟨A, c, hv, h1, h2, fun hne => ?_⟩
  obtain ⟨ad, hA, _, g1, g2⟩ := h3 hne
  refine ⟨ad, hA, hX ad _ c (by rw [hv, hA]), g1, fun j x hx => ?_⟩
  obtain ⟨ecs, k1, k2⟩ := g2 j x hx
  exact ⟨ecs, Kd.flat_cells P K hf k1, k2⟩

theorem yArg_ok {α : Type} {T : Yt P α} (hct : CtOK P glb S) {st : St} {ρ : Lab} {a : Act} {W : World} {g : List α} {s : Bool} {I : Nat → Prop} {Wl : World} (h : ItOK glb T B0 We g s st ρ a W I Wl) : ∀ (A : Kd) (ss : List SV) (x : A.T) (vs : List Value), yArg S st A ss = some x → RepVs P ρ (Xs st ρ (yX T I Wl)) W ss vs →
    (A.sem P).vals (fun k => ¬ nowI I Wl W k) W x vs := by
  have flat : ∀ (A : Kd) (ss : List SV) (x : A.T) (vs : List Value), cond A.flat ((decArgs (dec1 S st.look fuel) A ss).map (·.1)) none = some x → RepVs P ρ (Xs st ρ (yX T I Wl)) W ss vs → (A.sem P).vals (fun k => ¬ nowI I Wl W k) W x vs := by
    intro A ss x vs hx hv
    cases hf : A.flat with
    | false => rw [hf] at hx; cases hx
    | true =>
      rw [hf, cond_true] at hx
      cases hd : decArgs (dec1 S st.look fuel) A ss with
      | none => rw [hd] at hx; cases hx
      | some p =>
        rw [hd] at hx
        cases hx
        exact Kd.flat_vals P A hf (decArgs_ok (Z := fun _ => true) (dec1_ok h.mt hct fuel) A ss p.1 p.2 vs hd hv (fun _ _ => rfl))
  intro A ss x vs hx hv
  cases A with
  | sl e K =>
    simp only [yArg] at hx
    split at hx
    · rename_i L
      split at hx
      · rename_i nn e' K' xs hl
        obtain ⟨q, hq⟩ := look_some hl
        cases hc : (K'.flat && Nat.ble 1 K'.n) with
        | false => rw [hc] at hx; cases hx
        | true =>
          rw [hc, cond_true] at hx
          simp only [Bool.and_eq_true] at hc
          split at hx
          · rename_i hk
            subst hk
            cases hx
            obtain ⟨v, vs', rfl, ⟨sc, hsc, hown⟩, hnil⟩ := hv
            have hnil : vs' = [] := hnil
            subst hnil
            cases hsc
            obtain ⟨hρ, a1, n1, c1, hsl⟩ := hown
            have hval := (h.mt.rowVal (Z := fun _ => true) (e' := e') hq hρ rfl).1
            have hfin : ((Kd.sl e K').sem P).val (fun k => ¬ nowI I Wl W k) W xs v := sl_re hc.1 hval fun ad n c hv hno => hno (by
              refine (h.ownNow (k := ad.block) hq hρ (.inl ?_) rfl).1
              rw [hv]; rfl)
            exact ⟨v, rfl, hfin⟩
          · cases hx
      · cases hx
    · cases hx
      obtain ⟨v, vs', rfl, ⟨sc, hsc, hv⟩, hnil⟩ := hv
      have hnil : vs' = [] := hnil
      subst hnil
      cases hsc
      have hv : v = .slice none 0 0 := hv
      subst hv
      exact ⟨_, rfl, none, 0, rfl, Nat.le_refl _, by unfold maxLen; omega, fun h => absurd rfl h⟩
    · cases hx
  | _ => exact flat _ ss x vs hx hv

theorem scY_get {l : Nat} {sc : SC} {p : Prop} (h : scY l sc p) : sc = .v (yv l) ∧ p := by
  unfold scY at h
  split at h
  · exact ⟨by rw [h.1], h.2⟩
  · exact h.elim

theorem run_yieldCall {a : Act} {W : World} {o : Oper} (cl : Call) (hop : o.op = .call cl) (f : Operand) (hcal : cl.callee = .value f) {l : Nat} (hf : a.eval f = yv l) :
    (execOp a.eval o).run P W = (Instr.yield l (cl.args.toList.map a.eval).toArray).run P W := by
  have hm : (cl.args.toList.map a.eval).toArray = cl.args.map a.eval := by apply Array.ext'; simp
  unfold execOp; rw [hop]
  simp only [resolve, hcal, hf, yv, Deferred.ofValue, Sem.run_bind, Sem.run_pure, Result.andThen_ok, invoke]
  rw [hm]
  simp

theorem yopY_ok {A : Kd} {T : Yt P A.T} (hS : StatOK P S) (hct : CtOK P glb S) (hg : S.glb = glb) (hvals : T.vals = (A.sem P).vals) (isY : Nat → Bool) (fst : Nat → Nat) : YopOK glb T B0 We ⟨S, isY, yopY S A T.l T.xs, fst⟩ := by
  refine ⟨fun st ρ a W g o k I Wl h hj hy => ?_⟩
  have hy : yopY S A T.l T.xs st g o k := hy
  unfold yopY at hy
  split at hy
  · rename_i cl hop
    refine ⟨?_, fun c hc => by rw [hop] at hc; cases hc⟩
    split at hy
    · rename_i f hcal
      obtain ⟨sc, h1, hsc⟩ := oneC_ok hy (ev_ok hS hg h.mt 0 f)
      obtain ⟨rfl, h2⟩ := scY_get h1
      obtain ⟨x, hx, rest, hxs, hk⟩ := optK_ok h2
      have hfv : a.eval f = yv T.l := hsc.1
      have hv := yArg_ok hct h A _ x _ hx (evAll_from hS hg h.mt cl.argTypes.toList cl.args.toList 0)
      obtain ⟨fn, tmps, asg, body, hr, hround⟩ := T.yd g x rest (nowI I Wl W) W _ hxs hj h.nowLow h.nowSz (by rw [hvals]; exact hv)
      refine .inl ⟨T.l, fn, tmps, asg, body, (run_yieldCall cl hop f hcal hfv).trans hr, (round_any hround).mono ?_⟩
      rintro e W' (⟨rfl, hj', hk'⟩ | ⟨rfl, hjx', hk'⟩)
      · exact ⟨true, _, nowI I Wl W, rfl, hk, fun _ => hj', fun h => (by cases h), fun _ h => h, fun _ h => .inl h, hk'⟩
      · exact ⟨false, _, nowI I Wl W, rfl, hk, fun h => (by cases h), fun _ => hjx', fun _ h => h, fun _ h => .inl h, hk'⟩
    · exact hy.elim
  · exact hy.elim

end
end Go.GX
set_option linter.unusedVariables false
namespace Go.GX
variable [Inhabited BaseD]
open Go.RowKit Go.Shelf Go.Proofs

def vcIterI {α : Type} (Y : YS α) (an : Nat → Items) (fn : Func) (c : Code) (A : Kd) (y : A.T) (l : Nat) (xs : List α) : Prop :=
  chk (Nat.ble 2 fn.ntmps) (vcY Y an c ⟨fn.ntmps, tmOf [mkv A y, .mk false [.v (yv l)]], fun _ => none, 0, []⟩ [] false (yFin Y.S fn.results.toList fun ob g s => cnd s True (g = xs)))

theorem itm_of {P : Program} {glb : Nat → Option GV} {f : FuncId} {fn : Func} {c : Code} (hf : P.funcs[f]? = some fn) (hname : (fn.name == "runtime.NumGoroutine") = false) (hb : fn.body = some c) (an : Nat → Items) (it : ItM) (hfl : it.A.arg = true)
    (Yl : Nat → List it.E.T → YS it.E.T) (hS : ∀ l xs, StatOK P (Yl l xs).S) (hct : ∀ l xs, CtOK P glb (Yl l xs).S) (hg : ∀ l xs, (Yl l xs).S.glb = glb)
    (hyop : ∀ (T : Yt P it.E.T), T.vals = (it.E.sem P).vals → ∀ B0 We, YopOK glb T B0 We (Yl T.l T.xs)) (hvc : ∀ x l, it.pre x → vcIterI (Yl l (it.xs x)) an fn c it.A x l (it.xs x)) : ItmOK P glb f it := by
  intro X0 W0 x v hX0 hglb0 hpre hv0
  refine ⟨⟨_, _, _, rfl⟩, fun X W ev => ?_⟩
  have hglb := hglb0.evo ev
  have hv := (Kd.stands P it.A).val ev hv0
  have hX := ev.low
  refine ⟨f, #[v], #[], rfl, enters_of hf hname hb, fun n l J Jx hJt hJx hY h0 => ?_⟩
  obtain ⟨hn, hvc⟩ := chk_iff.1 (hvc x l hpre)
  have hn := Nat.le_of_ble_eq_true hn
  let T : Yt P it.E.T := ⟨(it.E.sem P).vals, X, W, n, l, it.xs x, J, Jx, hJt, hJx, hY⟩
  have hxx : ∀ k, yX T (fun _ => False) W k → X k := fun k hk => hk.2.2.resolve_left (Nat.not_le_of_lt hk.1)
  have start : ItOK glb T (fun _ => False) W [] false ⟨fn.ntmps, tmOf [mkv it.A x, .mk false [.v (yv l)]], fun _ => none, 0, []⟩ (fun _ => none) { tmps := [v, yv l].toArray ++ Array.replicate (fn.ntmps - [v, yv l].toArray.size) undef, defers := [] } W (fun _ => False) W := by
    refine ⟨fun _ => h0, fun h => (by cases h), fun _ h => h, fun _ h => h.elim, fun _ h => h.elim, Nat.le_refl _, ⟨rfl, rfl, rfl, Nat.le_refl _, fun _ _ _ => rfl, fun _ _ _ _ => rfl, fun _ _ _ h => h⟩, ?_⟩
    refine mt_start (by simp; omega) (by simp) (fun i u hu => ?_) (fun l he q h => (by cases h)) (fun k hk => hk.1) (fun k hk => hk.1) (hglb.evo (Evo.mono (fun k hk => hk.1) hxx)) (fun l v h => (by cases h)) (fun l he q h => (by cases h))
    cases i with
    | zero => cases hu; exact ((RepV.of_val (P := P) (ρ := fun _ => none) it.A hv).1).mono (Lab.le_refl _) (Evo.mono (fun k hk => hk.1) hxx)
    | succ i =>
      cases i with
      | zero => cases hu; exact ⟨_, rfl, rfl, rfl⟩
      | succ i => simp at hu
  have key := y_run (n := n) (hS l _) (hct l _) (hg l _) (hyop T rfl _ W) an hf hb (vs := [v, yv l]) start _ hvc
  have e : [v, yv l].toArray = #[v] ++ #[.func (.yield l) #[] #[]] ++ #[] := by simp [yv]
  rw [e] at key
  refine key.mono ?_
  rintro en W' ⟨ob, g, s, I', rfl, hk, hj, hjx, _⟩
  refine ⟨⟨_, rfl⟩, I', ?_⟩
  cases s with
  | true => exact .inr (hjx rfl)
  | false =>
    have hk : g = it.xs x := hk
    rw [← hk]
    exact .inl (hj rfl)
end Go.GX
set_option maxRecDepth 100000
namespace Go.Proofs.Fa
open Go.GX
abbrev k1 : Kd := .fn (.unit) (.unit)
abbrev k2 : Kd := .int .i64
abbrev k3 : Kd := .int .i64
abbrev k4 : Kd := .bool
abbrev k5 : Kd := .int .u8
abbrev k6 : Kd := .int .u8
abbrev k7 : Kd := .agg (.pair (k2) (.pair (k3) (.pair (k4) (k6))))
abbrev k8 : Kd := .agg (.pair (k2) (.pair (k3) (.pair (k4) (k6))))
abbrev k9 : Kd := .str
abbrev k10 : Kd := .str
abbrev k11 : Kd := .str
abbrev k12 : Kd := .int .u64
abbrev k13 : Kd := .agg (.pair (k9) (k12))
abbrev k14 : Kd := .agg (.pair (k9) (k12))
abbrev k21 : Kd := .int .i32
abbrev k22 : Kd := .sl 3 k3
abbrev k77 : Kd := .agg (.pair (k3) (k3))
abbrev k23 : Kd := .sl 77 k77
abbrev k24 : Kd := .agg (.pair (k22) (.pair (k3) (k23)))
abbrev k25 : Kd := .agg (.pair (k22) (.pair (k3) (k23)))
abbrev k69 : Kd := .agg (.pair (k3) (k3))
abbrev k71 : Kd := .agg (.pair (k69) (.pair (k3) (k3)))
abbrev k26 : Kd := .sl 71 k71
abbrev k27 : Kd := .fn (.pair (k25) (k26)) (k4)
abbrev k28 : Kd := .fn (.unit) (k4)
abbrev k29 : Kd := .fn (k25) (k25)
abbrev k30 : Kd := .fn (k26) (k26)
abbrev k31 : Kd := .int .i64
abbrev k32 : Kd := .fn (.pair (k25) (k26)) (k31)
abbrev k33 : Kd := .sl 22 k22
abbrev k35 : Kd := .fn (.pair (k25) (k26)) (.pair (k33) (k31))
abbrev k36 : Kd := .fn (.pair (k25) (.pair (k25) (.pair (k26) (k26)))) (k4)
abbrev k41 : Kd := .agg (.pair (k3) (.pair (k3) (.pair (k3) (k3))))
abbrev k114 : Kd := .agg (.pair (k41) (.pair (k41) (.pair (k3) (k3))))
abbrev k39 : Kd := .sl 114 k114
abbrev k38 : Kd := .fn (.pair (k39) (k41)) (.pair (k33) (k4))
abbrev k40 : Kd := .fn (.pair (k22) (.pair (k3) (.pair (k41) (.pair (k3) (k3))))) (k39)
abbrev k42 : Kd := .fn (.pair (k26) (k4)) (k41)
abbrev k43 : Kd := .fn (k26) (k41)
abbrev k44 : Kd := .fn (.pair (k33) (k33)) (k4)
abbrev k45 : Kd := .fn (.pair (k23) (.pair (k26) (k41))) (k39)
abbrev k47 : Kd := .fn (.pair (k25) (.pair (k26) (k3))) (.pair (k3) (k31))
abbrev k48 : Kd := .fn (.pair (k3) (.pair (k3) (k3))) (k4)
abbrev k49 : Kd := .fn (.pair (k25) (.pair (k26) (k3))) (k3)
abbrev k50 : Kd := .fn (.pair (k25) (.pair (k26) (k3))) (k4)
abbrev k52 : Kd := .fn (.pair (k25) (.pair (k26) (k3))) (.pair (k3) (.pair (k3) (k31)))
abbrev k54 : Kd := .fn (.pair (k25) (.pair (k26) (k3))) (.pair (k3) (k3))
abbrev k56 : Kd := .fn (.pair (k25) (.pair (k26) (k33))) (.pair (k22) (k31))
abbrev k57 : Kd := .fn (.pair (k22) (k22)) (k4)
abbrev k58 : Kd := .fn (.pair (k25) (.pair (k26) (k33))) (k4)
abbrev k59 : Kd := .fn (.pair (k25) (k26)) (.pair (k3) (.pair (k3) (k31)))
abbrev k60 : Kd := .fn (.pair (k25) (k26)) (.pair (k3) (k3))
abbrev k61 : Kd := .sl 5 k5
abbrev k126 : Kd := .agg (.pair (k5) (k5))
abbrev k62 : Kd := .sl 126 k126
abbrev k127 : Kd := .agg (.pair (k5) (.pair (k5) (.pair (k5) (k5))))
abbrev k63 : Kd := .sl 127 k127
abbrev k64 : Kd := .agg (.pair (k61) (.pair (k5) (.pair (k62) (k63))))
abbrev k65 : Kd := .agg (.pair (k61) (.pair (k5) (.pair (k62) (k63))))
abbrev k67 : Kd := .fn (.unit) (.pair (k25) (k26))
abbrev k68 : Kd := .agg (.pair (k3) (k3))
abbrev k70 : Kd := .agg (.pair (k69) (.pair (k3) (k3)))
abbrev k72 : Kd := .fn (.pair (k65) (k5)) (k4)
abbrev k73 : Kd := .fn (.pair (k26) (k61)) (k22)
abbrev k75 : Kd := .fn (.pair (k25) (.pair (k26) (.pair (k22) (.pair (k33) (k4))))) (.pair (k22) (k4))
abbrev k76 : Kd := .agg (.pair (k3) (k3))
abbrev k78 : Kd := .fn (.pair (k61) (k3)) (k3)
abbrev k79 : Kd := .fn (.pair (k65) (k61)) (k4)
abbrev k81 : Kd := .fn (.pair (k25) (k26)) (.pair (k4) (.pair (k4) (k31)))
abbrev k82 : Kd := .fn (.pair (k25) (k26)) (.pair (k22) (k31))
abbrev k83 : Kd := .fn (.pair (k25) (.pair (k26) (.pair (k41) (k41)))) (k4)
abbrev k84 : Kd := .fn (.pair (k25) (k26)) (k22)
abbrev k85 : Kd := .fn (.pair (k25) (.pair (k26) (.pair (k61) (k4)))) (k22)
abbrev k86 : Kd := .fn (k22) (k3)
abbrev k87 : Kd := .fn (.pair (k65) (.pair (k61) (k61))) (k4)
abbrev k88 : Kd := .fn (.pair (k3) (k3)) (k69)
abbrev k89 : Kd := .fn (.pair (k65) (.pair (k5) (k5))) (k4)
abbrev k90 : Kd := .fn (.unit) (k25)
abbrev k91 : Kd := .fn (.unit) (k26)
abbrev k92 : Kd := .fn (.pair (k3) (.pair (k3) (k22))) (k4)
abbrev k94 : Kd := .fn (k77) (k4)
abbrev k93 : Kd := .fn (.pair (k23) (k94)) (k4)
abbrev k96 : Kd := .fn (k71) (k4)
abbrev k95 : Kd := .fn (.pair (k26) (k96)) (k4)
abbrev k97 : Kd := .agg (.pair (k3) (.pair (k3) (.pair (k3) (k3))))
abbrev k98 : Kd := .agg (.pair (k25) (.pair (k26) (k97)))
abbrev k99 : Kd := .agg (.pair (k25) (.pair (k26) (k97)))
abbrev k101 : Kd := .fn (k69) (k3)
abbrev k100 : Kd := .fn (.pair (k25) (.pair (k26) (k101))) (k99)
abbrev k136 : Kd := .agg (.pair (k97) (.pair (k97) (.pair (k3) (k3))))
abbrev k103 : Kd := .sl 136 k136
abbrev k102 : Kd := .fn (.pair (k103) (k97)) (.pair (k33) (k31))
abbrev k104 : Kd := .fn (.pair (k3) (k3)) (k103)
abbrev k105 : Kd := .fn (.unit) (k97)
abbrev k106 : Kd := .fn (.pair (k25) (k25)) (k4)
abbrev k107 : Kd := .fn (.pair (k26) (k26)) (k4)
abbrev k108 : Kd := .fn (.pair (k39) (k3)) (k22)
abbrev k109 : Kd := .fn (k41) (k3)
abbrev k110 : Kd := .fn (.pair (k22) (k41)) (k33)
abbrev k111 : Kd := .fn (k22) (k41)
abbrev k112 : Kd := .fn (.pair (k114) (k41)) (k3)
abbrev k113 : Kd := .agg (.pair (k41) (.pair (k41) (.pair (k3) (k3))))
abbrev k115 : Kd := .fn (.unit) (k103)
abbrev k116 : Kd := .fn (k3) (k4)
abbrev k117 : Kd := .fn (k22) (k22)
abbrev k118 : Kd := .fn (.unit) (k3)
abbrev k138 : Kd := .mem k136
abbrev k140 : Kd := .agg (.pair (k103) (k138))
abbrev k119 : Kd := .ptr 140 k140
abbrev k120 : Kd := .fn (k103) (k119)
abbrev k121 : Kd := .fn (.pair (k3) (k97)) (k3)
abbrev k122 : Kd := .fn (k22) (k4)
abbrev k123 : Kd := .fn (.pair (k33) (k122)) (k4)
abbrev k124 : Kd := .fn (k97) (k4)
abbrev k125 : Kd := .fn (.unit) (k124)
abbrev k128 : Kd := .seq (k97)
abbrev k129 : Kd := .fn (.pair (k22) (k22)) (k3)
abbrev k130 : Kd := .fn (k3) (k41)
abbrev k131 : Kd := .fn (.pair (k22) (k116)) (k4)
abbrev k132 : Kd := .fn (.pair (k23) (k94)) (k3)
abbrev k133 : Kd := .fn (.pair (k26) (k96)) (k3)
abbrev k134 : Kd := .fn (k97) (k33)
abbrev k135 : Kd := .agg (.pair (k97) (.pair (k97) (.pair (k3) (k3))))
abbrev k137 : Kd := .fn (.pair (k114) (.pair (k22) (k41))) (k3)
abbrev k139 : Kd := .agg (.pair (k103) (k138))
abbrev k141 : Kd := .agg (.pair (k3) (k97))
abbrev k142 : Kd := .agg (.pair (k3) (k97))
abbrev k144 : Kd := .fn (k97) (k3)
abbrev k145 : Kd := .fn (k97) (k97)
abbrev k146 : Kd := .fn (.pair (k3) (k3)) (k4)
abbrev k147 : Kd := .fn (.pair (k33) (k122)) (k3)
abbrev k148 : Kd := .fn (.pair (k3) (k3)) (k3)
abbrev k149 : Kd := .fn (.pair (k22) (k116)) (k3)
abbrev k150 : Kd := .fn (.unit) (k22)
abbrev k151 : Kd := .fn (.pair (k22) (k3)) (k22)
abbrev k152 : Kd := .int .u64
abbrev k154 : Kd := .fn (.pair (k152) (k152)) (.pair (k152) (k152))
abbrev k155 : Kd := .int .u32
abbrev k157 : Kd := .fn (.pair (k155) (k155)) (.pair (k155) (k155))
abbrev k158 : Kd := .int .u64
abbrev k160 : Kd := .fn (.pair (k158) (k158)) (.pair (k158) (k158))
abbrev k161 : Kd := .fn (.unit) (k9)
abbrev k167 : Kd := .int .u8
abbrev k168 : Kd := .int .u8
abbrev k171 : Kd := .int .i32
abbrev k172 : Kd := .int .i32
def tyT : List (Nat × TI) := [(1, ⟨k1, 8⟩), (2, ⟨k2, 8⟩), (3, ⟨k3, 8⟩), (4, ⟨k4, 1⟩), (5, ⟨k5, 1⟩), (6, ⟨k6, 1⟩), (7, ⟨k7, 24⟩), (8, ⟨k8, 24⟩), (9, ⟨k9, 16⟩), (10, ⟨k10, 16⟩), (11, ⟨k11, 16⟩), (12, ⟨k12, 8⟩), (13, ⟨k13, 24⟩), (14, ⟨k14, 24⟩), (21, ⟨k21, 4⟩), (22, ⟨k22, 24⟩), (23, ⟨k23, 24⟩), (24, ⟨k24, 56⟩), (25, ⟨k25, 56⟩), (26, ⟨k26, 24⟩), (27, ⟨k27, 8⟩), (28, ⟨k28, 8⟩), (29, ⟨k29, 8⟩), (30, ⟨k30, 8⟩), (31, ⟨k31, 8⟩), (32, ⟨k32, 8⟩), (33, ⟨k33, 24⟩), (35, ⟨k35, 8⟩), (36, ⟨k36, 8⟩), (38, ⟨k38, 8⟩), (39, ⟨k39, 24⟩), (40, ⟨k40, 8⟩), (41, ⟨k41, 32⟩), (42, ⟨k42, 8⟩), (43, ⟨k43, 8⟩), (44, ⟨k44, 8⟩), (45, ⟨k45, 8⟩), (47, ⟨k47, 8⟩), (48, ⟨k48, 8⟩), (49, ⟨k49, 8⟩), (50, ⟨k50, 8⟩), (52, ⟨k52, 8⟩), (54, ⟨k54, 8⟩), (56, ⟨k56, 8⟩), (57, ⟨k57, 8⟩), (58, ⟨k58, 8⟩), (59, ⟨k59, 8⟩), (60, ⟨k60, 8⟩), (61, ⟨k61, 24⟩), (62, ⟨k62, 24⟩), (63, ⟨k63, 24⟩), (64, ⟨k64, 80⟩), (65, ⟨k65, 80⟩), (67, ⟨k67, 8⟩), (68, ⟨k68, 16⟩), (69, ⟨k69, 16⟩), (70, ⟨k70, 32⟩), (71, ⟨k71, 32⟩), (72, ⟨k72, 8⟩), (73, ⟨k73, 8⟩), (75, ⟨k75, 8⟩), (76, ⟨k76, 16⟩), (77, ⟨k77, 16⟩), (78, ⟨k78, 8⟩), (79, ⟨k79, 8⟩), (81, ⟨k81, 8⟩), (82, ⟨k82, 8⟩), (83, ⟨k83, 8⟩), (84, ⟨k84, 8⟩), (85, ⟨k85, 8⟩), (86, ⟨k86, 8⟩), (87, ⟨k87, 8⟩), (88, ⟨k88, 8⟩), (89, ⟨k89, 8⟩), (90, ⟨k90, 8⟩), (91, ⟨k91, 8⟩), (92, ⟨k92, 8⟩), (93, ⟨k93, 8⟩), (94, ⟨k94, 8⟩), (95, ⟨k95, 8⟩), (96, ⟨k96, 8⟩), (97, ⟨k97, 32⟩), (98, ⟨k98, 112⟩), (99, ⟨k99, 112⟩), (100, ⟨k100, 8⟩), (101, ⟨k101, 8⟩), (102, ⟨k102, 8⟩), (103, ⟨k103, 24⟩), (104, ⟨k104, 8⟩), (105, ⟨k105, 8⟩), (106, ⟨k106, 8⟩), (107, ⟨k107, 8⟩), (108, ⟨k108, 8⟩), (109, ⟨k109, 8⟩), (110, ⟨k110, 8⟩), (111, ⟨k111, 8⟩), (112, ⟨k112, 8⟩), (113, ⟨k113, 80⟩), (114, ⟨k114, 80⟩), (115, ⟨k115, 8⟩), (116, ⟨k116, 8⟩), (117, ⟨k117, 8⟩), (118, ⟨k118, 8⟩), (119, ⟨k119, 8⟩), (120, ⟨k120, 8⟩), (121, ⟨k121, 8⟩), (122, ⟨k122, 8⟩), (123, ⟨k123, 8⟩), (124, ⟨k124, 8⟩), (125, ⟨k125, 8⟩), (126, ⟨k126, 2⟩), (127, ⟨k127, 4⟩), (128, ⟨k128, 8⟩), (129, ⟨k129, 8⟩), (130, ⟨k130, 8⟩), (131, ⟨k131, 8⟩), (132, ⟨k132, 8⟩), (133, ⟨k133, 8⟩), (134, ⟨k134, 8⟩), (135, ⟨k135, 80⟩), (136, ⟨k136, 80⟩), (137, ⟨k137, 8⟩), (138, ⟨k138, 8⟩), (139, ⟨k139, 32⟩), (140, ⟨k140, 32⟩), (141, ⟨k141, 40⟩), (142, ⟨k142, 40⟩), (144, ⟨k144, 8⟩), (145, ⟨k145, 8⟩), (146, ⟨k146, 8⟩), (147, ⟨k147, 8⟩), (148, ⟨k148, 8⟩), (149, ⟨k149, 8⟩), (150, ⟨k150, 8⟩), (151, ⟨k151, 8⟩), (152, ⟨k152, 8⟩), (154, ⟨k154, 8⟩), (155, ⟨k155, 4⟩), (157, ⟨k157, 8⟩), (158, ⟨k158, 8⟩), (160, ⟨k160, 8⟩), (161, ⟨k161, 8⟩), (167, ⟨k167, 1⟩), (168, ⟨k168, 1⟩), (171, ⟨k171, 4⟩), (172, ⟨k172, 4⟩)]
def slT : List (Nat × Nat) := [(22, 3), (23, 77), (26, 71), (33, 22), (39, 114), (61, 5), (62, 126), (63, 127), (103, 136)]
def flT : List ((Nat × Nat) × (Nat × Nat)) := [((7, 0), (0, 2)), ((7, 1), (1, 3)), ((7, 2), (2, 4)), ((7, 3), (3, 6)), ((8, 0), (0, 2)), ((8, 1), (1, 3)), ((8, 2), (2, 4)), ((8, 3), (3, 6)), ((13, 0), (0, 9)), ((13, 1), (1, 12)), ((14, 0), (0, 9)), ((14, 1), (1, 12)), ((24, 0), (0, 22)), ((24, 1), (1, 3)), ((24, 2), (2, 23)), ((25, 0), (0, 22)), ((25, 1), (1, 3)), ((25, 2), (2, 23)), ((64, 0), (0, 61)), ((64, 1), (1, 5)), ((64, 2), (2, 62)), ((64, 3), (3, 63)), ((65, 0), (0, 61)), ((65, 1), (1, 5)), ((65, 2), (2, 62)), ((65, 3), (3, 63)), ((68, 0), (0, 3)), ((68, 1), (1, 3)), ((69, 0), (0, 3)), ((69, 1), (1, 3)), ((70, 0), (0, 69)), ((70, 1), (2, 3)), ((70, 2), (3, 3)), ((71, 0), (0, 69)), ((71, 1), (2, 3)), ((71, 2), (3, 3)), ((76, 0), (0, 3)), ((76, 1), (1, 3)), ((77, 0), (0, 3)), ((77, 1), (1, 3)), ((98, 0), (0, 25)), ((98, 1), (3, 26)), ((98, 2), (4, 97)), ((99, 0), (0, 25)), ((99, 1), (3, 26)), ((99, 2), (4, 97)), ((113, 0), (0, 41)), ((113, 1), (4, 41)), ((113, 2), (8, 3)), ((113, 3), (9, 3)), ((114, 0), (0, 41)), ((114, 1), (4, 41)), ((114, 2), (8, 3)), ((114, 3), (9, 3)), ((135, 0), (0, 97)), ((135, 1), (4, 97)), ((135, 2), (8, 3)), ((135, 3), (9, 3)), ((136, 0), (0, 97)), ((136, 1), (4, 97)), ((136, 2), (8, 3)), ((136, 3), (9, 3)), ((139, 0), (0, 103)), ((139, 1), (1, 138)), ((140, 0), (0, 103)), ((140, 1), (1, 138)), ((141, 0), (0, 3)), ((141, 1), (1, 97)), ((142, 0), (0, 3)), ((142, 1), (1, 97)), ((41, 1000000), (4, 3)), ((97, 1000000), (4, 3)), ((126, 1000000), (2, 5)), ((127, 1000000), (4, 5))]
def eqT : List (Nat × Nat) := [(71, 4), (68, 2), (69, 2), (76, 2), (77, 2), (41, 4), (97, 4), (126, 2), (127, 4)]
def mkT : List (Nat × (Nat × Nat)) := []
def glT : List (Nat × GV) := []
def inlT : List Nat := []
def mpT : List (Nat × (Nat × Nat)) := [(138, (142, 3))]

def upIt : ItM := ⟨k97, k97, fun (f : Int × Int × Int × Int) => (0 ≤ f.1 ∧ f.1 ≤ 1000) ∧ (0 ≤ f.2.1 ∧ f.2.1 ≤ 1000) ∧ (0 ≤ f.2.2.1 ∧ f.2.2.1 ≤ 1000) ∧ (0 ≤ f.2.2.2 ∧ f.2.2.2 ≤ 1000), fun f => GX.Fa.upTo f⟩
def itT : List (Nat × ItM) := [(88, upIt)]
def S00 (ct : List (Nat × Ct)) (lits : List Nat) : GX.Stat := Stat.of tyT slT flT eqT mkT glT ct inlT lits
def S0 (ct : List (Nat × Ct)) (lits : List Nat) : GX.Stat := ((S00 ct lits).withMp mpT).withItm itT
end Go.Proofs.Fa
set_option maxRecDepth 100000
namespace Go.Proofs.Fa
open Go Go.GX Go.Proofs
variable [Inhabited BaseD]
theorem st_ok : statB Try.prog tyT slT flT eqT = true := by kernel_rfl
theorem mk_ok : AllMk Try.prog mkT := .nil
theorem in_ok : AllInl Try.prog inlT := AllInl.nil
end Go.Proofs.Fa
namespace Go.Proofs.Fa
open Go.GX

abbrev no_an : Nat → Items := fun _ => []
abbrev arg1 (a : Kd) : Kd := .pair a .unit
abbrev arg2 (a b : Kd) : Kd := .pair a (.pair b .unit)
abbrev arg3 (a b c : Kd) : Kd := .pair a (.pair b (.pair c .unit))
abbrev arg4 (a b c d : Kd) : Kd := .pair a (.pair b (.pair c (.pair d .unit)))
abbrev res2 (a b : Kd) : Kd := .pair a (.pair b .unit)
abbrev res3 (a b c : Kd) : Kd := .pair a (.pair b (.pair c .unit))
abbrev Lot := Int × Int
abbrev Spring := (Int × Int) × Int × Int
abbrev Store := List Int × Int × List Lot
abbrev Fashion := Store × List Spring × FansT

def Says {α β : Type} (f : α → (β → Prop) → Prop) (p : α → β) (l : List α) : Prop := ∀ x, x ∈ l → ∀ Q : β → Prop, Q (p x) → f x Q

def idxF {α : Type} (p : α → Bool) (xs : List α) : Int :=
  match xs.findIdx? p with
  | some i => (i : Int)
  | none => -1

def idx_an : Nat → Items
  | 0 => [.t 8 k3]
  | _ => []
def f104_wp : List Int × (Int → (Bool → Prop) → Prop) × Unit → Unit → (Int → Prop) → Prop := fun a _ Q => ∃ p : Int → Bool, Says a.2.1 p a.1 ∧ Q (idxF p a.1)
def f104_ct : Ct := ⟨arg2 k22 (.fn k3 .bool), .unit, k3, f104_wp, false, false⟩
def f91_wp : List Int × (Int → (Bool → Prop) → Prop) × Unit → Unit → (Bool → Prop) → Prop := fun a _ Q => ∃ p : Int → Bool, Says a.2.1 p a.1 ∧ Q (a.1.any p)
def f91_ct : Ct := ⟨arg2 k22 (.fn k3 .bool), .unit, .bool, f91_wp, false, false⟩
def f93_wp : List Lot × (Lot → (Bool → Prop) → Prop) × Unit → Unit → (Int → Prop) → Prop := fun a _ Q => ∃ p : Lot → Bool, Says a.2.1 p a.1 ∧ Q (idxF p a.1)
def f93_ct : Ct := ⟨arg2 k23 (.fn k77 .bool), .unit, k3, f93_wp, false, false⟩
def f59_wp : List Lot × (Lot → (Bool → Prop) → Prop) × Unit → Unit → (Bool → Prop) → Prop := fun a _ Q => ∃ p : Lot → Bool, Says a.2.1 p a.1 ∧ Q (a.1.any p)
def f59_ct : Ct := ⟨arg2 k23 (.fn k77 .bool), .unit, .bool, f59_wp, false, false⟩
def f94_wp : List Spring × (Spring → (Bool → Prop) → Prop) × Unit → Unit → (Int → Prop) → Prop := fun a _ Q => ∃ p : Spring → Bool, Says a.2.1 p a.1 ∧ Q (idxF p a.1)
def f94_ct : Ct := ⟨arg2 k26 (.fn k71 .bool), .unit, k3, f94_wp, false, false⟩
def f62_wp : List Spring × (Spring → (Bool → Prop) → Prop) × Unit → Unit → (Bool → Prop) → Prop := fun a _ Q => ∃ p : Spring → Bool, Says a.2.1 p a.1 ∧ Q (a.1.any p)
def f62_ct : Ct := ⟨arg2 k26 (.fn k71 .bool), .unit, .bool, f62_wp, false, false⟩
def f101_wp : List (List Int) × (List Int → (Bool → Prop) → Prop) × Unit → Unit → (Int → Prop) → Prop := fun a _ Q => ∃ p : List Int → Bool, Says a.2.1 p a.1 ∧ Q (idxF p a.1)
def f101_ct : Ct := ⟨arg2 k33 (.fn k22 .bool), .unit, k3, f101_wp, false, false⟩
def f85_wp : List (List Int) × (List Int → (Bool → Prop) → Prop) × Unit → Unit → (Bool → Prop) → Prop := fun a _ Q => ∃ p : List Int → Bool, Says a.2.1 p a.1 ∧ Q (a.1.any p)
def f85_ct : Ct := ⟨arg2 k33 (.fn k22 .bool), .unit, .bool, f85_wp, false, false⟩
def f79_wp : List Int → Unit → (List Int → Prop) → Prop := fun xs _ Q => xs.length ≤ 1000000 ∧ Q xs
def f79_ct : Ct := ⟨k22, .unit, k22, f79_wp, false, true⟩
def f106_wp : Int → Unit → (Bool → Prop) → Prop := fun _ _ Q => Q false
def f106_ct : Ct := ⟨k3, .unit, .bool, f106_wp, false, false⟩
def f100_wp : Int × Int × Unit → Unit → (Bool → Prop) → Prop := fun a _ Q => Q (decide (a.1 < a.2.1))
def f100_ct : Ct := ⟨arg2 k3 k3, .unit, .bool, f100_wp, false, false⟩
def cmpI3 (a b : Int) : Int := if a < b then -1 else if b < a then 1 else 0
def f103_wp : Int × Int × Unit → Unit → (Int → Prop) → Prop := fun a _ Q => Q (cmpI3 a.1 a.2.1)
def f103_ct : Ct := ⟨arg2 k3 k3, .unit, k3, f103_wp, false, false⟩
def cmpL : List Int → List Int → Int
  | [], [] => 0
  | [], _ :: _ => -1
  | _ :: _, [] => 1
  | a :: r, b :: s => if cmpI3 a b ≠ 0 then cmpI3 a b else cmpL r s
def f89_wp : List Int × List Int × Unit → Unit → (Int → Prop) → Prop := fun a _ Q => Q (cmpL a.1 a.2.1)
def f89_ct : Ct := ⟨arg2 k22 k22, .unit, k3, f89_wp, false, false⟩
def f89_an : Nat → Items
  | 0 => [.t 11 k3]
  | _ => []
def sortedB : List Int → Bool
  | [] => true
  | a :: r => (match r with | [] => true | b :: _ => decide (a ≤ b)) && sortedB r
def f84_wp : List Int → Unit → (Bool → Prop) → Prop := fun xs _ Q => Q (sortedB xs)
def f84_ct : Ct := ⟨k22, .unit, .bool, f84_wp, false, false⟩
def f84_an : Nat → Items
  | 0 => [.t 3 k3]
  | _ => []
def f110_wp : Int × Int × Unit → Unit → (Int × Int × Unit → Prop) → Prop := fun a _ Q => (0 ≤ a.1 ∧ a.1 ≤ 1000 ∧ 0 ≤ a.2.1 ∧ a.2.1 ≤ 1000) ∧ Q (0, a.1 * a.2.1, ())
def f108_wp := f110_wp
def f108_ct : Ct := ⟨arg2 k158 k158, .unit, res2 k158 k158, f108_wp, false, false⟩
def f110_ct : Ct := ⟨arg2 k158 k158, .unit, res2 k158 k158, f110_wp, false, false⟩
def f107_wp : List Int × Int × Unit → Unit → (List Int → Prop) → Prop := fun a _ Q => (a.1.length = 1 ∧ 0 ≤ a.2.1 ∧ a.2.1 ≤ 1000) ∧ Q (List.replicate a.2.1.toNat (a.1.getD 0 0))
def f107_ct : Ct := ⟨arg2 k22 k3, .unit, k22, f107_wp, true, false⟩
def f107_an : Nat → Items
  | 0 => [.t 8 k3, .lrow 602 true 3 k3]
  | _ => []

def inB (lo hi n : Int) : Bool := decide (lo ≤ n) && decide (n ≤ hi)
def f92_wp : Int → Int × Int × Unit → (Bool → Prop) → Prop := fun n c Q => Q (!inB c.1 c.2.1 n)
def f92_ct : Ct := ⟨k3, arg2 (.ptr 3 k3) (.ptr 3 k3), .bool, f92_wp, false, false⟩
def f58_wp : Int × Int × List Int × Unit → Unit → (Bool → Prop) → Prop := fun a _ Q => Q (a.2.2.1.all (inB a.1 a.2.1))
def f58_ct : Ct := ⟨arg3 k3 k3 k22, .unit, .bool, f58_wp, false, false⟩
def isLotF (l : Lot) : Bool := inB 1 200 l.1 && inB 0 200 l.2
def f61_wp : Lot → Unit → (Bool → Prop) → Prop := fun l _ Q => Q (isLotF l)
def f61_ct : Ct := ⟨k77, .unit, .bool, f61_wp, false, false⟩
def f60_wp : Lot → Unit → (Bool → Prop) → Prop := fun l _ Q => Q (!isLotF l)
def f60_ct : Ct := ⟨k77, .unit, .bool, f60_wp, false, false⟩
def isSprF (s : Spring) : Bool := inB 2 40 s.1.1 && inB 2 40 s.1.2 && decide (s.1.1 ≤ s.1.2) && inB 0 4 s.2.1 && inB 1 200 s.2.2
def f64_wp : Spring → Unit → (Bool → Prop) → Prop := fun s _ Q => Q (isSprF s)
def f64_ct : Ct := ⟨k71, .unit, .bool, f64_wp, false, false⟩
def f63_wp : Spring → Unit → (Bool → Prop) → Prop := fun s _ Q => Q (!isSprF s)
def f63_ct : Ct := ⟨k71, .unit, .bool, f63_wp, false, false⟩
def checkF (s : Store) (f : List Spring) : Int :=
  if 6 < s.1.length ∨ 5 < s.2.2.length then 5
  else if s.1.all (inB 1 200) = false ∨ inB 0 10 s.2.1 = false ∨ s.2.2.all isLotF = false then 2
  else if inB 1 4 f.length = false then 4
  else if f.all isSprF = false then 3
  else 0
def f20_wp : Store × List Spring × Unit → Unit → (Int → Prop) → Prop := fun a _ Q => Q (checkF a.1 a.2.1)
def f20_ct : Ct := ⟨arg2 k25 k26, .unit, k31, f20_wp, false, false⟩
def f78_wp : Int → Unit → (Bool → Prop) → Prop := fun n _ Q => Q (inB 1 200 n)
def f78_ct : Ct := ⟨k3, .unit, .bool, f78_wp, false, false⟩

def tup4 (g : Nat → Int) : FansT := (g 0, g 1, g 2, g 3)
def at4 (t : FansT) : Nat → Int
  | 0 => t.1
  | 1 => t.2.1
  | 2 => t.2.2.1
  | 3 => t.2.2.2
  | _ => 0
def bnd (B x : Int) : Prop := -B ≤ x ∧ x ≤ B
def all4 (p : Int → Prop) (t : FansT) : Prop := p t.1 ∧ p t.2.1 ∧ p t.2.2.1 ∧ p t.2.2.2

def FOK (f : FansT) : Prop := all4 (fun x => 0 ≤ x ∧ x ≤ 1000) f
structure BOK (b : BinT) : Prop where
  t : all4 (bnd 1000000) b.1
  l : all4 (bnd 1000000) b.2.1
  h : bnd 1000000 b.2.2.1
  f : bnd 1000000 b.2.2.2
structure BinsOK (bs : List BinT) : Prop where
  n : bs.length ≤ 1000
  b : ∀ b, b ∈ bs → BOK b
def sumF (f : FansT) : Int := f.1 + f.2.1 + f.2.2.1 + f.2.2.2
def f80_wp : FansT → Unit → (Int → Prop) → Prop := fun f _ Q => all4 (bnd 1000000) f ∧ Q (sumF f)
def f80_ct : Ct := ⟨k97, .unit, k3, f80_wp, false, false⟩
def f80_an : Nat → Items
  | 0 => [.t 6 k3, .t 2 k3]
  | _ => []
def listF (f : FansT) : List Int := List.replicate f.1.toNat 0 ++ List.replicate f.2.1.toNat 1 ++ List.replicate f.2.2.1.toNat 2 ++ List.replicate f.2.2.2.toNat 3
def f105_wp : FansT → Unit → (List Int → Prop) → Prop := fun f _ Q => FOK f ∧ Q (listF f)
def f105_ct : Ct := ⟨k97, .unit, k22, f105_wp, true, false⟩
def f105_an : Nat → Items
  | 0 => [.t 6 k3, .row 2 5001 false 3 k3]
  | _ => []
def f97_wp : BinT × FansT × Unit → Unit → (Bool → Prop) → Prop := fun a _ Q => (BOK a.1 ∧ FOK a.2.1) ∧ Q (GX.Fa.fitsB a.1 a.2.1)
def f97_ct : Ct := ⟨arg2 k136 k97, .unit, .bool, f97_wp, false, false⟩
def f97_an : Nat → Items
  | 0 => [.t 9 k3, .t 5 k3]
  | _ => []
def f98_wp : BinT × FansT × Unit → Unit → (Int → Prop) → Prop := fun a _ Q => (BOK a.1 ∧ FOK a.2.1) ∧ Q (GX.Fa.lossV a.1 a.2.1)
def f98_ct : Ct := ⟨arg2 k136 k97, .unit, k3, f98_wp, false, false⟩
def f99_wp : FansT × FansT × Unit → Unit → (FansT → Prop) → Prop := fun a _ Q => (all4 (bnd 1000000) a.1 ∧ all4 (bnd 1000000) a.2.1) ∧ Q (GX.Fa.less a.1 a.2.1)
def f99_ct : Ct := ⟨arg2 k97 k97, .unit, k97, f99_wp, false, false⟩
def f99_an : Nat → Items
  | 0 => [.t 6 k3, .cell 0 97 k97]
  | _ => []

def f66_wp : Int × Int → Unit → (Int → Prop) → Prop := fun s _ Q => Q s.2
def f66_ct : Ct := ⟨k69, .unit, k3, f66_wp, false, false⟩
def cntF (e : Int × Int → Int) (f : List Spring) : FansT := tup4 fun i => if i < f.length then e (f.getD i ((0, 0), 0, 0)).1 else 0
def f65_wp : Store × List Spring × (Int × Int → (Int → Prop) → Prop) × Unit → Unit → (Fashion → Prop) → Prop := fun a _ Q =>
  ∃ e : Int × Int → Int, (a.2.1.length ≤ 4 ∧ Says a.2.2.1 e (a.2.1.map (·.1))) ∧ Q (a.1, a.2.1, cntF e a.2.1)
def f65_ct : Ct := ⟨arg3 k25 k26 k101, .unit, k99, f65_wp, false, false⟩
def f65_an : Nat → Items
  | 0 => [.t 16 k3, .cell 104 99 k99]
  | _ => []
def wantF (f : List Spring) : FansT := tup4 fun i => if i < f.length then (f.getD i ((0, 0), 0, 0)).2.1 else 0
def f69_wp : Fashion → Unit → (FansT → Prop) → Prop := fun x _ Q => x.2.1.length ≤ 4 ∧ Q (wantF x.2.1)
def f69_ct : Ct := ⟨k99, .unit, k97, f69_wp, false, false⟩
def f69_an : Nat → Items
  | 0 => [.t 8 k3, .cell 1 97 k97]
  | _ => []

structure XOK (x : Fashion) : Prop where
  n : x.2.1.length ≤ 4
  nl : x.1.1.length ≤ 500
  nt : x.1.2.2.length ≤ 500
  lv : ∀ l, l ∈ x.1.1 → bnd 400 l
  sm : bnd 400 x.1.2.1
  lt : ∀ l, l ∈ x.1.2.2 → bnd 400 l.1 ∧ bnd 400 l.2
  sp : ∀ s, s ∈ x.2.1 → bnd 400 s.2.2
  ct : all4 (bnd 400) x.2.2
def leavesF (ls : List Int) (seam : Int) (n : Nat) (c : FansT) (each first : Int) : List BinT :=
  ls.map fun p => (tup4 fun i => if i < n then at4 c i + seam else 0, tup4 fun i => if i < n then each else 0, p + seam, first)
def f68_wp : Fashion × Int × Int × Unit → Unit → (List BinT → Prop) → Prop := fun a _ Q => XOK a.1 ∧ Q (leavesF a.1.1.1 a.1.1.2.1 a.1.2.1.length a.1.2.2 a.2.1 a.2.2.1)
def f68_ct : Ct := ⟨arg3 k99 k3 k3, .unit, k103, f68_wp, true, false⟩
def f68_an : Nat → Items
  | 0 => [.t 16 k3, .cell 102 136 k136]
  | 2 => [.t 39 k3, .cell 102 136 k136, .row 6 5001 false 136 k136]
  | _ => []
def lotB (f : List Spring) (c : FansT) (l : Lot) : BinT :=
  (tup4 fun i => if i < f.length then (if (f.getD i ((0, 0), 0, 0)).2.2 > l.1 then l.2 + 1 else at4 c i) else 0,
    tup4 fun i => if i < f.length then at4 c i * (l.1 - (f.getD i ((0, 0), 0, 0)).2.2) else 0, l.2, 0)
def lotsF (ls : List Lot) (f : List Spring) (c : FansT) : List BinT := ls.map (lotB f c)
def f77_wp : Fashion → Unit → (List BinT → Prop) → Prop := fun x _ Q => XOK x ∧ Q (lotsF x.1.2.2 x.2.1 x.2.2)
def f77_ct : Ct := ⟨k99, .unit, k103, f77_wp, true, false⟩
def f77_an : Nat → Items
  | 0 => [.t 12 k3, .row 2 5001 false 136 k136]
  | 2 => [.t 22 k3, .cell 403 136 k136]
  | _ => []
end Go.Proofs.Fa
