/- Part 5 of the texts behind the proof: Gx20, Gx20r, Gx20l, Gx21, Gx22, Gx23, Gx24, Gx29, Gx31. -/
import Derived.Test.YtgcgakefjfhnkaaG04
set_option linter.unusedSimpArgs false
set_option linter.unusedVariables false
set_option linter.unusedSectionVars false
set_option linter.unusedVariables false
namespace Go.GX
variable [Inhabited BaseD]
open Go.RowKit Go.Shelf Go.Proofs

theorem testBit_pow (n i : Nat) : Nat.testBit (2 ^ n) i = decide (n = i) := Nat.testBit_two_pow

theorem ancGo_spec (rs : List Rec) (i : Nat) : ∀ (es : List Edge) (m : Nat), Nat.testBit (ancGo rs es m) i = true → Nat.testBit m i = true ∨ ∃ e, e ∈ es ∧ Region.binds .any e = true ∧ (e.on = i ∨ ∃ x, rs[e.on]? = some x ∧ Nat.testBit x.anc i = true)
  | [], m, h => .inl h
  | e :: r, m, h => by
    simp only [ancGo] at h
    rcases ancGo_spec rs i r _ h with h1 | ⟨e', he', h1⟩
    · cases hb : Region.binds .any e with
      | false => rw [hb] at h1; exact .inl h1
      | true =>
        rw [hb, cond_true, Nat.testBit_or, Nat.testBit_or, testBit_pow] at h1
        simp only [Bool.or_eq_true, decide_eq_true_eq] at h1
        rcases h1 with (h1 | h1) | h1
        · exact .inl h1
        · exact .inr ⟨e, List.mem_cons_self, hb, .inl h1⟩
        · refine .inr ⟨e, List.mem_cons_self, hb, .inr ?_⟩
          cases hx : rs[e.on]? with
          | none => rw [hx] at h1; simp at h1
          | some x => rw [hx] at h1; exact ⟨x, rfl, h1⟩
    · exact .inr ⟨e', List.mem_cons_of_mem _ he', h1⟩

theorem ancOf_spec {rs : List Rec} {o : Oper} {i : Nat} (h : Nat.testBit (ancOf rs o) i = true) : ∃ e, e ∈ o.after.toList ∧ Region.binds .any e = true ∧ (e.on = i ∨ ∃ x, rs[e.on]? = some x ∧ Nat.testBit x.anc i = true) := by
  rcases ancGo_spec rs i o.after.toList 0 h with h | h
  · simp at h
  · exact h

theorem apartAll_spec (lab j : Nat) (y : Rec) : ∀ (rs : List Rec) (i : Nat), Rec.apartAll lab j y i rs = true → ∀ k x, rs[k]? = some x → Nat.testBit y.anc (i + k) = true ∨ x.apart lab (i + k) j y = true
  | [], i, h, k, x, hx => by simp at hx
  | x0 :: r, i, h, k, x, hx => by
    simp only [Rec.apartAll, Bool.and_eq_true, Bool.or_eq_true] at h
    cases k with
    | zero => simp only [List.getElem?_cons_zero, Option.some.injEq] at hx; subst hx; exact h.1
    | succ k =>
      have := apartAll_spec lab j y r (i + 1) h.2 k x (by simpa using hx)
      rwa [show i + 1 + k = i + (k + 1) by omega] at this

theorem apartL_spec {a b : List Nat} (h : apartL a b = true) : ∀ l, memL l a = true → memL l b = false := by
  induction a with
  | nil => intro l hl; cases hl
  | cons k r ih =>
    intro l hl
    simp only [apartL, Bool.and_eq_true, Bool.not_eq_true'] at h
    rw [memL_cons, Bool.or_eq_true] at hl
    rcases hl with hl | hl
    · have := Nat.eq_of_beq_eq_true hl
      subst this
      exact h.1
    · exact ih h.2 l hl

theorem apartO_spec {d : Option Nat} {rd : List Nat} (h : apartO d rd = true) : ∀ t, d = some t → memL t rd = false := by
  intro t ht
  subst ht
  simpa [apartO] using h

section
variable {P : Program} {glb : Nat → Option GV} {Bk X0 : Nat → Prop} {w0 : World} {st0 : St} {ρ0 : Lab} {S : Stat} {lab : Nat} {F : Fence} {n : Nat} {all : List Oper} {es : List Ef} {D : Nat → Bool} {lk : Option Nat}

structure Two (lab i j : Nat) (x y : Ef) : Prop where
  xy : NoTouch x y.r.rd y.r.mem
  yx : NoTouch y x.r.rd x.r.mem
  cm : Comm x y
  mc : Comm y x
  li : freshL (lab + i) (y.u.map (·.1)) = true

theorem two_of {i j : Nat} {x y : Ef} (h : x.r.apart lab i j y.r = true) (hx : x.r.tch = x.u.map (·.1)) (hy : y.r.tch = y.u.map (·.1)) : Two lab i j x y := by
  simp only [Rec.apart, Bool.and_eq_true, Bool.not_eq_true'] at h
  obtain ⟨⟨⟨⟨⟨h1, h2⟩, h3⟩, h4⟩, h5⟩, h6⟩ := h
  rw [hx] at h3 h6
  rw [hy] at h3 h4 h5
  have g1 := apartO_spec h1
  have g2 := apartO_spec h2
  have g3 := apartL_spec h3
  have g4 := apartL_spec h4
  have sym : ∀ l, memL l (y.u.map (·.1)) = true → memL l (x.u.map (·.1)) = false := by
    intro l hl
    cases hm : memL l (x.u.map (·.1)) with
    | false => rfl
    | true =>
      have := g3 l hm
      rw [memL_append, hl] at this; cases this
  refine ⟨⟨fun d hd => ?_, fun l hl => ?_⟩, ⟨fun d hd => g2 d hd, fun l hl => ?_⟩, ⟨fun d hd hy' => ?_, fun l hl => ?_⟩, ⟨fun d hd hx' => ?_, sym⟩, h5⟩
  · have := g1 d hd
    rw [memL_append, Bool.or_eq_false_iff] at this
    exact this.2
  · cases hm : memL l (x.u.map (·.1)) with
    | false => rfl
    | true =>
      have := g3 l hm
      rw [memL_append, hl, Bool.or_true] at this; cases this
  · cases hm : memL l (y.u.map (·.1)) with
    | false => rfl
    | true => rw [g4 l hm] at hl; cases hl
  · have := g1 d hd
    rw [memL_append, hy'] at this
    simp [memL_cons] at this
  · have := g3 l hl
    rw [memL_append, Bool.or_eq_false_iff] at this
    exact this.1
  · have := g1 d hx'
    rw [memL_append, hd] at this
    simp [memL_cons] at this

theorem facts_two (hf : Facts S all lab lk st0 es) {i j : Nat} {x y : Ef} (hij : i < j) (hx : es[i]? = some x) (hy : es[j]? = some y) : Nat.testBit y.r.anc i = true ∨ Two lab i j x y := by
  obtain ⟨oy, fy, _, hap⟩ := hf j y hy
  obtain ⟨ox, fx, _, _⟩ := hf i x hx
  have hg : ((es.take j).map (·.r))[i]? = some x.r := by
    rw [List.getElem?_map, List.getElem?_take, if_pos hij, hx]; rfl
  rcases apartAll_spec lab j y.r _ 0 hap i x.r hg with h | h
  · rw [Nat.zero_add] at h; exact .inl h
  · rw [Nat.zero_add] at h; exact .inr (two_of h fx.tch fy.tch)

def Closed (es : List Ef) (D : Nat → Bool) : Prop := ∀ k e, es[k]? = some e → D k = true → ∀ i, Nat.testBit e.r.anc i = true → D i = true

def canon (es : List Ef) (st0 : St) (D : Nat → Bool) (dom : List Nat) : St :=
  ⟨st0.n, (appD D es 0 st0).tm, fun l => ((appD D es 0 st0).look l).map fun h => (h, 0), 0, dom⟩

theorem canon_look {dom : List Nat} {l : Nat} : (canon es st0 D dom).look l = (appD D es 0 st0).look l := by
  simp only [canon, St.look]
  cases (appD D es 0 st0).hp l <;> rfl

def InvD (P : Program) (glb : Nat → Option GV) (Bk X0 : Nat → Prop) (w0 : World) (es : List Ef) (st0 : St) (ρ0 : Lab) (D : Nat → Bool) (a : Act) (W : World) : Prop :=
  ∃ ρ dom, ρ0.le ρ ∧ Mt P glb Bk X0 w0 (canon es st0 D dom) ρ a W ∧ ∀ l, memL l dom = true → memL l st0.dom = true ∨ ∃ k e, es[k]? = some e ∧ D k = true ∧ memL l (e.u.map (·.1)) = true

theorem allE_take_dom {i : Nat} {q : Nat} (h : freshL q (allE (es.take i) st0).dom = true) : freshL q st0.dom = true ∧ ∀ k e, k < i → es[k]? = some e → freshL q (e.u.map (·.1)) = true :=
  ⟨freshL_mono (fun l hl => .inl ((allE_dom (es.take i) st0).2 (.inl hl))) h, fun k e hk he => freshL_mono (fun l hl => .inl ((allE_dom (es.take i) st0).2 (.inr ⟨e, List.mem_of_getElem? (i := k) (by rw [List.getElem?_take, if_pos hk]; exact he), hl⟩))) h⟩

theorem any_step (hF : Wide F P) (hS : StatOK P S) (hct : CtOK P glb S) (hg : S.glb = glb) (hf : Facts S all lab lk st0 es) (hlen : es.length ≤ all.length) (hcl : Closed es D) {i : Nat} {e : Ef} {o : Oper} (hi : es[i]? = some e) (ho : all[i]? = some o) (hlk : lk ≠ some i) (hD : D i = false)
    (hready : ∀ ed, ed ∈ o.after.toList → Region.binds .any ed = true → D ed.on = true) {D' : Nat → Bool} (hD' : D' i = true) (hDD : ∀ k, k ≠ i → D' k = D k) {Q : Exit → Act → World → Prop} {K : Act → World → Prop} (hK : ∀ a W, InvD P glb Bk X0 w0 es st0 ρ0 D' a W → Closed es D' → K a W) {a : Act} {W : World} (hinv : InvD P glb Bk X0 w0 es st0 ρ0 D a W) :
    wpOpIn F n P all.toArray Q i K a W := by
  obtain ⟨ρ, dom, hle0, m, hdom⟩ := hinv
  obtain ⟨o', fe, hanc, _⟩ := hf i e hi
  have : o' = o := by have := fe.op; rw [ho] at this; cases this; rfl
  subst this
  have ancD : ∀ k, Nat.testBit e.r.anc k = true → D k = true := by
    intro k hk
    rw [hanc] at hk
    obtain ⟨ed, hed, hbd, hcase⟩ := ancOf_spec hk
    have hon := hready ed hed hbd
    rcases hcase with rfl | ⟨x, hx, hxk⟩
    · exact hon
    · rw [List.getElem?_map, List.getElem?_take] at hx
      split at hx
      · cases hex : es[ed.on]? with
        | none => rw [hex] at hx; cases hx
        | some ex =>
          rw [hex] at hx
          cases hx
          exact hcl ed.on ex hex hon k hxk
      · cases hx
  have hcl' : Closed es D' := by
    intro k ek hek hk j hj
    by_cases hki : k = i
    · subst hki
      rw [hi] at hek; cases hek
      have := ancD j hj
      rw [hDD j (by intro hh; subst hh; rw [hD] at this; cases this)]
      exact this
    · rw [hDD k hki] at hk
      have := hcl k ek hek hk j hj
      rw [hDD j (by intro hh; subst hh; rw [hD] at this; cases this)]
      exact this
  have later : ∀ k ek, es[k]? = some ek → i < k → D k = true → Two lab i k e ek := by
    intro k ek hek hk hd
    rcases facts_two hf hk hi hek with h | h
    · have := hcl k ek hek hd i h
      rw [hD] at this; cases this
    · exact h
  have before : ∀ k ek, es[k]? = some ek → k < i → D k = false → Two lab k i ek e := by
    intro k ek hek hk hd
    rcases facts_two hf hk hek hi with h | h
    · rw [ancD k h] at hd; cases hd
    · exact h
  have heq : EqOn e.r.rd e.r.mem (appD D es 0 st0) (allE (es.take i) st0) := by
    have := part_eq D e.r.rd e.r.mem i es 0 st0 st0 ⟨fun _ _ => rfl, fun _ _ => rfl⟩ (fun k ek hek hk hd => (before k ek hek (by omega) (by simpa using hd)).xy) (fun k ek hek hk hd => by
      have hd' : D k = true := by simpa using hd
      have hki : i < k := by
        rcases Nat.lt_or_ge i k with h | h
        · exact h
        · have : k = i := by omega
          subst this; rw [hD] at hd'; cases hd'
      exact (later k ek hek hki hd').yx)
    rwa [Nat.sub_zero] at this
  have hins : EqAll (appD D' es 0 st0) (e.app (appD D es 0 st0)) := appD_insert i e hD hD' hDD es 0 st0 (Nat.zero_le _) (by simpa using hi) (fun k ek hek hk hd => (later k ek hek (by omega) (by simpa using hd)).mc)
  have hnew : freshL (lab + i) dom = true := by
    obtain ⟨n1, n2⟩ := allE_take_dom fe.new
    refine freshL_mono (d := []) (fun l hl => .inr ?_) rfl
    rcases hdom _ hl with h | ⟨k, ek, hek, hk, h⟩
    · exact ⟨_, n1, h⟩
    · rcases Nat.lt_trichotomy k i with hlt | heq' | hgt
      · exact ⟨_, n2 k ek hlt hek, h⟩
      · subst heq'; rw [hD] at hk; cases hk
      · exact ⟨_, (later k ek hek hgt hk).li, h⟩
  have hdst : dstOK st0.n o'.dst = true := by have := fe.dst; rwa [allE_n] at this

  have done : ∀ (ρ' : Lab) (a' : Act) (W' : World), ρ0.le ρ' → Mt P glb Bk X0 w0 ((canon es st0 D dom).upds e.u) ρ' a' W' → ∀ v, RepV P ρ' (Xs ((canon es st0 D dom).upds e.u) ρ' X0) W' e.sv v → K (a'.put o'.dst v) W' := by
    intro ρ' a' W' hle' m' v hv
    have m2 := m'.put o'.dst e.sv v (by rw [upds_n]; exact hdst) hv
    refine hK _ _ ⟨ρ', ((canon es st0 D dom).upds e.u).dom, hle', ?_, fun l hl => ?_⟩ hcl'
    · refine m2.same ?_ (fun t => ?_) (fun l => ?_) (fun l v hlv => ?_) (fun l he s hh => ?_)
      · rw [put_n, upds_n]; rfl
      · show (appD D' es 0 st0).tm t = _
        rw [hins.1 t, app_tm, fe.wr]
        cases o'.dst with
        | none => simp [St.put, upds_tm, canon]
        | some d => simp [St.put, updf, upds_tm, canon]
      · rw [canon_look, hins.2 l, app_look, put_look, upds_look, canon_look]
        cases lastU e.u l <;> rfl
      · exact m'.dom l v hlv
      · have : ((appD D' es 0 st0).look l).map (fun h => (h, 0)) = some (he, s) := hh
        cases hq : (appD D' es 0 st0).look l with
        | none => rw [hq] at this; cases this
        | some x => rw [hq] at this; cases this; exact Nat.le_refl _
    · rw [upds_dom, Bool.or_eq_true] at hl
      rcases hl with hl | hl
      · exact .inr ⟨i, e, hi, hD', hl⟩
      · rcases hdom l hl with h | ⟨k, ek, hek, hk, h⟩
        · exact .inl h
        · refine .inr ⟨k, ek, hek, ?_, h⟩
          rw [hDD k (by intro hh; subst hh; rw [hD] at hk; cases hk)]; exact hk

  have hguard : ∀ want, Guard all (allE (es.take i) st0) o' e want → ∃ j w, o'.guard = some (j, w) ∧ yielded all.toArray a.tmps j = some (cond want w (!w)) := by
    rintro want ⟨j, w, d, oj, h1, h2, h3, h4, h5, h6⟩
    refine ⟨j, w, h1, ?_⟩
    have htm : (canon es st0 D dom).tm d = boolSV (cond want w (!w)) := by
      show (appD D es 0 st0).tm d = _
      rw [heq.1 d h4, h2]
    have hr := m.tms d
    rw [htm] at hr
    obtain ⟨c, hc, hr2⟩ := hr
    cases hc
    obtain ⟨v, hv, _, hvb⟩ := hr2
    cases hv
    have hlt : d < a.tmps.size := by rw [m.size]; rw [allE_n] at h3; exact h3
    have hg : a.tmps[d]? = some (.bool (cond want w (!w))) := by
      rw [Array.getElem?_eq_getElem hlt]
      simp only [Array.getD_eq_getD_getElem?, Array.getElem?_eq_getElem hlt, Option.getD_some] at hvb
      rw [hvb]
    simp [yielded, h5, h6, hg]
  unfold wpOpIn
  have hgo : all.toArray[i]? = some o' := by simpa using ho
  rw [hgo]
  simp only
  rcases fe.out with ⟨hgd, hrd, hs⟩ | ⟨hgd, hsv, hu⟩ | hlk'
  rotate_left 2
  · exact absurd hlk' hlk
  · have hw : Region.wanted o' (yielded all.toArray a.tmps) = true := by
      rcases hgd with hgd | hgd
      · exact wanted_none hgd _
      · obtain ⟨j, w, h1, h2⟩ := hguard true hgd
        simp [Region.wanted, h1, h2]
    rw [hw]
    simp only [if_true]
    have mp := m.part (opTmps o') e.r.mem
    have hmask : (canon es st0 D dom).mask (opTmps o') e.r.mem [] = (allE (es.take i) st0).mask (opTmps o') e.r.mem [] := by
      have h1 : (canon es st0 D dom).n = (allE (es.take i) st0).n := by rw [allE_n]; rfl
      have h2 : (fun t => cond (memL t (opTmps o')) ((canon es st0 D dom).tm t) .any) = fun t => cond (memL t (opTmps o')) ((allE (es.take i) st0).tm t) .any := by
        funext t
        cases hm : memL t (opTmps o') with
        | false => rfl
        | true => exact heq.1 t (hrd t hm)
      have h3 : (fun l => cond (memL l e.r.mem) (((canon es st0 D dom).look l).map fun h => (h, 0)) none) = fun l => cond (memL l e.r.mem) (((allE (es.take i) st0).look l).map fun h => (h, 0)) none := by
        funext l
        cases hm : memL l e.r.mem with
        | false => rfl
        | true => rw [canon_look, heq.2 l hm]
      unfold St.mask
      rw [h1, h2, h3]
    have hsem : sem S true ((canon es st0 D dom).mask (opTmps o') e.r.mem (canon es st0 D dom).dom) (lab + i) o' (Only e.sv e.u) := by
      have := sem_dom S true ((canon es st0 D dom).mask (opTmps o') e.r.mem []) (canon es st0 D dom).dom (lab + i) o' (Only e.sv e.u)
      rw [hmask] at this
      have h2 := this.mpr hs
      rw [← hmask] at h2
      exact h2
    obtain ⟨h1, h2⟩ := sem_ok hS hct hg mp hnew hsem
    have heval : ({ a with defers := [] } : Act).eval = a.eval := funext fun x => by cases x <;> rfl
    have h1' : OpOut P o' a W (Fits P glb (bkOf (canon es st0 D dom) ρ e.r.mem W) (xOf (canon es st0 D dom) ρ X0 e.r.mem W) W ((canon es st0 D dom).mask (opTmps o') e.r.mem (canon es st0 D dom).dom) ρ { a with defers := [] } W (Only e.sv e.u)) := by
      unfold OpOut at h1 ⊢
      rw [heval] at h1
      exact h1
    refine h1'.wpIn hF h2 fun v w' hfit => ?_
    obtain ⟨sv, u, ρ', ⟨rfl, rfl⟩, hle, m', hv, _⟩ := hfit
    obtain ⟨m3, hsub⟩ := m.whole (opTmps o') e.r.mem e.u (fun l h hl => noLnU_spec fe.nln hl) hle m'
    exact done ρ' a w' (hle0.trans hle) m3 v (hv.mono ρ'.le_refl (Evo.mono m3.Xlt hsub))
  · have hw : Region.wanted o' (yielded all.toArray a.tmps) = false := by
      rcases hgd with hgd | ⟨j, w, d, oj, h1, h2, h3, h4, h5, h6⟩
      · obtain ⟨j, w, h1, h2⟩ := hguard false hgd
        simp only [Region.wanted, h1, h2]
        cases w <;> rfl
      · have htm : (canon es st0 D dom).tm d = .tup [] := by
          show (appD D es 0 st0).tm d = _
          rw [heq.1 d h4, h2]
        have hr := m.tms d
        rw [htm] at hr
        obtain ⟨vs, hvs, hnil⟩ := hr
        have hnil : vs = [] := hnil
        subst hnil
        simp [Region.wanted, h1, yielded_und h5 h6 hvs]
    rw [hw]
    simp only [Bool.false_eq_true, if_false]
    refine ⟨fun f _ => hF.fn f, ?_⟩
    refine done ρ a W hle0 (by rw [hu]; exact m) undef (by rw [hsv]; exact rep_und)

theorem countP_lt {α : Type} {p q : α → Bool} (hpq : ∀ x, q x = true → p x = true) : ∀ (l : List α) (x : α), x ∈ l → p x = true → q x = false → l.countP q < l.countP p
  | y :: r, x, hx, hp, hq => by
    have hle : r.countP q ≤ r.countP p := List.countP_mono_left (fun z _ hz => hpq z hz)
    rw [List.countP_cons, List.countP_cons]
    rcases List.mem_cons.1 hx with rfl | hx
    · rw [hp, hq]; simp; omega
    · have := countP_lt hpq r x hx hp hq
      cases hqy : q y with
      | false => simp; omega
      | true => rw [hpq y hqy]; simp; omega

theorem any_run (hF : Wide F P) (hS : StatOK P S) (hct : CtOK P glb S) (hg : S.glb = glb) (hf : Facts S all lab lk st0 es) (hlen : es.length = all.length) {Q : Exit → Act → World → Prop}
    (hQ : ∀ a W, InvD P glb Bk X0 w0 es st0 ρ0 (fun k => decide (k < all.length)) a W → Q .normal a W) : ∀ (fuel : Nat) (listed : Array Bool) (a : Act) (W : World), listed.size = all.length →
    (List.range all.length).countP (fun k => !listed.getD k false) ≤ fuel → InvD P glb Bk X0 w0 es st0 ρ0 (fun k => listed.getD k false) a W → Closed es (fun k => listed.getD k false) → (∀ m, lk = some m → listed.getD m false = true) → wpAnyIn F n P .any all.toArray Q fuel listed a W := by

  have fin : ∀ (listed : Array Bool) (a : Act) (W : World), listed.size = all.length → (∀ k, k < all.length → listed.getD k false = true) → InvD P glb Bk X0 w0 es st0 ρ0 (fun k => listed.getD k false) a W → Q .normal a W := by
    intro listed a W hsz hall hinv
    refine hQ a W ?_
    have : (fun k => listed.getD k false) = fun k => decide (k < all.length) := by
      funext k
      by_cases hk : k < all.length
      · rw [hall k hk]; simp [hk]
      · simp [hk, Array.getElem?_eq_none (by omega : listed.size ≤ k)]
    rw [this] at hinv
    exact hinv
  have getD_eq : ∀ (listed : Array Bool) k, k < listed.size → listed.getD k true = listed.getD k false := by
    intro listed k hk
    simp [Array.getElem?_eq_getElem hk]
  intro fuel
  induction fuel with
  | zero =>
    intro listed a W hsz hcount hinv hcl hlk
    have hall : ∀ k, k < all.length → listed.getD k false = true := by
      intro k hk
      have h0 : (List.range all.length).countP (fun k => !listed.getD k false) = 0 := by omega
      have := List.countP_eq_zero.1 h0 k (List.mem_range.2 hk)
      simpa using this
    refine ⟨?_, fin listed a W hsz hall hinv⟩
    cases hr : Region.ready .any all.toArray listed with
    | nil => rfl
    | cons i r =>
      have hi : i ∈ Region.ready .any all.toArray listed := by rw [hr]; exact List.mem_cons_self
      obtain ⟨h1, o, h2, _⟩ := mem_ready.1 hi
      have hlt : i < all.length := by
        have := (Array.getElem?_eq_some_iff.1 h2).1
        simpa using this
      rw [getD_eq listed i (by omega), hall i hlt] at h1
      cases h1
  | succ fuel ih =>
    intro listed a W hsz hcount hinv hcl hlk
    refine ⟨fun hr => fin listed a W hsz ?_ hinv, fun i hi => ?_⟩
    · intro k
      induction k using Nat.strongRecOn with
      | _ k ihk =>
        intro hk
        cases hd : listed.getD k false with
        | true => rfl
        | false =>
          exfalso
          have hek : es[k]? = some es[k] := List.getElem?_eq_getElem (by omega)
          obtain ⟨o, fe, _, _⟩ := hf k _ hek
          have : k ∈ Region.ready .any all.toArray listed := by
            refine mem_ready.2 ⟨by rw [getD_eq listed k (by omega)]; exact hd, o, by simpa using fe.op, fun ed hed hb => ?_⟩
            have hedge := fe.edges
            simp only [edgesOK, List.all_eq_true] at hedge
            have := hedge ed (by simpa using hed)
            rw [hb] at this
            have hlt : ed.on < k := by simpa [Nat.blt_eq] using this
            exact ihk ed.on hlt (by omega)
          rw [hr] at this
          simp at this
    · obtain ⟨h1, o, h2, h3⟩ := mem_ready.1 hi
      have hlt : i < all.length := by
        have := (Array.getElem?_eq_some_iff.1 h2).1
        simpa using this
      have hd : listed.getD i false = false := by rw [← getD_eq listed i (by omega)]; exact h1
      have hset : (listed.setIfInBounds i true).getD i false = true := by simp [hsz, hlt]
      refine any_step hF hS hct hg hf (Nat.le_of_eq hlen) hcl (i := i) (D' := fun k => (listed.setIfInBounds i true).getD k false) (List.getElem?_eq_getElem (by omega)) (by simpa using h2) (fun hh => by rw [hlk i hh] at hd; cases hd) hd (fun ed hed hb => h3 ed (by simpa using hed) hb) hset (fun k hk => getD_set_ne false (Ne.symm hk)) (fun a' W' hinv' hcl' => ?_) hinv
      refine ih _ a' W' (by simpa using hsz) ?_ hinv' hcl' (fun m hm => getD_set_true (hlk m hm))
      have hlt2 : (List.range all.length).countP (fun k => !(listed.setIfInBounds i true).getD k false) < (List.range all.length).countP (fun k => !listed.getD k false) := by
        refine countP_lt (fun x hx => ?_) _ i (List.mem_range.2 hlt) (by rw [hd]; rfl) (by rw [hset]; rfl)
        cases hq : listed.getD x false with
        | false => rfl
        | true => rw [getD_set_true hq] at hx; cases hx
      omega

theorem vcAny_ok (hF : Wide F P) (hS : StatOK P S) (hct : CtOK P glb S) (hg : S.glb = glb) (id : Nat) (ops : Array Oper) (lab : Nat) (K : St → Prop) (Q : Exit → Act → World → Prop) (wr : List Nat)
    (hwr : ∀ (j : Nat) o d, ops.toList[j]? = some o → o.dst = some d → d ∈ wr) {a : Act} {W : World} (m : Mt P glb Bk X0 w0 st0 ρ0 a W) (h : vcAny S ops.toList lab ops.toList 0 [] st0 K)
    (hQ : ∀ a W, PostR P glb Bk X0 w0 st0 ρ0 wr K a W → Q .normal a W) : (Code.region id ops true).wpIn F n P Q a W := by
  obtain ⟨es, hlen, hf, hk⟩ := text_run S ops.toList lab none K st0 ops.toList 0 [] st0 rfl (fun j x hx => by rw [Nat.zero_add]; exact hx) (fun i e he => by simp at he) rfl h
  rw [Nat.zero_add] at hlen
  refine wpIn_region_any hS.mixed ?_
  have m1 : Mt P glb Bk X0 w0 st0 ρ0 a { W with drawn := W.drawn + 1 } := m.below ⟨rfl, rfl, rfl, Nat.le_refl _, fun _ _ => rfl⟩
  have hsz : ops.size = ops.toList.length := by simp
  have := any_run (Bk := Bk) (X0 := X0) (w0 := w0) (ρ0 := ρ0) (n := n) hF hS hct hg hf hlen (Q := Q) (fun a' W' hinv => ?_) ops.size (Array.replicate ops.size false) a { W with drawn := W.drawn + 1 } (by simp) ?_ ?_ ?_ (fun m hm => (by cases hm))
  · simpa using this
  · obtain ⟨ρ', dom, hle', m', hdom⟩ := hinv
    have hall : appD (fun k => decide (k < ops.toList.length)) es 0 st0 = allE es st0 := appD_all es 0 st0 (fun k hk => by rw [Nat.zero_add]; simp only [decide_eq_true_eq]; omega)
    refine hQ a' W' ⟨allE es st0, ρ', hk, ⟨?_, hle'⟩, m'.same ?_ (fun t => ?_) (fun l => ?_) (fun l v hv => ?_) ?_⟩
    · refine allE_frm wr es st0 (fun e he d hd => ?_)
      obtain ⟨i, hi⟩ := List.getElem?_of_mem he
      obtain ⟨o, fe, _, _⟩ := hf i e hi
      exact hwr i o d fe.op (by rw [← fe.wr]; exact hd)
    · rw [allE_n]; rfl
    · rw [← hall]; rfl
    · rw [canon_look, hall]
    · refine (allE_dom es st0).2 ?_
      rcases hdom l (m'.dom l v hv) with h | ⟨k, e, he, _, h⟩
      · exact .inl h
      · exact .inr ⟨e, List.mem_of_getElem? he, h⟩
    · exact allE_stamp es st0 m.stamp
  · exact Nat.le_trans List.countP_le_length (by simp)
  · refine ⟨ρ0, st0.dom, ρ0.le_refl, m1.same rfl (fun t => ?_) (fun l => ?_) (fun l v hv => m.dom l v hv) (fun l he s hh => ?_), fun l hl => .inl hl⟩
    · show (appD _ es 0 st0).tm t = _
      rw [appD_none es 0 st0 (fun k => by simp only [Array.getD_eq_getD_getElem?, Array.getElem?_replicate]; split <;> rfl)]
    · rw [canon_look, appD_none es 0 st0 (fun k => by simp only [Array.getD_eq_getD_getElem?, Array.getElem?_replicate]; split <;> rfl)]
    · have : ((appD (fun k => (Array.replicate ops.size false).getD k false) es 0 st0).look l).map (fun h => (h, 0)) = some (he, s) := hh
      cases hq : (appD (fun k => (Array.replicate ops.size false).getD k false) es 0 st0).look l with
      | none => rw [hq] at this; cases this
      | some x => rw [hq] at this; cases this; exact Nat.le_refl _
  · intro k e he hd
    simp [Array.getElem?_replicate] at hd
    split at hd <;> simp at hd
end
end Go.GX
set_option linter.unusedVariables false
namespace Go.GX
variable [Inhabited BaseD]
open Go.RowKit Go.Shelf Go.Proofs

def OwnWr (st : St) (ρ : Lab) (k : Nat) : Prop := ∃ l he s v, st.hp l = some (he, s) ∧ ρ l = some v ∧ OwnB ρ he v k ∧ he.isLn = false

section
variable {P : Program} {glb : Nat → Option GV} {Bk X0 : Nat → Prop} {w0 : World} {st st' : St} {ρ ρ' : Lab} {a a' : Act} {W W' : World}

theorem Mt.rebase (m : Mt P glb Bk X0 w0 st ρ a W) : Mt P glb (fun k => k < W.heap.size ∧ ¬ OwnWr st ρ k) X0 W st ρ { a with defers := [] } W :=
  ⟨m.size, DefOK.nil, m.tms, m.hps, m.dis, m.x0, fun k hk => hk.1, .refl _ _,
    fun l he s v k h1 h2 h3 => ⟨fun hl hb => hb.2 ⟨l, he, s, v, h1, h2, h3, hl⟩, (m.nb l he s v k h1 h2 h3).2⟩, m.glb, m.dom, m.stamp⟩

theorem OwnWr.xs {k : Nat} (h : OwnWr st ρ k) {X0 : Nat → Prop} : Xs st ρ X0 k := let ⟨l, he, s, v, h1, h2, h3, _⟩ := h; .inr ⟨l, he, s, v, h1, h2, h3⟩

theorem Mt.lend (m : Mt P glb Bk X0 w0 st ρ a W) {L : Nat} (hL : memL L st.dom = false) {e : TypeId} {K : Kd} (hf : K.flat = true) (hn : 1 ≤ K.n) {xs : List K.T} {v : Value} {I : Nat → Prop} (hv : ((Kd.sl e K).sem P).val (fun k => ¬ I k) W xs v) (hI : ∀ k, I k → X0 k) :
    Mt P glb Bk (fun k => X0 k ∧ ownBlk (.ln e K xs) v ≠ some k) w0 (GX.lend st L e K xs) (ρ.put L v) a W ∧ ∀ k, Xs (GX.lend st L e K xs) (ρ.put L v) (fun k => X0 k ∧ ownBlk (.ln e K xs) v ≠ some k) k ↔ Xs st ρ X0 k := by
  have hle := m.le_put hL v
  have hhp : (GX.lend st L e K xs).hp = updf st.hp L (some (.ln e K xs, st.cnt)) := rfl
  have other : ∀ {l he s}, l ≠ L → ((GX.lend st L e K xs).hp l = some (he, s) ↔ st.hp l = some (he, s)) := by
    intro l he s hl
    rw [hhp, updf_other _ _ hl]
  have self : ∀ {he s}, (GX.lend st L e K xs).hp L = some (he, s) → he = .ln e K xs ∧ s = st.cnt := by
    intro he s h
    rw [hhp, updf_same] at h
    cases h; exact ⟨rfl, rfl⟩
  have inI : ∀ {k}, ownBlk (.ln e K xs) v = some k → I k := by
    intro k hk
    obtain ⟨A, c, rfl, _, _, h⟩ := hv
    cases xs with
    | nil => simp [ownBlk] at hk
    | cons x xs =>
      obtain ⟨ad, rfl, hx, _⟩ := h (by simp)
      simp only [ownBlk, Option.some.injEq] at hk
      subst hk
      exact Classical.byContradiction hx
  have oldB : ∀ {l he s u k}, st.hp l = some (he, s) → ρ l = some u → (OwnB (ρ.put L v) he u k ↔ OwnB ρ he u k) := by
    intro l he s u k h1 h2
    obtain ⟨u', hu', hok⟩ := m.hps l he s h1
    rw [h2] at hu'; cases hu'
    exact ⟨fun h => h.back hok hle, fun h => h.le hle⟩
  have hX : ∀ k, Xs (GX.lend st L e K xs) (ρ.put L v) (fun k => X0 k ∧ ownBlk (.ln e K xs) v ≠ some k) k ↔ Xs st ρ X0 k := by
    intro k
    constructor
    · rintro (h | ⟨l, he, s, u, h1, h2, h3⟩)
      · exact .inl h.1
      · by_cases hl : l = L
        · subst hl
          obtain ⟨rfl, _⟩ := self h1
          rw [Lab.put_same] at h2; cases h2
          exact .inl (hI k (inI (ownB_ln.1 h3)))
        · rw [Lab.put_other _ _ hl] at h2
          exact .inr ⟨l, he, s, u, (other hl).1 h1, h2, (oldB ((other hl).1 h1) h2).1 h3⟩
    · rintro (h | ⟨l, he, s, u, h1, h2, h3⟩)
      · by_cases hk : ownBlk (.ln e K xs) v = some k
        · exact .inr ⟨L, .ln e K xs, st.cnt, v, by rw [hhp, updf_same], Lab.put_same _ _ _, .inl hk⟩
        · exact .inl ⟨h, hk⟩
      · have hl : l ≠ L := by intro hh; subst hh; exact m.nolab hL he s h1
        exact .inr ⟨l, he, s, u, (other hl).2 h1, by rw [Lab.put_other _ _ hl]; exact h2, (oldB h1 h2).2 h3⟩
  have ev : Evo (Xs st ρ X0) W (Xs (GX.lend st L e K xs) (ρ.put L v) (fun k => X0 k ∧ ownBlk (.ln e K xs) v ≠ some k)) W := Evo.mono (fun k hk => m.Xlt k ((hX k).1 hk)) (fun k hk => (hX k).1 hk)
  refine ⟨⟨m.size, m.dfr, fun t => (m.tms t).mono hle ev, fun l he s h => ?_, fun l l' he he' s s' u u' k h h' h2 h2' h3 h3' => ?_, fun k hk => m.x0 k hk.1, m.bk, m.bel, fun l he s u k h h2 h3 => ?_, m.glb.evo ev, fun l u hu => ?_, fun l he s h => ?_⟩, hX⟩
  · by_cases hl : l = L
    · subst hl
      obtain ⟨rfl, _⟩ := self h
      refine ⟨v, Lab.put_same _ _ _, hf, ?_⟩
      obtain ⟨A, c, rfl, h1, h2, h3⟩ := hv
      refine ⟨A, c, rfl, h1, h2, fun hne => ?_⟩
      obtain ⟨ad, hA, _, _, hget⟩ := h3 hne
      refine ⟨ad, hA, ?_, fun j x hx => ?_⟩
      · cases xs with
        | nil => exact absurd rfl hne
        | cons x xs =>
          obtain ⟨ecs, k1, k2⟩ := hget 0 x rfl
          have hlen := Kd.cells_length P K k1
          cases ecs with
          | nil => simp at hlen; omega
          | cons u us =>
            have := cells_of_cell? (k2 0 u rfl)
            rwa [add_block] at this
      · obtain ⟨ecs, k1, k2⟩ := hget j x hx
        exact ⟨ecs, Kd.flat_cells P K hf k1, k2⟩
    · obtain ⟨u, hu, hok⟩ := m.hps l he s ((other hl).1 h)
      exact ⟨u, hle l u hu, hok.mono hle ev (fun _ _ => rfl)⟩
  · by_cases hl : l = L <;> by_cases hl' : l' = L
    · rw [hl, hl']
    · subst hl
      obtain ⟨rfl, _⟩ := self h
      rw [Lab.put_same] at h2; cases h2
      rw [Lab.put_other _ _ hl'] at h2'
      exact absurd (hI k (inI (ownB_ln.1 h3))) (m.nb l' he' s' u' k ((other hl').1 h') h2' ((oldB ((other hl').1 h') h2').1 h3')).2
    · subst hl'
      obtain ⟨rfl, _⟩ := self h'
      rw [Lab.put_same] at h2'; cases h2'
      rw [Lab.put_other _ _ hl] at h2
      exact absurd (hI k (inI (ownB_ln.1 h3'))) (m.nb l he s u k ((other hl).1 h) h2 ((oldB ((other hl).1 h) h2).1 h3)).2
    · rw [Lab.put_other _ _ hl] at h2
      rw [Lab.put_other _ _ hl'] at h2'
      exact m.dis l l' he he' s s' u u' k ((other hl).1 h) ((other hl').1 h') h2 h2' ((oldB ((other hl).1 h) h2).1 h3) ((oldB ((other hl').1 h') h2').1 h3')
  · by_cases hl : l = L
    · subst hl
      obtain ⟨rfl, _⟩ := self h
      rw [Lab.put_same] at h2; cases h2
      exact ⟨fun hh => (by cases hh), fun hx => hx.2 (ownB_ln.1 h3)⟩
    · rw [Lab.put_other _ _ hl] at h2
      have := m.nb l he s u k ((other hl).1 h) h2 ((oldB ((other hl).1 h) h2).1 h3)
      exact ⟨this.1, fun hx => this.2 hx.1⟩
  · show memL l (L :: st.dom) = true
    rw [memL_cons]
    by_cases hl : l = L
    · subst hl; simp
    · rw [Lab.put_other _ _ hl] at hu
      rw [m.dom l u hu]; simp
  · show s ≤ st.cnt
    by_cases hl : l = L
    · subst hl
      rw [(self h).2]; exact Nat.le_refl _
    · exact m.stamp l he s ((other hl).1 h)

def layTm (t : Array Value) : List Nat → List Value → Array Value
  | p :: ps, v :: vs => layTm (t.setIfInBounds p v) ps vs
  | _, _ => t

theorem flatPut_one {K : Kd} (m : Mt P glb Bk X0 w0 st ρ a W) {p : Nat} (hp : p < st.n) {x : K.T} {v : Value} {X : Nat → Prop} (hf : K.flat = true) (hv : (K.sem P).val X W x v) : Mt P glb Bk X0 w0 (st.put (some p) (mkv K x)) ρ { a with tmps := a.tmps.setIfInBounds p v } W :=
  m.put (some p) (mkv K x) v (by simpa [dstOK, Nat.blt_eq] using hp) (RepV.of_val K (Kd.flat_val P K hf hv)).1

theorem flatPut_ok {X : Nat → Prop} : ∀ (A : Kd) (st : St) (a : Act) (x : A.T) (ps : List Nat) (vs : List Value) (st1 : St), Mt P glb Bk X0 w0 st ρ a W → flatPut st A x ps = some st1 → (A.sem P).vals X W x vs → (∀ p, p ∈ ps → p < st.n) →
    Mt P glb Bk X0 w0 st1 ρ { a with tmps := layTm a.tmps ps vs } W ∧ st1.hp = st.hp ∧ st1.cnt = st.cnt ∧ st1.n = st.n ∧ st1.dom = st.dom
  | .pair A B, st, a, x, p :: r, vs, st1, m, h, hv, hp => by
    simp only [flatPut] at h
    cases hc : (A.flat && A.arg) with
    | false => rw [hc] at h; cases h
    | true =>
      rw [hc, cond_true] at h
      simp only [Bool.and_eq_true] at hc
      obtain ⟨v, vs', rfl, h1, h2⟩ := hv
      have m1 := flatPut_one m (hp p List.mem_cons_self) hc.1 h1
      obtain ⟨m2, g1, g2, g3, g4⟩ := flatPut_ok B _ _ x.2 r vs' st1 m1 h h2 (fun q hq => hp q (List.mem_cons_of_mem _ hq))
      exact ⟨m2, g1, g2, g3, g4⟩
  | .unit, st, a, x, [], vs, st1, m, h, hv, hp => by
    cases h
    exact ⟨by cases vs <;> exact m, rfl, rfl, rfl, rfl⟩
  | .int k, st, a, x, [p], vs, st1, m, h, hv, hp => by
    cases h
    obtain ⟨v, rfl, h1⟩ := hv
    exact ⟨flatPut_one (K := .int k) (X := X) m (hp p List.mem_cons_self) rfl h1, rfl, rfl, rfl, rfl⟩
  | .bool, st, a, x, [p], vs, st1, m, h, hv, hp => by
    cases h
    obtain ⟨v, rfl, h1⟩ := hv
    exact ⟨flatPut_one (K := .bool) (X := X) m (hp p List.mem_cons_self) rfl h1, rfl, rfl, rfl, rfl⟩
  | .str, st, a, x, [p], vs, st1, m, h, hv, hp => by
    cases h
    obtain ⟨v, rfl, h1⟩ := hv
    exact ⟨flatPut_one (K := .str) (X := X) m (hp p List.mem_cons_self) rfl h1, rfl, rfl, rfl, rfl⟩
  | .agg K, st, a, x, [p], vs, st1, m, h, hv, hp => by
    simp only [flatPut] at h
    cases hc : K.flat with
    | false => rw [hc] at h; cases h
    | true =>
      rw [hc, cond_true] at h
      cases h
      obtain ⟨cs, rfl, h1⟩ := hv
      exact ⟨flatPut_one (K := .agg K) (X := X) m (hp p List.mem_cons_self) hc ⟨cs, rfl, h1⟩, rfl, rfl, rfl, rfl⟩

theorem givPut_ok (m : Mt P glb Bk X0 w0 st ρ a W) : ∀ (A : Kd) (x : A.T) (ps : List Nat) (vs : List Value) (st1 : St), givPut st A x ps = some st1 → (A.sem P).vals (Xs st ρ X0) W x vs → (∀ p, p ∈ ps → p < st.n) →
    Mt P glb Bk X0 w0 st1 ρ { a with tmps := layTm a.tmps ps vs } W ∧ st1.hp = st.hp ∧ st1.cnt = st.cnt ∧ st1.n = st.n ∧ st1.dom = st.dom := by
  intro A x ps vs st1 h hv hp
  unfold givPut at h
  split at h
  · rename_i K x p
    cases h
    obtain ⟨cs, rfl, h1⟩ := hv
    exact ⟨m.put (some p) (mkv (.agg K) x) _ (by simpa [dstOK, Nat.blt_eq] using hp p List.mem_cons_self) (RepV.of_val (.agg K) ⟨cs, rfl, h1⟩).1, rfl, rfl, rfl, rfl⟩
  · rename_i e K x p
    cases h
    obtain ⟨v, vs', rfl, h1, h2⟩ := hv
    have h2 : vs' = [] := h2
    subst h2
    exact ⟨m.put (some p) (mkv (.sl e K) x.1) _ (by simpa [dstOK, Nat.blt_eq] using hp p List.mem_cons_self) (RepV.of_val (.sl e K) h1).1, rfl, rfl, rfl, rfl⟩
  · cases h
theorem givPut_len {X : Nat → Prop} : ∀ (A : Kd) (st : St) (x : A.T) (ps : List Nat) (vs : List Value) (st1 : St), givPut st A x ps = some st1 → (A.sem P).vals X W x vs → vs.length = ps.length := by
  intro A st x ps vs st1 h hv
  unfold givPut at h
  split at h
  · obtain ⟨cs, rfl, h1⟩ := hv; rfl
  · obtain ⟨v, vs', rfl, h1, h2⟩ := hv
    have h2 : vs' = [] := h2
    subst h2; rfl
  · cases h

theorem round_ok (m : Mt P glb Bk X0 w0 st ρ a W) {L : Nat} (hL : memL L st.dom = false) {I : Nat → Prop} (hI : ∀ k, I k → X0 k) {A : Kd} {x : A.T} {ps : List Nat} {vs : List Value} {st1 : St} (h : roundSt st L A x ps = some st1) (hv : A.giv = false → (A.sem P).vals (fun k => ¬ I k) W x vs) (hvg : A.giv = true → (A.sem P).vals (Xs st ρ X0) W x vs) (hp : ∀ p, p ∈ ps → p < st.n) :
    ∃ ρ1 X1, ρ.le ρ1 ∧ Mt P glb Bk X1 w0 st1 ρ1 { a with tmps := layTm a.tmps ps vs } W ∧ (∀ l, l ≠ L → st1.hp l = st.hp l) ∧ st1.cnt = st.cnt ∧ st1.n = st.n ∧ (∀ k, Xs st1 ρ1 X1 k ↔ Xs st ρ X0 k) ∧
      ((X1 = X0 ∧ st1.hp L = none) ∨ ∃ he v, st1.hp L = some (he, st.cnt) ∧ he.isLn = true ∧ ρ1 L = some v ∧ X1 = fun k => X0 k ∧ ownBlk he v ≠ some k) := by
  have hno : st.hp L = none := by
    cases hq : st.hp L with
    | none => rfl
    | some p => exact absurd hq (m.nolab hL p.1 p.2)
  unfold roundSt at h
  split at h
  · rename_i e K x p
    cases hc : (K.flat && Nat.ble 1 K.n) with
    | false => rw [hc] at h; cases h
    | true =>
      rw [hc, cond_true] at h
      simp only [Bool.and_eq_true] at hc
      cases h
      obtain ⟨v, rfl, h1⟩ := hv rfl
      obtain ⟨m1, hX⟩ := m.lend hL (e := e) hc.1 (Nat.le_of_ble_eq_true hc.2) h1 hI
      have hsl : ∃ A n c, v = .slice A n c := by obtain ⟨A, c, hh, _⟩ := h1; exact ⟨_, _, _, hh⟩
      refine ⟨ρ.put L v, _, m.le_put hL v, m1.put (some p) (.mk false [.own L]) v (by simpa [dstOK, Nat.blt_eq, GX.lend] using hp p List.mem_cons_self) ⟨_, rfl, Lab.put_same _ _ _, hsl⟩, fun l hl => updf_other _ _ hl, rfl, rfl, hX, .inr ⟨.ln e K x, v, updf_same _ _ _, rfl, Lab.put_same _ _ _, rfl⟩⟩
  · obtain ⟨m1, g1, g2, g3, g4⟩ : Mt P glb Bk X0 w0 st1 ρ { a with tmps := layTm a.tmps ps vs } W ∧ st1.hp = st.hp ∧ st1.cnt = st.cnt ∧ st1.n = st.n ∧ st1.dom = st.dom := by
      split at h
      · rename_i hgv
        exact givPut_ok m _ x ps vs st1 h (hvg hgv) hp
      · rename_i hgv
        exact flatPut_ok _ st a x ps vs st1 m h (hv hgv) hp
    refine ⟨ρ, X0, ρ.le_refl, m1, fun l _ => by rw [g1], g2, g3, fun k => ?_, .inl ⟨rfl, by rw [g1]; exact hno⟩⟩
    unfold Xs
    rw [g1]

theorem Mt.putLoop (m : Mt P glb Bk X0 w0 st ρ a W) {l : Nat} {r : Loop} (hl : W.heap[l]? = some (.loop r)) (hB : ¬ Bk l) (o : Obj) : Mt P glb Bk X0 w0 st ρ a (W.putObj l o) := by
  have hk : ∀ k, k ≠ l → (W.putObj l o).heap[k]? = W.heap[k]? := fun k h => World.putObj_heap_other h
  have hmm : ∀ mm xs, GoodAt W mm xs → GoodAt (W.putObj l o) mm xs := fun mm xs hg => GoodAt.keep hg fun k hk' => hk k (by rintro rfl; obtain ⟨_, _, hc⟩ := hk'; rw [hl] at hc; cases hc)
  have ev : Evo (Xs st ρ X0) W (Xs st ρ X0) (W.putObj l o) :=
    ⟨by simp, fun k hc _ => hk k (by rintro rfl; obtain ⟨_, _, _, hc⟩ := hc; rw [hl] at hc; cases hc), fun _ h _ => h, fun k h => by simpa using m.Xlt k h, fun mm xs hp hg => hmm mm xs hg⟩
  refine ⟨m.size, m.dfr.keep (fun D hD => hk D (by rintro rfl; rw [hl] at hD; cases hD)), fun t => (m.tms t).mono ρ.le_refl ev, fun l' he s h => ?_, m.dis, fun k h => by simpa using m.x0 k h, m.bk,
    m.bel.trans ⟨rfl, rfl, rfl, by simp, fun k hB' _ => hk k (by rintro rfl; exact hB hB'), fun mm xs _ hg => hmm mm xs hg⟩, m.nb, m.glb.evo ev, m.dom, m.stamp⟩
  obtain ⟨v, hv, hok⟩ := m.hps l' he s h
  refine ⟨v, hv, hok.mono ρ.le_refl ev (fun k hk' => hk k ?_)⟩
  rintro rfl
  exact hok.no hk' hl (fun _ _ _ h => by cases h) (fun _ _ h => by cases h)

theorem Mt.reguard {Bk' : Nat → Prop} {w0' : World} (m : Mt P glb Bk X0 w0 st ρ a W) (hbk : ∀ k, Bk' k → k < w0'.heap.size) (hbel : Bel Bk' w0' W)
    (hnb : ∀ l he s v k, st.hp l = some (he, s) → ρ l = some v → OwnB ρ he v k → he.isLn = false → ¬ Bk' k) (hd : DefOK Bk' W a.defers) : Mt P glb Bk' X0 w0' st ρ a W :=
  ⟨m.size, hd, m.tms, m.hps, m.dis, m.x0, hbk, hbel, fun l he s v k h1 h2 h3 => ⟨fun hl => hnb l he s v k h1 h2 h3 hl, (m.nb l he s v k h1 h2 h3).2⟩, m.glb, m.dom, m.stamp⟩

theorem DefOK.noBk {Bk Bk' : Nat → Prop} {ds : List Deferred} (h : DefOK Bk W ds) (hk : ∀ k, Bk' k → Bk k) : DefOK Bk' W ds :=
  let ⟨Ds, h1, h2, h3⟩ := h
  ⟨Ds, h1, h2, fun D hD => ⟨(h3 D hD).1, fun hb => (h3 D hD).2 (hk D hb)⟩⟩

theorem Mt.struck {X1 : Nat → Prop} {L : Nat} (m : Mt P glb Bk X1 w0 st ρ a W) (hX : ∀ k, Xs (strike st L) ρ X0 k → Xs st ρ X1 k) (hnb : ∀ l he s v k, l ≠ L → st.hp l = some (he, s) → ρ l = some v → OwnB ρ he v k → ¬ X0 k) (hX0 : ∀ k, X0 k → k < W.heap.size) :
    Mt P glb Bk X0 w0 (strike st L) ρ a W := by
  have hhp : (strike st L).hp = updf st.hp L none := rfl
  have other : ∀ {l he s}, (strike st L).hp l = some (he, s) → l ≠ L ∧ st.hp l = some (he, s) := by
    intro l he s h
    by_cases hl : l = L
    · subst hl; rw [hhp, updf_same] at h; cases h
    · rw [hhp, updf_other _ _ hl] at h; exact ⟨hl, h⟩
  have ev := Evo.mono (W := W) (fun k hk => m.Xlt k (hX k hk)) hX
  refine ⟨m.size, m.dfr, fun t => (m.tms t).mono ρ.le_refl ev, fun l he s h => ?_, fun l l' he he' s s' u u' k h h' => m.dis l l' he he' s s' u u' k (other h).2 (other h').2, hX0, m.bk, m.bel, fun l he s u k h h2 h3 => ?_, m.glb.evo ev, m.dom, fun l he s h => m.stamp l he s (other h).2⟩
  · obtain ⟨u, hu, hok⟩ := m.hps l he s (other h).2
    exact ⟨u, hu, hok.mono ρ.le_refl ev (fun _ _ => rfl)⟩
  · obtain ⟨hl, h1⟩ := other h
    exact ⟨(m.nb l he s u k h1 h2 h3).1, hnb l he s u k hl h1 h2 h3⟩

theorem Mt.retm {tm' : Nat → SV} {tmps' : Array Value} (m : Mt P glb Bk X0 w0 st ρ a W) (hn : tmps'.size = st.n) (h : ∀ t, RepV P ρ (Xs st ρ X0) W (tm' t) (tmps'.getD t undef)) {ds : List Deferred} (hd : DefOK Bk W ds) :
    Mt P glb Bk X0 w0 { st with tm := tm' } ρ { tmps := tmps', defers := ds } W :=
  ⟨hn, hd, h, m.hps, m.dis, m.x0, m.bk, m.bel, m.nb, m.glb, m.dom, m.stamp⟩

theorem Mt.freeX {X1 : Nat → Prop} (m : Mt P glb Bk X1 w0 st ρ a W) (h : ∀ k, X0 k → X1 k) : Mt P glb Bk X0 w0 st ρ a W := by
  have hX : ∀ k, Xs st ρ X0 k → Xs st ρ X1 k := by
    rintro k (hk | hk)
    · exact .inl (h k hk)
    · exact .inr hk
  have ev := Evo.mono (W := W) (fun k hk => m.Xlt k (hX k hk)) hX
  refine ⟨m.size, m.dfr, fun t => (m.tms t).mono ρ.le_refl ev, fun l he s hl => ?_, m.dis, fun k hk => m.x0 k (h k hk), m.bk, m.bel, fun l he s v k h1 h2 h3 => ⟨(m.nb l he s v k h1 h2 h3).1, fun hx => (m.nb l he s v k h1 h2 h3).2 (h k hx)⟩, m.glb.evo ev, m.dom, m.stamp⟩
  obtain ⟨u, hu, hok⟩ := m.hps l he s hl
  exact ⟨u, hu, hok.mono ρ.le_refl ev (fun _ _ => rfl)⟩

theorem Mt.turned {I I' : Nat → Prop} {B : Nat} (m : Mt P glb Bk (fun k => X0 k ∨ I k) w0 st ρ a W) (ht : Turned I W I' W') (hI : ∀ k, I k → B ≤ k) (hB : ∀ k, Bk k → k < B) (hd : DefOK Bk W' a.defers) :
    Mt P glb Bk (fun k => X0 k ∨ I' k) w0 st ρ a W' ∧ Evo (Xs st ρ (fun k => X0 k ∨ I k)) W (Xs st ρ (fun k => X0 k ∨ I' k)) W' := by
  have own : ∀ {l he s v k}, st.hp l = some (he, s) → ρ l = some v → OwnB ρ he v k → k < W.heap.size ∧ ¬ I k := by
    intro l he s v k h1 h2 h3
    obtain ⟨v', hv', hok⟩ := m.hps l he s h1
    rw [h2] at hv'; cases hv'
    exact ⟨(hok.lt h3).2, fun hi => (m.nb l he s v k h1 h2 h3).2 (.inr hi)⟩
  have hx0 : ∀ k, X0 k ∨ I' k → k < W'.heap.size := by
    rintro k (h | h)
    · exact Nat.lt_of_lt_of_le (m.x0 k (.inl h)) ht.size
    · rcases ht.new k h with h | h
      · exact Nat.lt_of_lt_of_le (m.x0 k (.inr h)) ht.size
      · exact h.2
  have ev : Evo (Xs st ρ (fun k => X0 k ∨ I k)) W (Xs st ρ (fun k => X0 k ∨ I' k)) W' := by
    refine ⟨ht.size, fun k hc hx => ?_, fun k hk hlt => ?_, fun k hk => ?_, fun mm xs hp hg => ht.memo mm xs (hp.mono fun k hx _ hi => hx (.inl (.inr hi))) hg⟩
    · have hnm := noMap_cells hc
      obtain ⟨_, _, _, hc⟩ := hc
      exact ht.keep k (Array.getElem?_eq_some_iff.1 hc).1 (fun hi => hx (.inl (.inr hi))) hnm
    · rcases hk with (hk | hk) | hk
      · exact .inl (.inl hk)
      · rcases ht.new k hk with h | h
        · exact .inl (.inr h)
        · omega
      · exact .inr hk
    · rcases hk with hk | ⟨l, he, s, v, h1, h2, h3⟩
      · exact hx0 k hk
      · exact Nat.lt_of_lt_of_le (own h1 h2 h3).1 ht.size
  refine ⟨⟨m.size, hd, fun t => (m.tms t).mono ρ.le_refl ev, fun l he s hl => ?_, m.dis, hx0, m.bk, m.bel.trans ⟨ht.os, ht.tape, ht.output, ht.size, fun k hk hn => ht.keep k (Nat.lt_of_lt_of_le (m.bk k hk) m.bel.size) (fun hi => ?_) hn, fun mm xs hp hg => ht.memo mm xs (hp.mono fun k hx _ hi => hx fun hb => ?_) hg⟩, fun l he s v k h1 h2 h3 => ⟨(m.nb l he s v k h1 h2 h3).1, fun hx => ?_⟩, m.glb.evo ev, m.dom, m.stamp⟩, ev⟩
  · obtain ⟨u, hu, hok⟩ := m.hps l he s hl
    refine ⟨u, hu, hok.mono ρ.le_refl ev (fun k hk => ?_)⟩
    obtain ⟨h1, h2⟩ := own hl hu hk
    obtain ⟨u', hu', hok'⟩ := m.hps l he s hl
    exact ht.keep k h1 h2 (fun hm es c hc => (m.notMap hl hu hk ⟨es, c, hc⟩ hm).elim)
  · have := hI k hi
    have := hB k hk
    omega
  · have := hI k hi
    have := hB k hb
    omega
  · rcases hx with hx | hx
    · exact (m.nb l he s v k h1 h2 h3).2 (.inl hx)
    · obtain ⟨g1, g2⟩ := own h1 h2 h3
      rcases ht.new k hx with h | h
      · exact g2 h
      · omega

theorem foldl_layTm : ∀ (ps : List Nat) (vs : List Value) (t : Array Value), (ps.zip vs).foldl (fun tmps (p : Nat × Value) => tmps.setIfInBounds p.1 p.2) t = layTm t ps vs
  | [], _, _ => by simp [layTm]
  | p :: ps, [], _ => by simp [layTm]
  | p :: ps, v :: vs, t => by rw [List.zip_cons_cons, List.foldl_cons, foldl_layTm ps vs, layTm]

theorem flatPut_len {X : Nat → Prop} : ∀ (A : Kd) (st : St) (x : A.T) (ps : List Nat) (vs : List Value) (st1 : St), flatPut st A x ps = some st1 → (A.sem P).vals X W x vs → vs.length = ps.length
  | .pair A B, st, x, [], vs, st1, h, hv => by cases h
  | .pair A B, st, x, p :: r, vs, st1, h, hv => by
    simp only [flatPut] at h
    cases hc : (A.flat && A.arg) with
    | false => rw [hc] at h; cases h
    | true =>
      rw [hc, cond_true] at h
      obtain ⟨v, vs', rfl, h1, h2⟩ := hv
      simp [flatPut_len B _ x.2 r vs' st1 h h2]
  | .unit, st, x, [], vs, st1, h, hv => by rw [show vs = [] from hv]; rfl
  | .unit, st, x, p :: r, vs, st1, h, hv => by cases h
  | .int k, st, x, ps, vs, st1, h, hv => by
    obtain ⟨v, rfl, _⟩ := hv
    match ps, h with
    | [p], h => rfl
  | .bool, st, x, ps, vs, st1, h, hv => by
    obtain ⟨v, rfl, _⟩ := hv
    match ps, h with
    | [p], h => rfl
  | .str, st, x, ps, vs, st1, h, hv => by
    obtain ⟨v, rfl, _⟩ := hv
    match ps, h with
    | [p], h => rfl
  | .agg K, st, x, ps, vs, st1, h, hv => by
    obtain ⟨v, rfl, _⟩ := hv
    match ps, h with
    | [p], h => rfl
  | .sl _ _, st, x, ps, vs, st1, h, hv => by simp [flatPut] at h
  | .nsl _ _, st, x, ps, vs, st1, h, hv => by simp [flatPut] at h
  | .fn _ _, st, x, ps, vs, st1, h, hv => by simp [flatPut] at h
  | .ptr _ _, st, x, ps, vs, st1, h, hv => by simp [flatPut] at h
  | .seq _, st, x, ps, vs, st1, h, hv => by simp [flatPut] at h
  | .mem _, st, x, ps, vs, st1, h, hv => by simp [flatPut] at h

theorem roundSt_len {X : Nat → Prop} {L : Nat} {A : Kd} {x : A.T} {ps : List Nat} {vs : List Value} {st1 : St} (h : roundSt st L A x ps = some st1) (hv : (A.sem P).vals X W x vs) : vs.length = ps.length := by
  unfold roundSt at h
  split at h
  · obtain ⟨v, rfl, _⟩ := hv; rfl
  · split at h
    · exact givPut_len _ st x ps vs st1 h hv
    · exact flatPut_len _ st x ps vs st1 h hv
end
end Go.GX
set_option linter.unusedVariables false
namespace Go.GX
variable [Inhabited BaseD]
open Go.RowKit Go.Shelf Go.Proofs

theorem ancRecs_length : ∀ (l : List Oper) (rs : List Rec), (ancRecs l rs).length = rs.length + l.length
  | [], rs => rfl
  | o :: r, rs => by rw [ancRecs, ancRecs_length r]; simp; omega

theorem ancRecs_pre : ∀ (l : List Oper) (rs : List Rec) (k : Nat), k < rs.length → (ancRecs l rs)[k]? = rs[k]?
  | [], rs, k, h => rfl
  | o :: r, rs, k, h => by rw [ancRecs, ancRecs_pre r _ k (by simp; omega), List.getElem?_append_left h]

theorem ancRecs_at (l : List Oper) : ∀ (rs : List Rec) (j : Nat) (o : Oper), l[j]? = some o → ∃ rs', (ancRecs l rs)[rs.length + j]? = some ⟨ancOf rs' o, [], none, [], []⟩ ∧ rs'.length = rs.length + j ∧ ∀ k, k < rs.length + j → rs'[k]? = (ancRecs l rs)[k]? := by
  induction l with
  | nil => intro rs j o h; simp at h
  | cons o r ih =>
    intro rs j o' h
    cases j with
    | zero =>
      simp only [List.getElem?_cons_zero, Option.some.injEq] at h
      subst h
      refine ⟨rs, ?_, rfl, fun k hk => ?_⟩
      · rw [ancRecs, ancRecs_pre r _ _ (by simp), Nat.add_zero, List.getElem?_append_right (Nat.le_refl _)]
        simp
      · rw [ancRecs, ancRecs_pre r _ _ (by simp; omega), List.getElem?_append_left (by omega)]
    | succ j =>
      obtain ⟨rs', h1, h2, h3⟩ := ih (rs ++ [⟨ancOf rs o, [], none, [], []⟩]) j o' (by simpa using h)
      have e : (rs ++ [(⟨ancOf rs o, [], none, [], []⟩ : Rec)]).length + j = rs.length + (j + 1) := by simp; omega
      rw [e] at h1 h2 h3
      exact ⟨rs', by rw [ancRecs]; exact h1, h2, fun k hk => by rw [ancRecs]; exact h3 k hk⟩

theorem edgesAll_spec (l : List Oper) : ∀ (i : Nat), edgesAll i l = true → ∀ j o, l[j]? = some o → edgesOK (i + j) o = true := by
  induction l with
  | nil => intro i h j o ho; simp at ho
  | cons o r ih =>
    intro i h j o' ho
    simp only [edgesAll, Bool.and_eq_true] at h
    cases j with
    | zero =>
      simp only [List.getElem?_cons_zero, Option.some.injEq] at ho
      subst ho
      exact h.1
    | succ j =>
      have := ih (i + 1) h.2 j o' (by simpa using ho)
      rwa [show i + 1 + j = i + (j + 1) by omega] at this

def ClosedE (all : List Oper) (D : Nat → Bool) : Prop := ∀ k o, all[k]? = some o → D k = true → ∀ e, e ∈ o.after.toList → Region.binds .any e = true → D e.on = true

theorem ancRecs_closed {all : List Oper} {D : Nat → Bool} (hc : ClosedE all D) : ∀ (k : Nat) (x : Rec), (ancRecs all [])[k]? = some x → D k = true → ∀ i, Nat.testBit x.anc i = true → D i = true := by
  intro k
  induction k using Nat.strongRecOn with
  | _ k ih =>
    intro x hx hk i hi
    have hlt : k < all.length := by have := (List.getElem?_eq_some_iff.1 hx).1; rwa [ancRecs_length, List.length_nil, Nat.zero_add] at this
    obtain ⟨rs', h1, h2, h3⟩ := ancRecs_at all [] k all[k] (List.getElem?_eq_getElem hlt)
    simp only [List.length_nil, Nat.zero_add] at h1 h2 h3
    rw [hx] at h1; cases h1
    obtain ⟨e, he, hb, hcase⟩ := ancOf_spec hi
    have hon := hc k _ (List.getElem?_eq_getElem hlt) hk e he hb
    rcases hcase with rfl | ⟨y, hy, hyi⟩
    · exact hon
    · have hel : e.on < k := by rw [← h2]; exact (List.getElem?_eq_some_iff.1 hy).1
      exact ih e.on hel y (by rw [← h3 _ hel]; exact hy) hon i hyi

section
variable {P : Program} {glb : Nat → Option GV} {Bk X0 : Nat → Prop} {w0 : World} {st0 : St} {ρ0 : Lab} {S : Stat} {lab : Nat} {F : Fence} {n : Nat} {all : List Oper} {es : List Ef} {lk : Option Nat}

theorem getD_tf (listed : Array Bool) (k : Nat) (hk : k < listed.size) : listed.getD k true = listed.getD k false := by simp [Array.getElem?_eq_getElem hk]

theorem ready_lt {listed : Array Bool} {i : Nat} (hi : i ∈ Region.ready .any all.toArray listed) : ∃ o, all[i]? = some o ∧ i < all.length ∧ listed.getD i true = false ∧ ∀ e, e ∈ o.after.toList → Region.binds .any e = true → listed.getD e.on false = true := by
  obtain ⟨h1, o, h2, h3⟩ := mem_ready.1 hi
  have h2 : all[i]? = some o := by simpa using h2
  exact ⟨o, h2, (List.getElem?_eq_some_iff.1 h2).1, h1, fun e he hb => h3 e (by simpa using he) hb⟩

theorem pivot_spec {m : Nat} (h : pivotB m all = true) : edgesAll 0 all = true ∧ (∃ x, (ancRecs all [])[m]? = some x ∧ x.anc = 2 ^ m - 1) ∧ ∀ k x, m < k → (ancRecs all [])[k]? = some x → Nat.testBit x.anc m = true := by
  unfold pivotB at h
  simp only [Bool.and_eq_true] at h
  obtain ⟨⟨h1, h2⟩, h3⟩ := h
  refine ⟨h1, ?_, ?_⟩
  · split at h2
    · rename_i x hx
      exact ⟨x, hx, Nat.eq_of_beq_eq_true h2⟩
    · cases h2
  · have : ∀ (l : List Rec) (i : Nat), hasBit m i l = true → ∀ k x, l[k]? = some x → m < i + k → Nat.testBit x.anc m = true := by
      intro l
      induction l with
      | nil => intro i _ k x hx; simp at hx
      | cons y r ih =>
        intro i hb k x hx hk
        simp only [hasBit, Bool.and_eq_true, Bool.or_eq_true] at hb
        cases k with
        | zero =>
          simp only [List.getElem?_cons_zero, Option.some.injEq] at hx
          subst hx
          rcases hb.1 with h | h
          · have := Nat.le_of_ble_eq_true h; omega
          · exact h
        | succ k => exact ih (i + 1) hb.2 k x (by simpa using hx) (by omega)
    intro k x hk hx
    exact this _ 0 h3 k x hx (by omega)

theorem anc_ready {D : Nat → Bool} (hc : ClosedE all D) {i : Nat} {o : Oper} (ho : all[i]? = some o) (hr : ∀ e, e ∈ o.after.toList → Region.binds .any e = true → D e.on = true) {x : Rec} (hx : (ancRecs all [])[i]? = some x) : ∀ j, Nat.testBit x.anc j = true → D j = true := by
  intro j hj
  obtain ⟨rs', h1, h2, h3⟩ := ancRecs_at all [] i o ho
  simp only [List.length_nil, Nat.zero_add] at h1 h2 h3
  rw [hx] at h1; cases h1
  obtain ⟨e, he, hbd, hcase⟩ := ancOf_spec hj
  have hon := hr e he hbd
  rcases hcase with rfl | ⟨y, hy, hyi⟩
  · exact hon
  · have hel : e.on < i := by rw [← h2]; exact (List.getElem?_eq_some_iff.1 hy).1
    exact ancRecs_closed hc e.on y (by rw [← h3 _ hel]; exact hy) hon j hyi

theorem any_pre (hF : Wide F P) (hS : StatOK P S) (hct : CtOK P glb S) (hg : S.glb = glb) {m : Nat} (hf : Facts S all lab none st0 es) (hlen : es.length = m) (hm : m < all.length) (hpiv : pivotB m all = true) {Q : Exit → Act → World → Prop}
    (hQ : ∀ (fuel : Nat) (listed : Array Bool) a W, listed.size = all.length → (∀ k, listed.getD k false = decide (k < m)) → (List.range all.length).countP (fun k => !listed.getD k false) ≤ fuel → ClosedE all (fun k => listed.getD k false) → InvD P glb Bk X0 w0 es st0 ρ0 (fun k => decide (k < m)) a W → wpAnyIn F n P .any all.toArray Q fuel listed a W) : ∀ (fuel : Nat) (listed : Array Bool) (a : Act) (W : World), listed.size = all.length → (∀ k, k < all.length → m ≤ k → listed.getD k false = false) →
    (List.range all.length).countP (fun k => !listed.getD k false) ≤ fuel → InvD P glb Bk X0 w0 es st0 ρ0 (fun k => listed.getD k false) a W → Closed es (fun k => listed.getD k false) → ClosedE all (fun k => listed.getD k false) → wpAnyIn F n P .any all.toArray Q fuel listed a W := by
  obtain ⟨hfe, ⟨xm, hxm, hxa⟩, hbit⟩ := pivot_spec hpiv
  have lis : ∀ (listed : Array Bool), listed.size = all.length → (∀ k, k < all.length → m ≤ k → listed.getD k false = false) → (∀ k, k < m → listed.getD k false = true) → ∀ k, listed.getD k false = decide (k < m) := by
    intro listed hsz h1 h2 k
    by_cases hk : k < m
    · rw [h2 k hk]; simp [hk]
    · by_cases hkl : k < all.length
      · rw [h1 k hkl (by omega)]; simp [hk]
      · simp [hk, Array.getElem?_eq_none (by omega : listed.size ≤ k)]
  intro fuel
  induction fuel with
  | zero =>
    intro listed a W hsz hlo hcount hinv hcl hce
    exfalso
    have h0 : (List.range all.length).countP (fun k => !listed.getD k false) = 0 := by omega
    have := List.countP_eq_zero.1 h0 m (List.mem_range.2 hm)
    rw [hlo m hm (Nat.le_refl _)] at this
    simp at this
  | succ fuel ih =>
    intro listed a W hsz hlo hcount hinv hcl hce
    by_cases hdone : ∀ k, k < m → listed.getD k false = true
    · have hlis := lis listed hsz hlo hdone
      have e : (fun k => listed.getD k false) = fun k => decide (k < m) := funext hlis
      exact hQ _ listed a W hsz hlis hcount hce (by rwa [e] at hinv)
    · have hex : ∃ k, k < m ∧ listed.getD k false = false := by
        refine Classical.byContradiction fun hno => hdone fun k hk => ?_
        cases hq : listed.getD k false with
        | true => rfl
        | false => exact absurd ⟨k, hk, hq⟩ hno
      obtain ⟨k0, hk0, hk1⟩ := hex
      refine ⟨fun hr => ?_, fun i hi => ?_⟩
      · exfalso
        have : ∀ k, k < m → listed.getD k false = true := by
          intro k
          induction k using Nat.strongRecOn with
          | _ k ihk =>
            intro hk
            cases hd : listed.getD k false with
            | true => rfl
            | false =>
              exfalso
              have hek : all[k]? = some all[k] := List.getElem?_eq_getElem (by omega)
              have : k ∈ Region.ready .any all.toArray listed := by
                refine mem_ready.2 ⟨by rw [getD_tf listed k (by omega)]; exact hd, all[k], by simp, fun ed hed hb => ?_⟩
                have hedge := edgesAll_spec all 0 hfe k _ hek
                simp only [edgesOK, List.all_eq_true] at hedge
                have := hedge ed (by simpa using hed)
                rw [hb] at this
                have hlt : ed.on < k := by simpa [Nat.blt_eq] using this
                exact ihk ed.on hlt (by omega)
              rw [hr] at this
              simp at this
        rw [this k0 hk0] at hk1; cases hk1
      · obtain ⟨o, h2, hlt, h1, h3⟩ := ready_lt hi
        have him : i < m := by
          rcases Nat.lt_trichotomy i m with h | h | h
          · exact h
          · subst h
            have := anc_ready hce h2 h3 hxm k0 (by rw [hxa, Nat.testBit_two_pow_sub_one]; simpa using hk0)
            rw [hk1] at this; cases this
          · have hxi : i < (ancRecs all []).length := by rw [ancRecs_length]; simpa using hlt
            have := anc_ready hce h2 h3 (List.getElem?_eq_getElem hxi) m (hbit i _ h (List.getElem?_eq_getElem hxi))
            rw [hlo m hm (Nat.le_refl _)] at this; cases this
        have hd : listed.getD i false = false := by rw [← getD_tf listed i (by omega)]; exact h1
        have hset : (listed.setIfInBounds i true).getD i false = true := by simp [hsz, hlt]
        refine any_step hF hS hct hg hf (by omega) hcl (i := i) (D' := fun k => (listed.setIfInBounds i true).getD k false) (List.getElem?_eq_getElem (by omega)) h2 (fun hh => by cases hh) hd h3 hset (fun k hk => getD_set_ne false (Ne.symm hk)) (fun a' W' hinv' hcl' => ?_) hinv
        refine ih _ a' W' (by simpa using hsz) (fun k hk hmk => by rw [getD_set_ne false (by omega : i ≠ k)]; exact hlo k hk hmk) ?_ hinv' hcl' ?_
        · have hlt2 : (List.range all.length).countP (fun k => !(listed.setIfInBounds i true).getD k false) < (List.range all.length).countP (fun k => !listed.getD k false) := by
            refine countP_lt (fun x hx => ?_) _ i (List.mem_range.2 hlt) (by rw [hd]; rfl) (by rw [hset]; rfl)
            cases hq : listed.getD x false with
            | false => rfl
            | true => rw [getD_set_true hq] at hx; cases hx
          omega
        · intro k ok hk hdk e he hb
          by_cases hki : k = i
          · subst hki
            rw [h2] at hk; cases hk
            exact getD_set_true (h3 e he hb)
          · have hdk' : listed.getD k false = true := by
              have := getD_set_ne (listed := listed) false (Ne.symm hki)
              rw [← this]; exact hdk
            exact getD_set_true (hce k ok hk hdk' e he hb)

theorem appD_pre {m : Nat} (l2 : List Ef) : ∀ (l1 : List Ef) (q : Nat) (st : St), l1.length + q = m → appD (fun k => decide (k < m)) (l1 ++ l2) q st = allE l1 st
  | [], q, st, h => by
    simp only [List.nil_append]
    have : ∀ (l : List Ef) (p : Nat) (st : St), m ≤ p → appD (fun k => decide (k < m)) l p st = st := by
      intro l
      induction l with
      | nil => intro p st _; rfl
      | cons e r ih => intro p st hp; simp only [appD]; rw [show decide (p < m) = false by simp; omega, cond_false]; exact ih _ _ (by omega)
    exact this l2 q st (by simp at h; omega)
  | e :: r, q, st, h => by
    simp only [List.cons_append, appD]
    simp only [List.length_cons] at h
    rw [show decide (q < m) = true by simp; omega, cond_true]
    exact appD_pre l2 r (q + 1) _ (by omega)

theorem vcLook_ok (hF : Wide F P) (hS : StatOK P S) (hct : CtOK P glb S) (hg : S.glb = glb) (id : Nat) (ops : Array Oper) (lab m : Nat) (K : St → Prop) (Q : Exit → Act → World → Prop) (wr : List Nat)
    (hwr : ∀ (j : Nat) o d, ops.toList[j]? = some o → o.dst = some d → d ∈ wr) {a : Act} {W : World} (mt : Mt P glb Bk X0 w0 st0 ρ0 a W) (hpiv : pivotB m ops.toList = true) (h : vcLook S ops.toList lab m st0 K)
    (hQ : ∀ a W, PostR P glb Bk X0 w0 st0 ρ0 wr K a W → Q .normal a W) : (Code.region id ops true).wpIn F n P Q a W := by
  obtain ⟨hfe, ⟨xm, hxm, hxa⟩, hbit⟩ := pivot_spec hpiv
  have hmlt : m < ops.toList.length := by
    have := (List.getElem?_eq_some_iff.1 hxm).1
    rwa [ancRecs_length, List.length_nil, Nat.zero_add] at this
  unfold vcLook at h
  obtain ⟨es, hlen, hf, hk⟩ := text_runR S ops.toList lab none _ st0 (ops.toList.take m) 0 [] st0 rfl (fun j x hx => by
      rw [Nat.zero_add]
      rw [List.getElem?_take] at hx
      split at hx
      · exact hx
      · cases hx) (fun i e he => by simp at he) rfl h
  rw [Nat.zero_add, List.length_take, Nat.min_eq_left (Nat.le_of_lt hmlt)] at hlen
  have hom : ops.toList[m]? = some ops.toList[m] := List.getElem?_eq_getElem hmlt
  rw [hom] at hk
  obtain ⟨hc, hsem⟩ := chk_iff.1 hk
  simp only [Bool.and_eq_true, Option.isNone_iff_eq_none] at hc
  obtain ⟨⟨⟨hgd, hnew⟩, hdst⟩, hap⟩ := hc
  refine wpIn_region_any hS.mixed ?_
  have m1 : Mt P glb Bk X0 w0 st0 ρ0 a { W with drawn := W.drawn + 1 } := mt.below ⟨rfl, rfl, rfl, Nat.le_refl _, fun _ _ => rfl⟩
  have noD : ∀ k, (Array.replicate ops.size false).getD k false = false := fun k => by simp only [Array.getD_eq_getD_getElem?, Array.getElem?_replicate]; split <;> rfl
  have hsize : ops.size = ops.toList.length := by simp
  have := any_pre (Bk := Bk) (X0 := X0) (w0 := w0) (ρ0 := ρ0) (n := n) hF hS hct hg hf hlen hmlt hpiv (Q := Q) (fun fuel listed a' W' hsz hlis hcnt hce hinv => ?_) ops.size (Array.replicate ops.size false) a { W with drawn := W.drawn + 1 } (by simp) (fun k _ _ => noD k) ?_ ?_ ?_ ?_
  · simpa using this
  ·
    obtain ⟨ρ', dom, hle', m', hdom⟩ := hinv
    have hall : appD (fun k => decide (k < m)) es 0 st0 = allE es st0 := appD_all es 0 st0 (fun k hk => by rw [Nat.zero_add]; simp only [decide_eq_true_eq]; omega)
    have hnewd : freshL (lab + m) dom = true := by
      refine freshL_mono (d := []) (fun l hl => .inr ?_) rfl
      rcases hdom l hl with h1 | ⟨k, e, he, _, h1⟩
      · exact ⟨_, freshL_mono (fun l hl => .inl ((allE_dom es st0).2 (.inl hl))) hnew, h1⟩
      · exact ⟨_, freshL_mono (fun l hl => .inl ((allE_dom es st0).2 (.inr ⟨e, List.mem_of_getElem? he, hl⟩))) hnew, h1⟩
    cases fuel with
    | zero =>
      exfalso
      have h0 := List.countP_eq_zero.1 (Nat.le_zero.1 hcnt) m (List.mem_range.2 hmlt)
      rw [hlis m] at h0
      simp at h0
    | succ fuel =>
    have hready : m ∈ Region.ready .any ops.toList.toArray listed := by
      refine mem_ready.2 ⟨by rw [getD_tf listed m (by omega), hlis]; simp, ops.toList[m], by simp, fun e he hb => ?_⟩
      have hedge := edgesAll_spec ops.toList 0 hfe m _ hom
      simp only [edgesOK, List.all_eq_true] at hedge
      have := hedge e (by simpa using he)
      rw [hb] at this
      have hlt2 : e.on < m := by simpa [Nat.blt_eq] using this
      rw [hlis]; simpa using hlt2
    refine ⟨fun hr => (by rw [hr] at hready; cases hready), fun i hi => ?_⟩
    obtain ⟨o, h2, hlt, h1, h3⟩ := ready_lt hi
    have him : i = m := by
      rcases Nat.lt_trichotomy i m with h | h | h
      · rw [getD_tf listed i (by omega), hlis] at h1
        simp at h1; omega
      · exact h
      · have hxi : i < (ancRecs ops.toList []).length := by rw [ancRecs_length]; simpa using hlt
        have := anc_ready hce h2 h3 (List.getElem?_eq_getElem hxi) m (hbit i _ h (List.getElem?_eq_getElem hxi))
        replace this : listed.getD m false = true := this
        rw [hlis] at this
        simp at this
    subst him
    rw [hom] at h2; cases h2
    have hgo : ops.toList.toArray[i]? = some ops.toList[i] := by simp
    unfold wpOpIn
    rw [hgo]
    simp only
    have hw : Region.wanted ops.toList[i] (yielded ops.toList.toArray a'.tmps) = true := wanted_none hgd _
    rw [hw]
    simp only [if_true]
    have mp := m'.part (opTmps ops.toList[i]) (memOf (allE es st0) ops.toList[i])
    have hmask : (canon es st0 (fun k => decide (k < i)) dom).mask (opTmps ops.toList[i]) (memOf (allE es st0) ops.toList[i]) [] = (allE es st0).mask (opTmps ops.toList[i]) (memOf (allE es st0) ops.toList[i]) [] := by
      unfold St.mask
      have e1 : (canon es st0 (fun k => decide (k < i)) dom).n = (allE es st0).n := by rw [allE_n]; rfl
      have e2 : (canon es st0 (fun k => decide (k < i)) dom).tm = (allE es st0).tm := by show (appD _ es 0 st0).tm = _; rw [hall]
      have e3 : (canon es st0 (fun k => decide (k < i)) dom).look = (allE es st0).look := funext fun l => by rw [canon_look, hall]
      rw [e1, e2, e3]
    have hsem2 := sem_dom S false ((canon es st0 (fun k => decide (k < i)) dom).mask (opTmps ops.toList[i]) (memOf (allE es st0) ops.toList[i]) []) (canon es st0 (fun k => decide (k < i)) dom).dom (lab + i) ops.toList[i]
    rw [hmask] at hsem2
    obtain ⟨QQ, hQQ⟩ : ∃ QQ : Eff, QQ = fun sv u => chk u.isEmpty (vcAny S ops.toList lab (ops.toList.drop (i + 1)) (i + 1) (es.map (·.r) ++ [⟨ancOf (es.map (·.r)) ops.toList[i], opTmps ops.toList[i], ops.toList[i].dst, memOf (allE es st0) ops.toList[i], []⟩]) ((allE es st0).put ops.toList[i].dst sv) K) := ⟨_, rfl⟩
    replace hsem : sem S false ((allE es st0).mask (opTmps ops.toList[i]) (memOf (allE es st0) ops.toList[i]) []) (lab + i) ops.toList[i] QQ := by rw [hQQ]; exact hsem
    have hsem3 := (hsem2 QQ).mpr hsem
    rw [← hmask] at hsem3
    obtain ⟨g1, g2⟩ := sem_ok hS hct hg mp hnewd hsem3
    have heval : ({ a' with defers := [] } : Act).eval = a'.eval := funext fun x => by cases x <;> rfl
    have g1' : OpOut P ops.toList[i] a' W' (Fits P glb (bkOf (canon es st0 (fun k => decide (k < i)) dom) ρ' (memOf (allE es st0) ops.toList[i]) W') (xOf (canon es st0 (fun k => decide (k < i)) dom) ρ' X0 (memOf (allE es st0) ops.toList[i]) W') W' ((canon es st0 (fun k => decide (k < i)) dom).mask (opTmps ops.toList[i]) (memOf (allE es st0) ops.toList[i]) (canon es st0 (fun k => decide (k < i)) dom).dom) ρ' { a' with defers := [] } W' QQ) := by
      unfold OpOut at g1 ⊢
      rw [heval] at g1
      exact g1
    refine g1'.wpIn hF g2 fun v w' hfit => ?_
    obtain ⟨sv, u, ρ2, hQu, hle2, m2, hv, _⟩ := hfit
    rw [hQQ] at hQu
    obtain ⟨hu, hvc⟩ := chk_iff.1 hQu
    have hu : u = [] := List.isEmpty_iff.1 hu
    subst hu
    obtain ⟨m3, hsub⟩ := m'.whole (opTmps ops.toList[i]) (memOf (allE es st0) ops.toList[i]) [] (fun l h hl => by cases hl) hle2 m2

    let em : Ef := ⟨⟨ancOf (es.map (·.r)) ops.toList[i], opTmps ops.toList[i], ops.toList[i].dst, memOf (allE es st0) ops.toList[i], []⟩, sv, []⟩
    have hfacts : Facts S ops.toList lab (some i) st0 (es ++ [em]) := by
      refine facts_snoc S ops.toList lab (some i) (fun j e he => ?_) (o := ops.toList[i]) ?_ rfl (by rw [hlen]; exact hap)
      · obtain ⟨o, fe, q1, q2⟩ := hf j e he
        refine ⟨o, ⟨fe.op, fe.wr, fe.dst, fe.new, fe.edges, fe.tch, fe.nln, ?_⟩, q1, q2⟩
        rcases fe.out with q | q | q
        · exact .inl q
        · exact .inr (.inl q)
        · cases q
      · rw [hlen]
        have hedge := edgesAll_spec ops.toList 0 hfe i _ hom
        rw [Nat.zero_add] at hedge
        exact ⟨hom, rfl, hdst, hnew, hedge, rfl, rfl, .inr (.inr rfl)⟩
    obtain ⟨es2, hlen2, hf2, hk2, r2, hr2⟩ := text_runP S ops.toList lab (some i) K st0 (ops.toList.drop (i + 1)) (i + 1) (es ++ [em]) ((allE es st0).put ops.toList[i].dst sv) (by simp [hlen]) (fun j x hx => by rw [List.getElem?_drop] at hx; exact hx) hfacts (by rw [allE_snoc]; rfl) (by rw [List.map_append]; exact hvc)
    have hlen3 : es2.length = ops.toList.length := by rw [hlen2, List.length_drop]; omega
    have hset : ∀ k, (listed.setIfInBounds i true).getD k false = decide (k < i + 1) := by
      intro k
      by_cases hk : k = i
      · subst hk
        have hlt' : k < listed.size := by omega
        simp [hlt']
      · rw [getD_set_ne false (Ne.symm hk), hlis]
        by_cases h : k < i
        · simp [h]; omega
        · simp [h]; omega
    have hDf : (fun k => (listed.setIfInBounds i true).getD k false) = fun k => decide (k < i + 1) := funext hset
    have happ : appD (fun k => decide (k < i + 1)) es2 0 st0 = (allE es st0).put ops.toList[i].dst sv := by
      rw [← hr2, appD_pre r2 (es ++ [em]) 0 st0 (by simp [hlen]), allE_snoc]; rfl
    have hcanon : ∀ l, (canon es st0 (fun k => decide (k < i)) dom).look l = (allE es st0).look l := fun l => by rw [canon_look, hall]
    have hinv2 : InvD P glb Bk X0 w0 es2 st0 ρ0 (fun k => (listed.setIfInBounds i true).getD k false) (a'.put ops.toList[i].dst v) w' := by
      rw [hDf]
      have m4 := m3.put ops.toList[i].dst sv v (by have hd2 := hdst; rw [allE_n] at hd2; rw [upds_n]; exact hd2) (hv.mono ρ2.le_refl (Evo.mono m3.Xlt hsub))
      refine ⟨ρ2, dom, hle'.trans hle2, m4.same ?_ (fun t => ?_) (fun l => ?_) (fun l u hlu => ?_) (fun l he s hh => ?_), fun l hl => ?_⟩
      · rw [put_n, upds_n]; rfl
      · show (appD _ es2 0 st0).tm t = _
        rw [happ]
        cases ops.toList[i].dst with
        | none => show (allE es st0).tm t = (appD _ es 0 st0).tm t; rw [hall]
        | some d => show updf (allE es st0).tm d sv t = updf (appD _ es 0 st0).tm d sv t; rw [hall]
      · rw [canon_look, happ, put_look, put_look]
        exact (hcanon l).symm
      · exact m3.dom l u hlu
      · have : ((appD (fun k => decide (k < i + 1)) es2 0 st0).look l).map (fun h => (h, 0)) = some (he, s) := hh
        cases hq : (appD (fun k => decide (k < i + 1)) es2 0 st0).look l with
        | none => rw [hq] at this; cases this
        | some x => rw [hq] at this; cases this; exact Nat.le_refl _
      · rcases hdom l hl with h | ⟨k, e, he, hk, h⟩
        · exact .inl h
        · refine .inr ⟨k, e, ?_, by simp at hk ⊢; omega, h⟩
          have hkl := (List.getElem?_eq_some_iff.1 he).1
          rw [← hr2, List.append_assoc, List.getElem?_append_left hkl]; exact he
    have hback : ∀ k e, es2[k]? = some e → ∀ j, Nat.testBit e.r.anc j = true → j < k := by
      intro k
      induction k using Nat.strongRecOn with
      | _ k ihk =>
        intro e he j hj
        obtain ⟨o, fe, hanc, _⟩ := hf2 k e he
        rw [hanc] at hj
        obtain ⟨ed, hed, hbd, hcase⟩ := ancOf_spec hj
        have hedge := fe.edges
        simp only [edgesOK, List.all_eq_true] at hedge
        have := hedge ed hed
        rw [hbd] at this
        have hel : ed.on < k := by simpa [Nat.blt_eq] using this
        rcases hcase with rfl | ⟨x, hx, hxj⟩
        · exact hel
        · rw [List.getElem?_map, List.getElem?_take, if_pos hel] at hx
          cases hex : es2[ed.on]? with
          | none => rw [hex] at hx; cases hx
          | some ex =>
            rw [hex] at hx; cases hx
            exact Nat.lt_trans (ihk ed.on hel ex hex j hxj) hel
    refine any_run (Bk := Bk) (X0 := X0) (w0 := w0) (ρ0 := ρ0) (n := n) hF hS hct hg hf2 hlen3 (Q := Q) (fun a3 W3 hinv3 => ?_) fuel _ _ w' (by simpa using hsz) ?_ hinv2 (fun k e he hd j hj => ?_) (fun mm hmm => ?_)
    · obtain ⟨ρ3, dom3, hle3, m5, hdom3⟩ := hinv3
      have hall3 : appD (fun k => decide (k < ops.toList.length)) es2 0 st0 = allE es2 st0 := appD_all es2 0 st0 (fun k hk => by rw [Nat.zero_add]; simp only [decide_eq_true_eq]; omega)
      refine hQ a3 W3 ⟨allE es2 st0, ρ3, hk2, ⟨?_, hle3⟩, m5.same ?_ (fun t => ?_) (fun l => ?_) (fun l u hu => ?_) ?_⟩
      · refine allE_frm wr es2 st0 (fun e he d hd => ?_)
        obtain ⟨j, hj⟩ := List.getElem?_of_mem he
        obtain ⟨o, fe, _, _⟩ := hf2 j e hj
        exact hwr j o d fe.op (by rw [← fe.wr]; exact hd)
      · rw [allE_n]; rfl
      · rw [← hall3]; rfl
      · rw [canon_look, hall3]
      · refine (allE_dom es2 st0).2 ?_
        rcases hdom3 l (m5.dom l u hu) with h | ⟨k, e, he, _, h⟩
        · exact .inl h
        · exact .inr ⟨e, List.mem_of_getElem? he, h⟩
      · exact allE_stamp es2 st0 mt.stamp
    · have hlt2 : (List.range ops.toList.length).countP (fun k => !(listed.setIfInBounds i true).getD k false) < (List.range ops.toList.length).countP (fun k => !listed.getD k false) := by
        refine countP_lt (fun x hx => ?_) _ i (List.mem_range.2 hlt) (by rw [hlis]; simp) (by rw [hset]; simp)
        cases hq : listed.getD x false with
        | false => rfl
        | true => rw [getD_set_true hq] at hx; cases hx
      omega
    · have hd : (listed.setIfInBounds i true).getD k false = true := hd
      show (listed.setIfInBounds i true).getD j false = true
      rw [hset] at hd ⊢
      have := hback k e he j hj
      simp at hd ⊢; omega
    · cases hmm
      rw [hset]; simp
  · exact Nat.le_trans List.countP_le_length (by simp)
  · refine ⟨ρ0, st0.dom, ρ0.le_refl, m1.same rfl (fun t => ?_) (fun l => ?_) (fun l v hv => mt.dom l v hv) (fun l he s hh => ?_), fun l hl => .inl hl⟩
    · show (appD _ es 0 st0).tm t = _
      rw [appD_none es 0 st0 noD]
    · rw [canon_look, appD_none es 0 st0 noD]
    · have : ((appD (fun k => (Array.replicate ops.size false).getD k false) es 0 st0).look l).map (fun h => (h, 0)) = some (he, s) := hh
      cases hq : (appD (fun k => (Array.replicate ops.size false).getD k false) es 0 st0).look l with
      | none => rw [hq] at this; cases this
      | some x => rw [hq] at this; cases this; exact Nat.le_refl _
  · intro k e he hd
    exact absurd ((noD k).symm.trans hd) (by decide)
  · intro k o hk hd
    exact absurd ((noD k).symm.trans hd) (by decide)
end
end Go.GX
set_option linter.unusedVariables false
namespace Go.GX
variable [Inhabited BaseD]
open Go.RowKit Go.Shelf Go.Proofs

def Xt.ex : Xt → Exit
  | .norm => .normal
  | .exit i => .exit i
  | .ret => .ret

theorem hp_notlab {c : Nat} {h : Nat → Option (HE × Nat)} {l : Nat} : ∀ {its : Items} {g : its.G}, memL l its.labs = false → its.hp c h g l = h l
  | [], g, _ => rfl
  | .t t K :: r, g, hl => hp_notlab (its := r) hl
  | .row t l0 nn e K :: r, g, hl => by
    simp only [Items.labs, memL_cons, Bool.or_eq_false_iff] at hl
    simp only [Items.hp, hl.1, cond_false]
    exact hp_notlab (its := r) hl.2
  | .cell l0 ty K :: r, g, hl => by
    simp only [Items.labs, memL_cons, Bool.or_eq_false_iff] at hl
    simp only [Items.hp, hl.1, cond_false]
    exact hp_notlab (its := r) hl.2
  | .lmap l0 q K :: r, g, hl => by
    simp only [Items.labs, memL_cons, Bool.or_eq_false_iff] at hl
    simp only [Items.hp, hl.1, cond_false]
    exact hp_notlab (its := r) hl.2
  | .crow l0 ty m nn e K K2 :: r, g, hl => by
    simp only [Items.labs, memL_cons, Bool.or_eq_false_iff] at hl
    simp only [Items.hp, hl.1, hl.2.1, cond_false]
    exact hp_notlab (its := r) hl.2.2
  | .crow2 l0 ty m nn e K K2 m' nn' e' K' :: r, g, hl => by
    simp only [Items.labs, memL_cons, Bool.or_eq_false_iff] at hl
    simp only [Items.hp, hl.1, hl.2.1, hl.2.2.1, cond_false]
    exact hp_notlab (its := r) hl.2.2.2
  | .crow3 l0 ty m e K m2 e2 K2 KD m3 e3 K3 :: r, g, hl => by
    simp only [Items.labs, memL_cons, Bool.or_eq_false_iff] at hl
    simp only [Items.hp, hl.1, hl.2.1, hl.2.2.1, hl.2.2.2.1, cond_false]
    exact hp_notlab (its := r) hl.2.2.2.2
  | .drow l0 ty K2 m nn e K :: r, g, hl => by
    simp only [Items.labs, memL_cons, Bool.or_eq_false_iff] at hl
    simp only [Items.hp, hl.1, hl.2.1, cond_false]
    exact hp_notlab (its := r) hl.2.2
  | .lrow l0 nn e K :: r, g, hl => by
    simp only [Items.labs, memL_cons, Bool.or_eq_false_iff] at hl
    simp only [Items.hp, hl.1, cond_false]
    exact hp_notlab (its := r) hl.2
  | .mat t l0 vl nn e ag e1 K1 :: r, g, hl => by
    simp only [Items.labs, memL_cons, Bool.or_eq_false_iff] at hl
    simp only [Items.hp, hl.1, hl.2.1, cond_false]
    exact hp_notlab (its := r) hl.2.2
  | .lmat l0 vl nn e ag e1 K1 :: r, g, hl => by
    simp only [Items.labs, memL_cons, Bool.or_eq_false_iff] at hl
    simp only [Items.hp, hl.1, hl.2.1, cond_false]
    exact hp_notlab (its := r) hl.2.2

theorem hp_cases {c : Nat} {h : Nat → Option (HE × Nat)} {l : Nat} {he : HE} {s : Nat} : ∀ {its : Items} {g : its.G}, its.hp c h g l = some (he, s) → s = c ∨ h l = some (he, s)
  | [], g, hl => .inr hl
  | .t t K :: r, g, hl => hp_cases (its := r) hl
  | .row t l0 nn e K :: r, g, hl => by
    simp only [Items.hp] at hl
    cases hb : Nat.beq l l0 with
    | true => rw [hb] at hl; cases hl; exact .inl rfl
    | false => rw [hb] at hl; exact hp_cases (its := r) hl
  | .cell l0 ty K :: r, g, hl => by
    simp only [Items.hp] at hl
    cases hb : Nat.beq l l0 with
    | true => rw [hb] at hl; cases hl; exact .inl rfl
    | false => rw [hb] at hl; exact hp_cases (its := r) hl
  | .lmap l0 q K :: r, g, hl => by
    simp only [Items.hp] at hl
    cases hb : Nat.beq l l0 with
    | true => rw [hb] at hl; cases hl; exact .inl rfl
    | false => rw [hb] at hl; exact hp_cases (its := r) hl
  | .crow l0 ty m nn e K K2 :: r, g, hl => by
    simp only [Items.hp] at hl
    cases hb : Nat.beq l l0 with
    | true => rw [hb] at hl; cases hl; exact .inl rfl
    | false =>
      rw [hb, cond_false] at hl
      cases hb2 : Nat.beq l m with
      | true => rw [hb2] at hl; cases hl; exact .inl rfl
      | false => rw [hb2] at hl; exact hp_cases (its := r) hl
  | .crow2 l0 ty m nn e K K2 m' nn' e' K' :: r, g, hl => by
    simp only [Items.hp] at hl
    cases hb : Nat.beq l l0 with
    | true => rw [hb] at hl; cases hl; exact .inl rfl
    | false =>
      rw [hb, cond_false] at hl
      cases hb2 : Nat.beq l m with
      | true => rw [hb2] at hl; cases hl; exact .inl rfl
      | false =>
        rw [hb2, cond_false] at hl
        cases hb3 : Nat.beq l m' with
        | true => rw [hb3] at hl; cases hl; exact .inl rfl
        | false => rw [hb3] at hl; exact hp_cases (its := r) hl
  | .crow3 l0 ty m e K m2 e2 K2 KD m3 e3 K3 :: r, g, hl => by
    simp only [Items.hp] at hl
    cases hb : Nat.beq l l0 with
    | true => rw [hb] at hl; cases hl; exact .inl rfl
    | false =>
      rw [hb, cond_false] at hl
      cases hb2 : Nat.beq l m with
      | true => rw [hb2] at hl; cases hl; exact .inl rfl
      | false =>
        rw [hb2, cond_false] at hl
        cases hb3 : Nat.beq l m2 with
        | true => rw [hb3] at hl; cases hl; exact .inl rfl
        | false =>
          rw [hb3, cond_false] at hl
          cases hb4 : Nat.beq l m3 with
          | true => rw [hb4] at hl; cases hl; exact .inl rfl
          | false => rw [hb4] at hl; exact hp_cases (its := r) hl
  | .drow l0 ty K2 m nn e K :: r, g, hl => by
    simp only [Items.hp] at hl
    cases hb : Nat.beq l l0 with
    | true => rw [hb] at hl; cases hl; exact .inl rfl
    | false =>
      rw [hb, cond_false] at hl
      cases hb2 : Nat.beq l m with
      | true => rw [hb2] at hl; cases hl; exact .inl rfl
      | false => rw [hb2] at hl; exact hp_cases (its := r) hl
  | .lrow l0 nn e K :: r, g, hl => by
    simp only [Items.hp] at hl
    cases hb : Nat.beq l l0 with
    | true => rw [hb] at hl; cases hl; exact .inl rfl
    | false => rw [hb] at hl; exact hp_cases (its := r) hl
  | .mat t l0 vl nn e ag e1 K1 :: r, g, hl => by
    simp only [Items.hp] at hl
    cases hb : Nat.beq l l0 with
    | true => rw [hb] at hl; cases hl; exact .inl rfl
    | false =>
      rw [hb, cond_false] at hl
      cases hb2 : Nat.beq l vl with
      | true => rw [hb2] at hl; cases hl
      | false => rw [hb2] at hl; exact hp_cases (its := r) hl
  | .lmat l0 vl nn e ag e1 K1 :: r, g, hl => by
    simp only [Items.hp] at hl
    cases hb : Nat.beq l l0 with
    | true => rw [hb] at hl; cases hl; exact .inl rfl
    | false =>
      rw [hb, cond_false] at hl
      cases hb2 : Nat.beq l vl with
      | true => rw [hb2] at hl; cases hl
      | false => rw [hb2] at hl; exact hp_cases (its := r) hl

theorem head_tm_off {its : Items} {st0 : St} {wr : List Nat} {g : its.G} (hok : its.ok st0 wr = true) {t : Nat} (ht : memL t wr = false) : (its.head st0 wr g).tm t = st0.tm t := by
  show (match its.tm g t with
      | some v => v
      | none => cond (memL t wr) .any (st0.tm t)) = _
  cases h : its.tm g t with
  | some sv => rw [tm_wr hok h] at ht; cases ht
  | none => simp only [ht, cond_false]

theorem head_frm {its : Items} {st0 : St} {wr : List Nat} (g : its.G) (hok : its.ok st0 wr = true) : Frm st0 (its.head st0 wr g) wr := by
  refine ⟨rfl, Nat.le_succ _, fun t ht => head_tm_off hok ht, fun l he s h hs => ?_⟩
  rcases hp_cases (its := its) (g := g) h with h1 | h1
  · omega
  · exact base_some h1

theorem kept_spec {labs : List Nat} {st0 st' : St} : ∀ {ls : List Nat}, keptOK labs st0 st' ls = true → ∀ l, memL l ls = true → memL l labs = true ∨ sameStamp (st'.hp l) (st0.hp l) = true
  | [], _, l, hl => by cases hl
  | k :: r, h, l, hl => by
    simp only [keptOK, Bool.and_eq_true, Bool.or_eq_true] at h
    rw [memL_cons, Bool.or_eq_true] at hl
    rcases hl with hl | hl
    · have := Nat.eq_of_beq_eq_true hl
      subst this
      exact h.1
    · exact kept_spec h.2 l hl

theorem All_spec : ∀ {its : Items} {p : its.G → Prop}, its.All p → ∀ g, p g
  | [], p, h, g => h
  | it :: r, p, h, g => All_spec (its := r) (h g.1) g.2

theorem exists_least {p : Nat → Prop} : ∀ n, p n → ∃ m, p m ∧ ∀ k, p k → m ≤ k := by
  intro n
  induction n using Nat.strongRecOn with
  | _ n ih =>
    intro hn
    by_cases h : ∃ k, k < n ∧ p k
    · obtain ⟨k, hk, hp⟩ := h
      exact ih k hk hp
    · exact ⟨n, hn, fun k hk => Nat.le_of_not_lt fun hlt => h ⟨k, hlt, hk⟩⟩

noncomputable def least {G : Type} (I : G → Act → World → Prop) (μ : G → Nat) (a : Act) (W : World) : Nat :=
  Classical.epsilon fun m => (∃ g, I g a W ∧ μ g = m) ∧ ∀ k, (∃ g, I g a W ∧ μ g = k) → m ≤ k

theorem least_spec {G : Type} {I : G → Act → World → Prop} {μ : G → Nat} {a : Act} {W : World} {g : G} (h : I g a W) : (∃ g', I g' a W ∧ μ g' = least I μ a W) ∧ ∀ k, (∃ g, I g a W ∧ μ g = k) → least I μ a W ≤ k :=
  Classical.epsilon_spec (exists_least (p := fun n => ∃ g, I g a W ∧ μ g = n) (μ g) ⟨g, h, rfl⟩)

theorem least_le {G : Type} {I : G → Act → World → Prop} {μ : G → Nat} {a : Act} {W : World} {g : G} (h : I g a W) : least I μ a W ≤ μ g := (least_spec h).2 _ ⟨g, h, rfl⟩
theorem least_at {G : Type} {I : G → Act → World → Prop} {μ : G → Nat} {a : Act} {W : World} {g : G} (h : I g a W) : ∃ g', I g' a W ∧ μ g' = least I μ a W := (least_spec h).1

section
variable {P : Program} {glb : Nat → Option GV} {Bk X0 : Nat → Prop} {w0 : World} {st st0 st' : St} {ρ ρ' : Lab} {a : Act} {W W' : World} {S : Stat} {F : Fence} {n : Nat}

def PostX (P : Program) (glb : Nat → Option GV) (Bk X0 : Nat → Prop) (w0 : World) (st : St) (ρ : Lab) (wr : List Nat) (K : Xt → St → Prop) (e : Exit) (a : Act) (W : World) : Prop :=
  ∃ x st' ρ', e = x.ex ∧ K x st' ∧ (Frm st st' wr ∧ ρ.le ρ') ∧ Mt P glb Bk X0 w0 st' ρ' a W

theorem Mt.ahead (m : Mt P glb Bk X0 w0 st0 ρ a W) (its : Items) (wr : List Nat) : Ahead P st0 wr its st0 := by
  have hp : ∀ l v, ρ l = some v → memL l st0.dom = true := m.dom
  refine ⟨rfl, fun t _ => rfl, fun l he s h _ => ⟨s, base_some h⟩, fun t => (m.tms t).uses hp, fun l he s h => ?_⟩
  obtain ⟨v, hv, hok⟩ := m.hps l he s h
  refine ⟨m.dom l v hv, ?_, m.stamp l he s h⟩
  cases he with
  | box own ty cs =>
    obtain ⟨b, arr, _, _, hcs, _⟩ := hok
    exact hcs.uses hp
  | mat nn e ag e1 K1 xs hole vl =>
    obtain ⟨⟨us, hu, _⟩, _⟩ := hok
    exact m.dom vl _ hu
  | _ => trivial

theorem Ahead.next {its : Items} {wr : List Nat} {g : its.G} (h : Ahead P st0 wr its st0) (hok : its.ok st0 wr = true) (hf : Frm (its.head st0 wr g) st' wr) (hk : keptOK its.labs (its.head st0 wr g) st' (its.labs ++ st0.dom) = true) : Ahead P st0 wr its st' := by
  refine ⟨hf.n, fun t ht => (hf.tm t ht).trans (head_tm_off hok ht), fun l he s hb hl => ?_, h.utm, h.uhp⟩
  obtain ⟨hd, _, hs⟩ := h.uhp l he s (base_some hb)
  have hhd : (its.head st0 wr g).hp l = some (he, s) := (hp_notlab hl).trans hb
  rcases kept_spec hk l (by rw [memL_append, hd, Bool.or_true]) with h1 | h1
  · rw [hl] at h1; cases h1
  · rw [hhd] at h1
    cases hq : st'.hp l with
    | none => rw [hq] at h1; cases h1
    | some p =>
      obtain ⟨he', s'⟩ := p
      rw [hq] at h1
      have hss : s' = s := Nat.eq_of_beq_eq_true h1
      subst hss
      have := hf.hp l he' s' hq (by show s' ≤ st0.cnt + 1; omega)
      rw [hhd] at this
      cases this
      exact ⟨s', rfl⟩

theorem Ahead.next0 {its : Items} {wr : List Nat} (h : Ahead P st0 wr its st0) (hf : Frm st0 st' wr) (hk : keptOK (its.labs ++ its.gone st0) st0 st' (its.labs ++ st0.dom) = true) : Ahead P st0 wr its st' := by
  refine ⟨hf.n, fun t ht => hf.tm t ht, fun l he s hb hl => ?_, h.utm, h.uhp⟩
  obtain ⟨hd, _, hs⟩ := h.uhp l he s (base_some hb)
  have hhd : st0.hp l = some (he, s) := base_some hb
  rcases kept_spec hk l (by rw [memL_append, hd, Bool.or_true]) with h1 | h1
  · have hng : memL l (its.gone st0) = false := by
      have hb2 : cond (memL l (its.gone st0)) none (st0.hp l) = some (he, s) := hb
      cases hg : memL l (its.gone st0) with
      | false => rfl
      | true => rw [hg] at hb2; cases hb2
    rw [memL_append, hl, hng] at h1; cases h1
  · rw [hhd] at h1
    cases hq : st'.hp l with
    | none => rw [hq] at h1; cases h1
    | some p =>
      obtain ⟨he', s'⟩ := p
      rw [hq] at h1
      have hss : s' = s := Nat.eq_of_beq_eq_true h1
      subst hss
      have := hf.hp l he' s' hq (by show s' ≤ st0.cnt; omega)
      rw [hhd] at this
      cases this
      exact ⟨s', rfl⟩
theorem join_post (hct : CtOK P glb S) {its : Items} (m : Mt P glb Bk X0 w0 st ρ a W) {wr : List Nat} {K : Xt → St → Prop} (hnd : nodupL its.labs = true) (hok : its.ok st wr = true) {I : its.Cur Prop} (h2 : its.All fun g => its.app I g → K .norm (its.head st wr g))
    {e : Exit} {a1 : Act} {W1 : World} (h : PostX P glb Bk X0 w0 st ρ wr (thruK K fun st' => chk (keptOK (its.labs ++ its.gone st) st st' (its.labs ++ st.dom)) <| its.get S (its.kept st) st' [] fun g => its.app I g) e a1 W1) : PostX P glb Bk X0 w0 st ρ wr K e a1 W1 := by
  obtain ⟨x, st', ρ', he, hk, hf, m'⟩ := h
  cases x with
  | ret => exact ⟨.ret, st', ρ', he, hk, hf, m'⟩
  | exit i => exact ⟨.exit i, st', ρ', he, hk, hf, m'⟩
  | norm =>
    obtain ⟨hkept, hget⟩ := chk_iff.1 hk
    have hA := m.ahead its wr
    obtain ⟨g, ρh, hI, mh, hold, _⟩ := m'.head hct its wr (hA.next0 hf.1 hkept) hnd hok hget
    exact ⟨.norm, its.head st wr g, ρh, he, All_spec h2 g hI, ⟨head_frm g hok, fun l v hv => by rw [hold l (m.dom l v hv)]; exact hf.2 l v hv⟩, mh⟩

theorem vc_block (an : Nat → Items) (id : Nat) (c : Code) (K : Xt → St → Prop) (hc : ∀ b, c ≠ .loop b) (hc2 : ∀ f ps x y, c ≠ .rangeFunc f ps x y) : vc S an (.block id c) st K = vc S an c st fun x st' => match x with
    | .norm => K .norm st'
    | .exit i => cond (Nat.beq i id) (K .norm st') (K (.exit i) st')
    | .ret => K .ret st' := by
  cases c <;> first | rfl | exact absurd rfl (hc _) | exact absurd rfl (hc2 _ _ _ _)

theorem block_post {id : Nat} {wr : List Nat} {K K' : Xt → St → Prop} {Q : Exit → Act → World → Prop} (hQ : ∀ e a W, PostX P glb Bk X0 w0 st ρ wr K e a W → Q e a W)
    (h1 : ∀ st', K' .norm st' → K .norm st') (h2 : ∀ i st', K' (.exit i) st' → cond (Nat.beq i id) (K .norm st') (K (.exit i) st')) (h3 : ∀ st', K' .ret st' → K .ret st') (e : Exit) (a : Act) (W : World) (h : PostX P glb Bk X0 w0 st ρ wr K' e a W) : Exit.inBlock id Q e a W := by
  obtain ⟨x, st', ρ', rfl, hk, hf, m⟩ := h
  cases x with
  | norm => exact hQ _ _ _ ⟨.norm, st', ρ', rfl, h1 _ hk, hf, m⟩
  | ret => exact hQ _ _ _ ⟨.ret, st', ρ', rfl, h3 _ hk, hf, m⟩
  | exit i =>
    have := h2 i st' hk
    show if i = id then Q .normal a W else Q (.exit i) a W
    by_cases hi : i = id
    · subst hi
      rw [if_pos rfl]
      rw [Nat.beq_refl, cond_true] at this
      exact hQ _ _ _ ⟨.norm, st', ρ', rfl, this, hf, m⟩
    · rw [if_neg hi]
      rw [beq_ne hi, cond_false] at this
      exact hQ _ _ _ ⟨.exit i, st', ρ', rfl, this, hf, m⟩

theorem mem_filterMap_dst {ops : List Oper} {j : Nat} {o : Oper} {d : Nat} (h : ops[j]? = some o) (hd : o.dst = some d) : d ∈ ops.filterMap (·.dst) :=
  List.mem_filterMap.2 ⟨o, List.mem_of_getElem? h, hd⟩

def VcOK (P : Program) (glb : Nat → Option GV) (Bk X0 : Nat → Prop) (w0 : World) (F : Fence) (n : Nat) (S : Stat) (an : Nat → Items) (c : Code) : Prop :=
  ∀ (st : St) (ρ : Lab) (a : Act) (W : World) (K : Xt → St → Prop), Mt P glb Bk X0 w0 st ρ a W → vc S an c st K → c.wpIn F n P (PostX P glb Bk X0 w0 st ρ (codeWrites c) K) a W

theorem loop_ok (hct : CtOK P glb S) (an : Nat → Items) (id : Nat) (body : Code) (ih : VcOK P glb Bk X0 w0 F n S an body) : VcOK P glb Bk X0 w0 F n S an (.block id (.loop body)) := by
  intro st ρ a W K m h
  simp only [vc] at h
  obtain ⟨hc, I, μ, h1, h2⟩ := chk_iff.1 h
  simp only [Bool.and_eq_true] at hc
  obtain ⟨⟨hln0, hnd⟩, hok⟩ := hc
  have fst0 : Frm st ((an id).pre st) (codeWrites body) := upds_frm _ _ _
  have m := (m.frz ((an id).frzL st) hln0).1
  change Mt P glb Bk X0 w0 ((an id).pre st) ρ a W at m
  clear h hln0
  refine wpIn_mono (Q := PostX P glb Bk X0 w0 ((an id).pre st) ρ (codeWrites body) K) ?_ (fun e a W hp => ?_)
  case refine_2 =>
    obtain ⟨x, st2, ρ2, hx, hk, hf, m2⟩ := hp
    exact ⟨x, st2, ρ2, hx, hk, ⟨fst0.trans hf.1, hf.2⟩, m2⟩
  revert h1 h2 hok hnd m
  generalize (an id).pre st = st
  intro h1 h2 hok hnd m
  have hA := m.ahead (an id) (codeWrites body)
  refine wpIn_block ?_
  let Inv : (an id).G → Act → World → Prop := fun g a W => (an id).app I g ∧ ∃ ρ', Mt P glb Bk X0 w0 ((an id).head st (codeWrites body) g) ρ' a W ∧ ρ.le ρ'
  refine wpIn_loop (fun a W => ∃ g, Inv g a W) (least Inv ((an id).app μ)) ?_ ?_
  · obtain ⟨g, ρh, hk, mh⟩ := m.head hct (an id) (codeWrites body) hA hnd hok h1
    exact ⟨g, hk, ρh, mh.1, fun l v hv => by rw [mh.2.1 l (m.dom l v hv)]; exact hv⟩
  · rintro a1 W1 ⟨g0, hg0⟩
    obtain ⟨g, ⟨hI, ρg, mg, hleg⟩, hμ⟩ := least_at (μ := (an id).app μ) hg0
    refine wpIn_mono (ih _ ρg a1 W1 _ mg (All_spec h2 g hI)) ?_
    rintro e a2 W2 ⟨xt, st2, ρ2, rfl, hk, hf, m2⟩
    have hfr : Frm st st2 (codeWrites body) ∧ ρ.le ρ2 := ⟨(head_frm g hok).trans hf.1, hleg.trans hf.2⟩
    cases xt with
    | norm =>
      obtain ⟨hkept0, hget⟩ := chk_iff.1 hk
      simp only [Bool.and_eq_true] at hkept0
      obtain ⟨hln2, hkept⟩ := hkept0
      have m2 := (m2.frz ((an id).frzL st2) hln2).1
      change Mt P glb Bk X0 w0 ((an id).pre st2) ρ2 a2 W2 at m2
      obtain ⟨g', ρ', ⟨hI', hlt⟩, m0, hold', _⟩ := m2.head hct (an id) (codeWrites body) (hA.next hok (hf.1.trans (upds_frm _ _ _)) hkept) hnd hok hget
      have m' := And.intro m0 (show ρ.le ρ' from fun l v hv => by rw [hold' l (m.dom l v hv)]; exact hfr.2 l v hv)
      refine ⟨⟨g', hI', ρ', m'⟩, ?_⟩
      rw [← hμ]
      exact Nat.lt_of_le_of_lt (least_le (I := Inv) ⟨hI', ρ', m'⟩) hlt
    | ret => exact ⟨.ret, st2, ρ2, rfl, hk, hfr, m2⟩
    | exit i =>
      show if i = id then _ else _
      by_cases hi : i = id
      · subst hi
        rw [if_pos rfl]
        have hk' : cond (Nat.beq i i) (K .norm st2) (K (.exit i) st2) := hk
        rw [Nat.beq_refl, cond_true] at hk'
        exact ⟨.norm, st2, ρ2, rfl, hk', hfr, m2⟩
      · rw [if_neg hi]
        have hk' : cond (Nat.beq i id) (K .norm st2) (K (.exit i) st2) := hk
        rw [beq_ne hi, cond_false] at hk'
        exact ⟨.exit i, st2, ρ2, rfl, hk', hfr, m2⟩

def VcAll (P : Program) (glb : Nat → Option GV) (S : Stat) (an : Nat → Items) (c : Code) : Prop :=
  ∀ (Bk X0 : Nat → Prop) (w0 : World) (F : Fence) (n : Nat), Wide F P → (F.round = none ∨ noRF c = true) → VcOK P glb Bk X0 w0 F n S an c

theorem seqC_ok {c : SC} {k : (A : Kd) → List A.T → Prop} (h : seqC c k) : ∃ A xs, c = .d (.seq A) xs ∧ k A xs := by
  unfold seqC at h
  split at h
  · exact ⟨_, _, rfl, h⟩
  · exact h.elim

structure RfI (P : Program) (glb : Nat → Option GV) (Bk X0 : Nat → Prop) (w0 : World) (its : Items) (I : its.G → Prop) (st : St) (ρ : Lab) (tmps : Array Value) (W : World) (Ds : List Nat) (l : Nat) (r : Loop) (Ib Eb : Nat → Prop) (W2 : World) : Prop where
  ex : ∃ g ρg, I g ∧ Mt P glb Bk (fun k => X0 k ∨ Ib k) w0 (its.head st [] g) ρg ⟨tmps, []⟩ W2 ∧ ρ.le ρg ∧ Evo (Xs st ρ X0) W (Xs (its.head st [] g) ρg (fun k => X0 k ∨ Ib k)) W2 ∧ ∀ l' he s v k, (its.head st [] g).hp l' = some (he, s) → ρg l' = some v → OwnB ρg he v k → ¬ Eb k
  lp : W2.heap[l]? = some (.loop r)
  dfr : ∀ D, D ∈ Ds → W2.heap[D]? = some (.deferred (some []))
  low : ∀ k, Ib k → l < k
  lowE : ∀ k, Eb k → l < k

structure RfX (P : Program) (glb : Nat → Option GV) (Bk X0 : Nat → Prop) (w0 : World) (KX : Xt → St → Prop) (st : St) (ρ : Lab) (tmps : Array Value) (Ds : List Nat) (l : Nat) (rd : Code → Loop) (Ib : Nat → Prop) (W2 : World) : Prop where
  ex : ∃ xt c st' ρ', ((xt = .ret ∧ c = .ret) ∨ ∃ i, xt = .exit i ∧ c = .exit i) ∧ KX xt st' ∧ Frm st st' [] ∧ ρ.le ρ' ∧ Mt P glb Bk (fun k => X0 k ∨ Ib k) w0 st' ρ' ⟨tmps, []⟩ W2 ∧ W2.heap[l]? = some (.loop (rd c))
  dfr : ∀ D, D ∈ Ds → W2.heap[D]? = some (.deferred (some []))
  low : ∀ k, Ib k → l < k

theorem turned_low {Ib I' : Nat → Prop} {l : Nat} (ht : Turned Ib W I' W') (hl : l < W.heap.size) (h : ∀ k, Ib k → l < k) : ∀ k, I' k → l < k := by
  intro k hk
  rcases ht.new k hk with h1 | h1
  · exact h k h1
  · omega

theorem turned_at {Ib I' : Nat → Prop} {l k : Nat} {o : Obj} (ht : Turned Ib W I' W') (h : ∀ k, Ib k → l < k) (hk : k ≤ l) (ho : W.heap[k]? = some o) (hm : ∀ es c, o ≠ .map es c) : W'.heap[k]? = some o :=
  (ht.keep k (Array.getElem?_eq_some_iff.1 ho).1 (fun hi => by have := h k hi; omega) (fun _ es c hc => by rw [ho] at hc; cases hc; exact (hm es c rfl).elim)).trans ho

theorem RfI.turned {its : Items} {I : its.G → Prop} {tmps : Array Value} {W0 : World} {Ds : List Nat} {l : Nat} {r : Loop} {Ib I' Eb E' : Nat → Prop} (h : RfI P glb Bk X0 w0 its I st ρ tmps W0 Ds l r Ib Eb W) (hte : TurnE Ib Eb W I' E' W') (hB : ∀ k, Bk k → k ≤ l) (hD : ∀ D, D ∈ Ds → D ≤ l) :
    RfI P glb Bk X0 w0 its I st ρ tmps W0 Ds l r I' E' W' := by
  have ht := hte.t
  have hlt := (Array.getElem?_eq_some_iff.1 h.lp).1
  obtain ⟨g, ρg, hI, m, hle, hev, hE⟩ := h.ex
  obtain ⟨m', ev'⟩ := m.turned (B := l + 1) ht (fun k hk => h.low k hk) (fun k hk => Nat.lt_succ_of_le (hB k hk)) DefOK.nil
  refine ⟨⟨g, ρg, hI, m', hle, hev.trans ev', fun l' he s v k h1 h2 h3 hk => ?_⟩, turned_at ht h.low (Nat.le_refl _) h.lp (fun _ _ h => (by cases h)), fun D hDm => turned_at ht h.low (hD D hDm) (h.dfr D hDm) (fun _ _ h => (by cases h)), turned_low ht hlt h.low, fun k hk => ?_⟩
  · rcases hte.new k hk with hk | hk
    · exact hE l' he s v k h1 h2 h3 hk
    · obtain ⟨v', hv', hok⟩ := m.hps l' he s h1
      rw [h2] at hv'; cases hv'
      have := (hok.lt h3).2
      omega
  · rcases hte.new k hk with hk | hk
    · exact h.lowE k hk
    · omega

theorem RfX.turned {KX : Xt → St → Prop} {tmps : Array Value} {Ds : List Nat} {l : Nat} {rd : Code → Loop} {Ib I' : Nat → Prop} (h : RfX P glb Bk X0 w0 KX st ρ tmps Ds l rd Ib W) (ht : Turned Ib W I' W') (hB : ∀ k, Bk k → k ≤ l) (hD : ∀ D, D ∈ Ds → D ≤ l) :
    RfX P glb Bk X0 w0 KX st ρ tmps Ds l rd I' W' := by
  obtain ⟨xt, c, st', ρ', hc, hk, hf, hle, m, hrec⟩ := h.ex
  have hlt := (Array.getElem?_eq_some_iff.1 hrec).1
  obtain ⟨m', ev'⟩ := m.turned (B := l + 1) ht (fun k hk => h.low k hk) (fun k hk => Nat.lt_succ_of_le (hB k hk)) DefOK.nil
  exact ⟨⟨xt, c, st', ρ', hc, hk, hf, hle, m', turned_at ht h.low (Nat.le_refl _) hrec (fun _ _ h => (by cases h))⟩, fun D hDm => turned_at ht h.low (hD D hDm) (h.dfr D hDm) (fun _ _ h => (by cases h)), turned_low ht hlt h.low⟩

theorem round_end {Bk0 : Nat → Prop} {w00 : World} {XI X1 Bk2 : Nat → Prop} {sth st3 : St} {ρg ρ3 : Lab} {tmps : Array Value} {ds0 : List Deferred} {a5 : Act} {L l : Nat} {r r2 : Loop} {W2 W4 W5 : World} {o : Obj}
    (m0 : Mt P glb Bk0 X0 w00 st ρ ⟨tmps, ds0⟩ W) (hev : Evo (Xs st ρ X0) W (Xs sth ρg XI) W2) (hle : ρ.le ρ3) (hn : st3.n = st.n)
    (mg : Mt P glb Bk XI w0 sth ρg ⟨tmps, []⟩ W2) (hBk2 : ∀ k, Bk2 k ↔ k < W2.heap.size ∧ ¬ OwnWr sth ρg k)
    (m5 : Mt P glb Bk2 X1 W4 st3 ρ3 a5 W5) (h24 : Bel (fun k => Bk2 k ∧ k ≠ l) W2 W4)
    (hl : W4.heap[l]? = some (.loop r)) (hlW2 : W2.heap[l]? = some (.loop r2)) (hl2 : Bk2 l) (hBl : ¬ Bk l) (hX1 : ∀ k, XI k → Xs st3 ρ3 X1 k)
    (hnl : noLn (strike st3 L).look st3.dom = true) :
    Mt P glb Bk XI w0 (backSt st L st3) ρ3 ⟨tmps, []⟩ (W5.putObj l o) ∧ Evo (Xs sth ρg XI) W2 (Xs (backSt st L st3) ρ3 XI) (W5.putObj l o) ∧ Bel (fun k => Bk2 k ∧ k ≠ l) W2 (W5.putObj l o) := by
  have hl5 : W5.heap[l]? = some (.loop r) := (m5.bel.block l hl2 (fun _ es c hc => by rw [hl] at hc; cases hc)).trans hl
  have other : ∀ {l' he s}, (strike st3 L).hp l' = some (he, s) → l' ≠ L ∧ st3.hp l' = some (he, s) := by
    intro l' he s h
    by_cases hl' : l' = L
    · subst hl'; rw [show (strike st3 l').hp = updf st3.hp l' none from rfl, updf_same] at h; cases h
    · rw [show (strike st3 L).hp = updf st3.hp L none from rfl, updf_other _ _ hl'] at h; exact ⟨hl', h⟩
  have nln : ∀ {l' he s}, l' ≠ L → st3.hp l' = some (he, s) → he.isLn = false := by
    intro l' he s hne h
    obtain ⟨v, hv, _⟩ := m5.hps l' he s h
    refine noLn_spec hnl l' (memL_iff.1 (m5.dom l' v hv)) he ?_
    show ((updf st3.hp L none) l').map (·.1) = some he
    rw [updf_other _ _ hne, h]; rfl
  have hBB : ∀ k, Bk k → Bk2 k := fun k hk => (hBk2 k).2 ⟨Nat.lt_of_lt_of_le (mg.bk k hk) mg.bel.size, fun ⟨l', he, s, v, h1, h2, h3, h4⟩ => (mg.nb l' he s v k h1 h2 h3).1 h4 hk⟩
  have hIB : ∀ k, XI k → Bk2 k := fun k hk => (hBk2 k).2 ⟨mg.x0 k hk, fun ⟨l', he, s, v, h1, h2, h3, h4⟩ => (mg.nb l' he s v k h1 h2 h3).2 hk⟩
  have same : Bel (fun k => Bk2 k ∧ k ≠ l) W2 (W5.putObj l o) := (h24.trans (m5.bel.mono fun k hk => hk.1)).trans
    ⟨rfl, rfl, rfl, by simp, fun k hk _ => World.putObj_heap_other hk.2, fun mm xs _ hg => GoodAt.keep hg fun k hk => World.putObj_heap_other (by rintro rfl; obtain ⟨_, _, hc⟩ := hk; rw [hl5] at hc; cases hc)⟩
  have hsz5 : W2.heap.size ≤ W5.heap.size := Nat.le_trans h24.size m5.bel.size
  have mA : Mt P glb (fun _ => False) X1 W5 st3 ρ3 a5 W5 := m5.reguard (fun _ h => h.elim) (.refl _ _) (fun _ _ _ _ _ _ _ _ _ h => h) (m5.dfr.noBk (fun _ h => h.elim))
  have mB := mA.putLoop hl5 (fun h => h) o
  have mC : Mt P glb Bk X1 w0 st3 ρ3 a5 (W5.putObj l o) := by
    refine mB.reguard mg.bk (mg.bel.trans (same.mono fun k hk => ⟨hBB k hk, fun hh => hBl (hh ▸ hk)⟩))
      (fun l' he s v k h1 h2 h3 h4 hk => (m5.nb l' he s v k h1 h2 h3).1 h4 (hBB k hk)) ?_
    refine (m5.dfr.keep (W' := W5.putObj l o) (fun D hD => World.putObj_heap_other (fun hh => ?_))).noBk hBB
    subst hh; rw [hl5] at hD; cases hD
  have mD : Mt P glb Bk XI w0 (strike st3 L) ρ3 a5 (W5.putObj l o) := by
    refine mC.struck ?_ (fun l' he s v k hne h1 h2 h3 hX => ?_) (fun k hk => ?_)
    · rintro k (h | ⟨l', he, s, v, h1, h2, h3⟩)
      · exact hX1 k h
      · exact .inr ⟨l', he, s, v, (other h1).2, h2, h3⟩
    · exact (m5.nb l' he s v k h1 h2 h3).1 (nln hne h1) (hIB k hX)
    · have := mg.x0 k hk
      simp only [World.putObj_size]; omega
  have ev : Evo (Xs sth ρg XI) W2 (Xs (strike st3 L) ρ3 XI) (W5.putObj l o) := by
    have ne : ∀ k, (∃ cs t fr, W2.heap[k]? = some (.cells cs t fr)) → k ≠ l := by
      rintro k ⟨cs, t, fr, hc⟩ rfl
      rw [hlW2] at hc; cases hc
    refine ⟨by simpa using hsz5, fun k hc hx => ?_, fun k hk hlt => ?_, mD.Xlt, fun mm xs hp hg => same.memo mm xs (hp.mono fun k hx hk hn => hn ⟨(hBk2 k).2 ⟨cells_lt hk, fun h => hx h.xs⟩, ne k hk⟩) hg⟩
    · exact same.block k ⟨(hBk2 k).2 ⟨cells_lt hc, fun h => hx (h.xs)⟩, ne k hc⟩ (noMap_cells hc)
    · rcases hk with hk | ⟨l', he, s, v, h1, h2, h3⟩
      · exact .inl hk
      · obtain ⟨hne, h1⟩ := other h1
        have hnb := (m5.nb l' he s v k h1 h2 h3).1 (nln hne h1)
        exact Classical.byContradiction fun hno => hnb ((hBk2 k).2 ⟨hlt, fun h => hno h.xs⟩)
  refine ⟨mD.retm (tm' := st.tm) (tmps' := tmps) (m0.size.trans hn.symm) (fun t => (m0.tms t).mono hle (hev.trans ev)) DefOK.nil, ev, same⟩

theorem sameStamp_some {a b : Option (HE × Nat)} {he : HE} {n : Nat} (h : sameStamp a b = true) (hb : b = some (he, n)) : ∃ he', a = some (he', n) := by
  subst hb
  cases a with
  | none => cases h
  | some p => obtain ⟨he', m⟩ := p; have := Nat.eq_of_beq_eq_true h; subst this; exact ⟨he', rfl⟩

theorem base_frm_back {st : St} {L : Nat} {st1 st2 st3 : St} {its : Items} {g : its.G} {wa wb : List Nat} (hok : its.ok st [] = true) (hoth : ∀ l, l ≠ L → st1.hp l = (its.head st [] g).hp l) (hcnt1 : st1.cnt = (its.head st [] g).cnt) (hn1 : st1.n = (its.head st [] g).n)
    (hf2 : Frm st1 st2 wa) (hf3 : Frm st2 st3 wb) : Frm st (backSt st L st3) [] := by
  have hh := head_frm (st0 := st) (wr := []) g hok
  refine ⟨hf3.n.trans (hf2.n.trans (hn1.trans hh.n)), Nat.le_trans hh.cnt (hcnt1 ▸ Nat.le_trans hf2.cnt hf3.cnt), fun _ _ => rfl, fun l he s h hs => ?_⟩
  have h' : updf st3.hp L none l = some (he, s) := h
  by_cases hl : l = L
  · subst hl; rw [updf_same] at h'; cases h'
  · rw [updf_other _ _ hl] at h'
    have e1 : st.cnt ≤ st1.cnt := by rw [hcnt1]; exact hh.cnt
    have h2 := hf3.hp l he s h' (Nat.le_trans hs (Nat.le_trans e1 hf2.cnt))
    have h1 := hf2.hp l he s h2 (Nat.le_trans hs e1)
    rw [hoth l hl] at h1
    exact hh.hp l he s h1 hs

theorem ahead_back {st : St} {L : Nat} {st1 st2 st3 : St} {its : Items} {g : its.G} {wa wb : List Nat} (hA : Ahead P st [] its st) (hLd : memL L st.dom = false) (hoth : ∀ l, l ≠ L → st1.hp l = (its.head st [] g).hp l) (hcnt1 : st1.cnt = (its.head st [] g).cnt) (hn1 : st1.n = (its.head st [] g).n)
    (hf2 : Frm st1 st2 wa) (hf3 : Frm st2 st3 wb) (hk : keptOK its.labs st1 st3 (its.labs ++ st.dom) = true) : Ahead P st [] its (backSt st L st3) := by
  refine ⟨hf3.n.trans (hf2.n.trans (hn1.trans rfl)), fun _ _ => rfl, fun l he s hb hl => ?_, hA.utm, hA.uhp⟩
  obtain ⟨hd, _, hs⟩ := hA.uhp l he s (base_some hb)
  have hne : l ≠ L := by rintro rfl; rw [hd] at hLd; cases hLd
  have hhd : st1.hp l = some (he, s) := (hoth l hne).trans ((hp_notlab hl).trans hb)
  show ∃ s', updf st3.hp L none l = some (he, s')
  rw [updf_other _ _ hne]
  rcases kept_spec hk l (by rw [memL_append, hd, Bool.or_true]) with h1 | h1
  · rw [hl] at h1; cases h1
  · obtain ⟨he', h3⟩ := sameStamp_some h1 hhd
    have e1 : s ≤ st1.cnt := by rw [hcnt1]; show s ≤ st.cnt + 1; omega
    have h2 := hf2.hp l he' s (hf3.hp l he' s h3 (Nat.le_trans e1 hf2.cnt)) e1
    rw [hhd] at h2; cases h2
    exact ⟨s, h3⟩

theorem rf_ok (hF : Wide F P) (hro : F.round = none) (hS : StatOK P S) (hct : CtOK P glb S) (hg : S.glb = glb) (an : Nat → Items) (id : Nat) (f : Operand) (ps : Array Tmp) (asg body : Code) (iha : VcAll P glb S an asg) (ihb : VcAll P glb S an body) :
    VcOK P glb Bk X0 w0 F n S an (.block id (.rangeFunc f ps asg body)) := by
  intro st ρ a W K m h
  simp only [vc] at h
  obtain ⟨hc, h⟩ := chk_iff.1 h
  simp only [Bool.and_eq_true, Bool.not_eq_true'] at hc
  obtain ⟨⟨⟨⟨⟨⟨hnd, hok⟩, hheap⟩, hnra⟩, hnrb⟩, hps⟩, hL⟩ := hc
  have hpsn : ∀ p, p ∈ ps.toList → p < st.n := fun p hp => by have := List.all_eq_true.1 hps p hp; simpa [Nat.blt_eq] using this
  rw [memL_append, Bool.or_eq_false_iff] at hL
  obtain ⟨c, hk, hv⟩ := oneC_ok h (ev_ok hS hg m 0 f)
  obtain ⟨A, xs, rfl, I, hget, hrounds, hend⟩ := seqC_ok hk
  obtain ⟨u, hu, _, _, hseq⟩ := hv
  cases hu
  have hA := m.ahead (an id) []
  refine wpIn_block (wpIn_rangeFunc fun fn hfn => ?_)
  rw [hro]
  obtain ⟨rec, hrec⟩ : ∃ rec : LoopState → Option Code → Loop, rec = fun st pe => { state := st, pending := pe, fn, tmps := a.tmps, params := ps, assign := asg, body, defers := W.heap.size } := ⟨_, rfl⟩
  obtain ⟨W1, hW1⟩ : ∃ W1, (W.alloc (.deferred (some []))).alloc (.loop (rec .ready none)) = W1 := ⟨_, rfl⟩
  have hL1 : W1.heap[W.heap.size + 1]? = some (.loop (rec .ready none)) := by
    rw [← hW1]; have := World.alloc_heap_new (W.alloc (.deferred (some []))) (.loop (rec .ready none)); rwa [World.size_alloc] at this
  have hK1 : W1.heap[W.heap.size]? = some (.deferred (some [])) := by
    rw [← hW1]; exact (Below.heap_alloc _ _ _ (by simp)).trans (World.alloc_heap_new W _)
  have hb1 : Below W.heap.size W W1 := by
    rw [← hW1]; exact (((Below.refl _ W).alloc (Nat.le_refl _) _).alloc (by simp) _)
  have hsz1 : W1.heap.size = W.heap.size + 2 := by rw [← hW1]; simp
  obtain ⟨l, hl⟩ : ∃ l, l = W.heap.size + 1 := ⟨_, rfl⟩
  rw [← hl] at hL1
  obtain ⟨Ds, hDs, hDnd, hDD⟩ := m.dfr
  have hDlt : ∀ D, D ∈ Ds → D < W.heap.size := fun D hD => (Array.getElem?_eq_some_iff.1 (hDD D hD).1).1
  have hBlt : ∀ k, Bk k → k < W.heap.size := fun k hk => Nat.lt_of_lt_of_le (m.bk k hk) m.bel.size
  have ev1 := m.evoBelow hb1
  have m1 := m.below hb1
  have m1' : Mt P glb Bk X0 w0 st ρ ⟨a.tmps, []⟩ W1 := m1.retm (tm' := st.tm) (tmps' := a.tmps) m1.size m1.tms DefOK.nil
  obtain ⟨gf, fi, cap, hfv, hent, hrun⟩ := hseq _ W1 ev1
  refine ⟨l, [{ target := .collected W.heap.size, args := #[] }], W1, { target := .fn (.func gf) cap, args := fi ++ #[.func (.yield l) #[] #[]] }, W1, gf,
    fi ++ #[.func (.yield l) #[] #[]] ++ cap, W1, ?_, ?_, fun f' _ => hF.fn f', ?_, fun hd => (by rw [hF.depth] at hd; cases hd), ?_⟩
  · rw [← hW1, hrec, hl]; exact run_enterLoop_outer _ _ _ _ _
  · simp only [resolve, hfv]
    simp [go_sem]
  · simp [invoke, go_sem, hent _ _]
  · obtain ⟨Q, hQ⟩ : ∃ Q, Q = Exit.inBlock id (PostX P glb Bk X0 w0 st ρ (codeWrites (.block id (.rangeFunc f ps asg body))) K) := ⟨_, rfl⟩
    rw [← hQ]
    obtain ⟨KX, hKX⟩ : ∃ KX : Xt → St → Prop, KX = fun xt st' => match xt with
      | .norm => False
      | .exit i => cond (Nat.beq i id) (K .norm st') (K (.exit i) st')
      | .ret => K .ret st' := ⟨_, rfl⟩
    have key := hrun 0 l (fun pre Ib Eb W2 => RfI P glb Bk X0 w0 (an id) (fun g => (an id).app (I pre) g) st ρ a.tmps W1 (W.heap.size :: Ds) l (rec .ready none) Ib Eb W2)
      (fun Ib W2 => RfX P glb Bk X0 w0 KX st ρ a.tmps (W.heap.size :: Ds) l (fun c => rec .done (some c)) Ib W2)
      (fun pre Ib Eb W2 I' E' W3 h ht => h.turned ht (fun k hk => by have := hBlt k hk; omega) (fun D hD => by
        rcases List.mem_cons.1 hD with rfl | hD
        · omega
        · have := hDlt D hD; omega))
      (fun Ib W2 I' W3 h ht => h.turned ht (fun k hk => by have := hBlt k hk; omega) (fun D hD => by
        rcases List.mem_cons.1 hD with rfl | hD
        · omega
        · have := hDlt D hD; omega))
      ?_ ?_
    · refine hF.calls _ _ _ _ _ ((callsIn_wide.1 key).mono ?_)
      have hne : ∀ D, D ∈ W.heap.size :: Ds → D ≠ l ∧ ¬ Bk D := by
        intro D hD
        rcases List.mem_cons.1 hD with rfl | hD
        · exact ⟨by omega, fun hb => by have := hBlt _ hb; omega⟩
        · exact ⟨by have := hDlt D hD; omega, (hDD D hD).2⟩
      have hdef : ∀ (W2 : World) (o : Obj), (∀ D, D ∈ W.heap.size :: Ds → W2.heap[D]? = some (.deferred (some []))) → DefOK Bk (W2.putObj l o) ([{ target := .collected W.heap.size, args := #[] }] ++ a.defers) := by
        intro W2 o hd
        refine ⟨W.heap.size :: Ds, by rw [hDs]; rfl, List.nodup_cons.2 ⟨fun hm => by have := hDlt _ hm; omega, hDnd⟩, fun D hD => ⟨(World.putObj_heap_other (hne D hD).1).trans (hd D hD), (hne D hD).2⟩⟩
      have hBl : ¬ Bk l := fun hb => by have := hBlt _ hb; omega
      have hsub : ∀ t, t ∈ ([] : List Nat) → t ∈ codeWrites (.block id (.rangeFunc f ps asg body)) := fun t ht => by simp at ht
      rintro e W2 ⟨⟨v, rfl⟩, Ib, Eb, hJ | hJ⟩
      · obtain ⟨g, ρg, hI, mg, hle, hev, hE⟩ := hJ.ex
        refine ⟨none, _, (by have := run_endLoop (P := P) hJ.lp (by rw [hrec]; simp); rw [hrec] at this; exact this), ?_⟩
        have mE := (mg.freeX (X0 := X0) (fun k hk => .inl hk)).putLoop hJ.lp hBl (.loop { rec .ready none with state := .exhausted })
        have mF := mE.retm (tm' := ((an id).head st [] g).tm) (tmps' := a.tmps) mE.size mE.tms (hdef W2 _ hJ.dfr)
        rw [hQ]
        exact ⟨.norm, (an id).head st [] g, ρg, rfl, All_spec hend g hI, ⟨(head_frm g hok).sub hsub, hle⟩, by rw [hrec] at mF; exact mF⟩
      · obtain ⟨xt, c, st', ρ', hc, hk, hf, hle, mg, hlp⟩ := hJ.ex
        refine ⟨some c, _, (by have := run_endLoop (P := P) hlp (by rw [hrec]; simp); rw [hrec] at this; exact this), ?_⟩
        have mE := (mg.freeX (X0 := X0) (fun k hk => .inl hk)).putLoop hlp hBl (.loop { rec .done (some c) with state := .exhausted })
        have mF := mE.retm (tm' := st'.tm) (tmps' := a.tmps) mE.size mE.tms (hdef W2 _ hJ.dfr)
        rw [hrec] at mF
        rw [hKX] at hk
        rcases hc with ⟨rfl, rfl⟩ | ⟨i, rfl, rfl⟩
        · refine wpIn_ret ?_
          rw [hQ]
          exact ⟨.ret, st', ρ', rfl, hk, ⟨hf.sub hsub, hle⟩, mF⟩
        · refine wpIn_exit ?_
          rw [hQ]
          show if i = id then _ else _
          have hk' : cond (Nat.beq i id) (K .norm st') (K (.exit i) st') := hk
          by_cases hi : i = id
          · subst hi
            rw [if_pos rfl]
            rw [Nat.beq_refl, cond_true] at hk'
            exact ⟨.norm, st', ρ', rfl, hk', ⟨hf.sub hsub, hle⟩, mF⟩
          · rw [if_neg hi]
            rw [beq_ne hi, cond_false] at hk'
            exact ⟨.exit i, st', ρ', rfl, hk', ⟨hf.sub hsub, hle⟩, mF⟩
    ·
      rintro pre x rest Ib Eb W2 vs hxs hJ hlow hIE hWs hvals
      obtain ⟨g, ρg, hIg, mg, hle, hev, hE⟩ := hJ.ex
      obtain ⟨st1, hst1, hvc⟩ := optK_ok (All_spec (hrounds pre x rest hxs) g hIg)
      have mr := mg.rebase
      have hLh : memL (id * 100 + 90) ((an id).head st [] g).dom = false := by show memL _ ((an id).labs ++ st.dom) = false; rw [memL_append, hL.1, hL.2]; rfl
      obtain ⟨ρ1, X1, hle1, m2, hoth, hcnt1, hn1, hX1, hLc⟩ := round_ok mr hLh (I := Ib) (fun k hk => .inr hk) hst1 (fun hgv => by rw [hgv] at hvals; exact hvals) (fun hgv => by
        rw [hgv] at hvals
        refine (Kd.stands P A).vals (Evo.mono mg.Xlt ?_) hvals
        intro k hx
        refine ⟨mg.Xlt k hx, ?_⟩
        rcases hx with (hx | hx) | ⟨l', he, s, v, h1, h2, h3⟩
        · refine .inr (fun hh => ?_)
          rcases hh with hh | hh
          · have := hJ.lowE k hh
            have := m.x0 k hx
            omega
          · exact hh.2 (.inl hx)
        · exact .inl hx
        · refine .inr (fun hh => ?_)
          rcases hh with hh | hh
          · exact hE l' he s v k h1 h2 h3 hh
          · exact hh.2 (hev.back k (.inr ⟨l', he, s, v, h1, h2, h3⟩) hh.1)) hpsn
      have hsz := roundSt_len hst1 hvals
      have hy := run_yield (P := P) (args := vs.toArray) hJ.lp (by rw [hrec]; simp [hsz])
      have htm : (((rec .ready none).params.zip vs.toArray).foldl (fun tmps (x : Nat × Value) => tmps.setIfInBounds x.1 x.2) (rec .ready none).tmps) = layTm a.tmps ps.toList vs := by
        rw [hrec, ← foldl_layTm, ← Array.foldl_toList]
        simp
      rw [htm] at hy
      obtain ⟨Bk2, hBk2⟩ : ∃ Bk2 : Nat → Prop, Bk2 = fun k => k < W2.heap.size ∧ ¬ OwnWr ((an id).head st [] g) ρg k := ⟨_, rfl⟩
      rw [← hBk2] at m2
      have hBi : ∀ k, Bk2 k ↔ k < W2.heap.size ∧ ¬ OwnWr ((an id).head st [] g) ρg k := fun k => by rw [hBk2]
      have notCells : ∀ {k : Nat} {o : Obj}, W2.heap[k]? = some o → (∀ cs t fr, o ≠ .cells cs t fr) → (∀ es c, o ≠ .map es c) → Bk2 k := by
        intro k o ho hno hno2
        refine (hBi k).2 ⟨(Array.getElem?_eq_some_iff.1 ho).1, fun ⟨l', he, s, v, h1, h2, h3, _⟩ => ?_⟩
        obtain ⟨v', hv', hok'⟩ := mg.hps l' he s h1
        rw [h2] at hv'; cases hv'
        exact hok'.no h3 ho hno hno2
      have hBl2 : Bk2 l := notCells hJ.lp (fun _ _ _ h => by cases h) (fun _ _ h => by cases h)
      have hfnr : rec .ready none = { state := .ready, pending := none, fn, tmps := a.tmps, params := ps, assign := asg, body, defers := W.heap.size } := by rw [hrec]
      refine ⟨fn, _, asg, body, (by rw [hfnr] at hy; exact hy), roundIn_of_wpIn trivial ?_⟩
      refine wpIn_mono (iha _ _ W2 (Fence.wide.inRound l) 0 (Wide.inRound P l) (.inr hnra) st1 ρ1 _ W2 _ m2 hvc) ?_
      rintro e a2 W3 ⟨y, st2, ρ2, rfl, hk2, hf2, m3⟩
      cases y with
      | exit i => exact hk2.elim
      | ret => exact hk2.elim
      | norm =>
      have hl3 : W3.heap[l]? = some (.loop (rec .ready none)) := (m3.bel.block l hBl2 (fun _ es c hc => by rw [hJ.lp] at hc; cases hc)).trans hJ.lp
      refine ⟨_, run_beginRound hl3 (by rw [hrec]), ?_⟩
      obtain ⟨W4, hW4⟩ : ∃ W4, W3.putObj l (.loop { rec .ready none with state := .busy }) = W4 := ⟨_, rfl⟩
      rw [hW4]
      have m4 : Mt P glb Bk2 X1 W4 st2 ρ2 a2 W4 := by
        have mA : Mt P glb (fun _ => False) X1 W3 st2 ρ2 a2 W3 := m3.reguard (fun _ h => h.elim) (.refl _ _) (fun _ _ _ _ _ _ _ _ _ h => h) (m3.dfr.noBk (fun _ h => h.elim))
        have mB := mA.putLoop hl3 (fun h => h) (.loop { rec .ready none with state := .busy })
        rw [hW4] at mB
        refine mB.reguard (fun k hk => ?_) (.refl _ _) (fun l' he s v k h1 h2 h3 h4 => (m3.nb l' he s v k h1 h2 h3).1 h4) ?_
        · have := m3.bk k hk
          have := m3.bel.size
          rw [← hW4, World.putObj_size]; omega
        · refine m3.dfr.keep (fun D hD => ?_)
          rw [← hW4]
          exact World.putObj_heap_other (fun hh => by subst hh; rw [hl3] at hD; cases hD)
      refine wpIn_mono (ihb Bk2 X1 W4 (Fence.wide.inRound l) 0 (Wide.inRound P l) (.inr hnrb) st2 ρ2 a2 W4 _ m4 hk2) ?_
      rintro e a5 W5 ⟨z, st3, ρ3, rfl, hk3, hf3, m5⟩
      obtain ⟨hck, hk3⟩ := chk_iff.1 hk3
      simp only [Bool.and_eq_true] at hck
      obtain ⟨hst, hnl⟩ := hck
      have hl4 : W4.heap[l]? = some (.loop { rec .ready none with state := .busy }) := by
        rw [← hW4]; exact World.putObj_heap_same (Array.getElem?_eq_some_iff.1 hl3).1
      have hl5 : W5.heap[l]? = some (.loop { rec .ready none with state := .busy }) := (m5.bel.block l hBl2 (fun _ es c hc => by rw [hl4] at hc; cases hc)).trans hl4
      have h24 : Bel (fun k => Bk2 k ∧ k ≠ l) W2 W4 := by
        rw [← hW4]
        exact (m3.bel.mono fun k hk => hk.1).trans ⟨rfl, rfl, rfl, by simp, fun k hk _ => World.putObj_heap_other hk.2, fun mm xs _ hg => GoodAt.keep hg fun k hk => World.putObj_heap_other (by rintro rfl; obtain ⟨_, _, hc⟩ := hk; rw [hl3] at hc; cases hc)⟩
      have hX13 : ∀ k, (X0 k ∨ Ib k) → Xs st3 ρ3 X1 k := by
        intro k hk
        rcases hLc with ⟨rfl, _⟩ | ⟨he, v, h1, h2, h3, rfl⟩
        · exact .inl hk
        · by_cases hb : ownBlk he v = some k
          · obtain ⟨he', h4⟩ := sameStamp_some hst h1
            have e1 : ((an id).head st [] g).cnt ≤ st1.cnt := by rw [hcnt1]; exact Nat.le_refl _
            have h5 := hf2.1.hp _ he' _ (hf3.1.hp _ he' _ h4 (Nat.le_trans e1 hf2.1.cnt)) e1
            rw [h1] at h5; cases h5
            exact .inr ⟨_, he, _, v, h4, hf3.2 _ _ (hf2.2 _ _ h3), .inl hb⟩
          · exact .inl ⟨hk, hb⟩
      have hle3 : ρ.le ρ3 := fun l' v hv => hf3.2 _ _ (hf2.2 _ _ (hle1 _ _ (hle _ _ hv)))
      have fin : ∀ (jump : Option Code), (Instr.endRound l jump).run P W5 = .ok (.bool jump.isNone) (W5.putObj l (.loop (rec (if jump.isNone then .ready else .done) jump))) ∧
          Mt P glb Bk (fun k => X0 k ∨ Ib k) w0 (backSt st (id * 100 + 90) st3) ρ3 ⟨a.tmps, []⟩ (W5.putObj l (.loop (rec (if jump.isNone then .ready else .done) jump))) ∧
          Evo (Xs ((an id).head st [] g) ρg (fun k => X0 k ∨ Ib k)) W2 (Xs (backSt st (id * 100 + 90) st3) ρ3 (fun k => X0 k ∨ Ib k)) (W5.putObj l (.loop (rec (if jump.isNone then .ready else .done) jump))) ∧
          (W5.putObj l (.loop (rec (if jump.isNone then .ready else .done) jump))).heap[l]? = some (.loop (rec (if jump.isNone then .ready else .done) jump)) ∧
          (∀ D, D ∈ W.heap.size :: Ds → (W5.putObj l (.loop (rec (if jump.isNone then .ready else .done) jump))).heap[D]? = some (.deferred (some []))) ∧
          Kept (Xs st ρ X0) W1 Eb W2 (W5.putObj l (.loop (rec (if jump.isNone then .ready else .done) jump))) := by
        intro jump
        have hr := run_endRound (P := P) jump hl5
        have hrr : ({ ({ rec .ready none with state := .busy } : Loop) with state := if jump.isNone then .ready else .done, pending := jump } : Loop) = rec (if jump.isNone then .ready else .done) jump := by rw [hrec]
        rw [hrr] at hr
        obtain ⟨mE, ev6, same⟩ := round_end (o := .loop (rec (if jump.isNone then .ready else .done) jump)) m1' hev hle3 (hf3.1.n.trans (hf2.1.n.trans (hn1.trans rfl))) mg hBi m5 h24 hl4 hJ.lp hBl2 (fun hb => by have := hBlt _ hb; omega) hX13 hnl
        have hneD : ∀ D, D ∈ W.heap.size :: Ds → D ≠ l := by
          intro D hD
          rcases List.mem_cons.1 hD with rfl | hD
          · omega
          · have := hDlt D hD; omega
        refine ⟨hr, mE, ev6, World.putObj_heap_same (Array.getElem?_eq_some_iff.1 hl5).1, fun D hD => (same.block D ⟨notCells (hJ.dfr D hD) (fun _ _ _ h => by cases h) (fun _ _ h => by cases h), hneD D hD⟩ (fun _ es c hc => by rw [hJ.dfr D hD] at hc; cases hc)).trans (hJ.dfr D hD), ?_⟩
        have ne : ∀ k, (∃ cs t fr, W2.heap[k]? = some (.cells cs t fr)) → k ≠ l := by
          rintro k ⟨cs, t, fr, hc⟩ rfl
          rw [hJ.lp] at hc; cases hc
        have inI : ∀ k, Eb k → Bk2 k ∧ k ≠ l := fun k hk => ⟨(hBi k).2 ⟨(hlow k hk).2, fun ⟨l', he, s, v, h1, h2, h3, _⟩ => hE l' he s v k h1 h2 h3 hk⟩, by have := hJ.lowE k hk; omega⟩
        have inO : ∀ k, (∃ cs t fr, W2.heap[k]? = some (.cells cs t fr)) → k < W1.heap.size → ¬ Xs st ρ X0 k → Bk2 k ∧ k ≠ l := fun k hc hlt hx => ⟨(hBi k).2 ⟨cells_lt hc, fun ho => hev.notIn hx hlt ho.xs⟩, ne k hc⟩
        refine ⟨same.os, same.tape, same.output, ev6.size, fun k hk hn => same.block k (inI k hk) hn, fun k hc hlt hx => same.block k (inO k hc hlt hx) (noMap_cells hc), fun mm xs hp hg => same.memo mm xs (hp.mono fun k hx hc hn => hx ?_) hg⟩
        rintro (h | h)
        · exact hn (inI k h)
        · exact hn (inO k hc h.1 h.2)
      have frmB : Frm st (backSt st (id * 100 + 90) st3) [] := base_frm_back (g := g) hok hoth hcnt1 hn1 hf2.1 hf3.1
      cases z with
      | norm =>
        obtain ⟨hkept, hget'⟩ := chk_iff.1 hk3
        obtain ⟨hr, mE, ev6, hlp6, hd6, hK6⟩ := fin none
        refine ⟨_, _, hr, .inl ⟨rfl, ?_, hK6⟩⟩
        obtain ⟨g', ρ', hI', mh', hold', hXh'⟩ := mE.head hct (an id) [] (ahead_back hA hL.2 hoth hcnt1 hn1 hf2.1 hf3.1 hkept) hnd hok hget'
        refine ⟨⟨g', ρ', hI', mh', fun l' v hv => by rw [hold' l' (m.dom l' v hv)]; exact hle3 l' v hv, (hev.trans ev6).trans (Evo.mono mh'.Xlt hXh'), fun l' he s v k h1 h2 h3 hk => ?_⟩, hlp6, hd6, hJ.low, hJ.lowE⟩
        rcases ev6.back k (hXh' k (.inr ⟨l', he, s, v, h1, h2, h3⟩)) (hlow k hk).2 with h | ⟨l2, he2, s2, v2, q1, q2, q3⟩
        · exact (mh'.nb l' he s v k h1 h2 h3).2 h
        · exact hE l2 he2 s2 v2 k q1 q2 q3 hk
      | exit i =>
        obtain ⟨hr, mE, ev6, hlp6, hd6, hK6⟩ := fin (some (.exit i))
        refine ⟨_, _, hr, .inr ⟨rfl, ⟨⟨.exit i, .exit i, _, ρ3, .inr ⟨i, rfl, rfl⟩, by rw [hKX]; exact hk3, frmB, hle3, mE, hlp6⟩, hd6, hJ.low⟩, hK6⟩⟩
      | ret =>
        obtain ⟨hr, mE, ev6, hlp6, hd6, hK6⟩ := fin (some .ret)
        refine ⟨_, _, hr, .inr ⟨rfl, ⟨⟨.ret, .ret, _, ρ3, .inl ⟨rfl, rfl⟩, by rw [hKX]; exact hk3, frmB, hle3, mE, hlp6⟩, hd6, hJ.low⟩, hK6⟩⟩
    ·
      obtain ⟨g, ρh, hI, mh, hold, hXh⟩ := m1'.head hct (an id) [] hA hnd hok hget
      have mi := mh.freeX (X0 := fun k => X0 k ∨ False) (fun k hk => hk.elim (fun h => h) False.elim)
      refine ⟨⟨g, ρh, hI, mi, fun l v hv => by rw [hold l (m.dom l v hv)]; exact hv, Evo.mono mi.Xlt (fun k hk => hXh k ?_), fun _ _ _ _ _ _ _ _ h => h⟩, hL1, fun D hD => ?_, fun k hk => hk.elim, fun k hk => hk.elim⟩
      · rcases hk with (hk | hk) | hk
        · exact .inl hk
        · exact hk.elim
        · exact .inr hk
      · rcases List.mem_cons.1 hD with rfl | hD
        · exact hK1
        · exact (hb1.block D (hDlt D hD)).trans (hDD D hD).1
theorem oneB_get {v : SV} {k : Bool → Prop} (h : oneB v k) : ∃ b, v = .mk false [.d .bool b] ∧ k b := by
  unfold oneB at h
  split at h
  · exact ⟨_, rfl, h⟩
  · exact h.elim
theorem known_eq {S : Stat} {st : St} {c : Operand} {b : Bool} (h : ev S st 0 c = .mk false [.d .bool b]) : known st c b = st := by
  cases c with
  | tmp t =>
    have h : st.tm t = .mk false [.d .bool b] := h
    have : updf st.tm t (.mk false [.d .bool b]) = st.tm := by
      funext i
      unfold updf
      cases hi : Nat.beq i t with
      | true => rw [Nat.eq_of_beq_eq_true hi]; exact h.symm
      | false => rfl
    exact congrArg (fun f => ({ st with tm := f } : St)) this
  | const => rfl
  | global => rfl
  | func => rfl
theorem rfOr {F : Fence} {x y z : Code} (h : F.round = none ∨ noRF z = true) (hz : noRF z = (noRF x && noRF y)) : (F.round = none ∨ noRF x = true) ∧ (F.round = none ∨ noRF y = true) := by
  rcases h with h | h
  · exact ⟨.inl h, .inl h⟩
  · rw [hz, Bool.and_eq_true] at h
    exact ⟨.inr h.1, .inr h.2⟩

def runR (S : Stat) (id : Nat) (ops : List Oper) (draw : Bool) (st : St) (k : St → Prop) : Prop :=
  match draw with
  | false => vcOps S ops (id * 100) ops 0 st k
  | true => runAny S ops (id * 100) st k
theorem vc_ok_all (hS : StatOK P S) (hct : CtOK P glb S) (hg : S.glb = glb) (an : Nat → Items) (c : Code) : VcAll P glb S an c ∧ (∀ b, c = .loop b → VcAll P glb S an b) ∧ ∀ f ps x y, c = .rangeFunc f ps x y → VcAll P glb S an x ∧ VcAll P glb S an y := by
  have no : ∀ {c : Code}, (∀ b, c ≠ .loop b) → (∀ f ps x y, c ≠ .rangeFunc f ps x y) → VcAll P glb S an c → VcAll P glb S an c ∧ (∀ b, c = .loop b → VcAll P glb S an b) ∧ ∀ f ps x y, c = .rangeFunc f ps x y → VcAll P glb S an x ∧ VcAll P glb S an y :=
    fun h1 h2 h => ⟨h, fun b hb => absurd hb (h1 b), fun f ps x y hb => absurd hb (h2 f ps x y)⟩
  induction c with
  | skip => refine no (fun _ h => by cases h) (fun _ _ _ _ h => by cases h) (fun Bk X0 w0 F n hF hrf st ρ a W K m h => wpIn_skip ⟨.norm, st, ρ, rfl, h, ⟨Frm.refl _ _, ρ.le_refl⟩, m⟩)
  | exit id => refine no (fun _ h => by cases h) (fun _ _ _ _ h => by cases h) (fun Bk X0 w0 F n hF hrf st ρ a W K m h => wpIn_exit ⟨.exit id, st, ρ, rfl, h, ⟨Frm.refl _ _, ρ.le_refl⟩, m⟩)
  | ret => refine no (fun _ h => by cases h) (fun _ _ _ _ h => by cases h) (fun Bk X0 w0 F n hF hrf st ρ a W K m h => wpIn_ret ⟨.ret, st, ρ, rfl, h, ⟨Frm.refl _ _, ρ.le_refl⟩, m⟩)
  | region id ops draw =>
    refine no (fun _ h => by cases h) (fun _ _ _ _ h => by cases h) (fun Bk X0 w0 F n hF hrf st ρ a W K m h => ?_)
    have base : ∀ K' : Xt → St → Prop, runR S id ops.toList draw st (K' .norm) → (Code.region id ops draw).wpIn F n P (PostX P glb Bk X0 w0 st ρ (codeWrites (.region id ops draw)) K') a W := by
      intro K' h
      cases draw with
      | false =>
        refine wpIn_region_list ?_
        have := vcOps_ok (F := F) (n := n) hF hS hct hg ops.toList (id * 100) (K' .norm) (PostX P glb Bk X0 w0 st ρ (codeWrites (.region id ops false)) K') st ρ (codeWrites (.region id ops false)) (fun j o d ho hd => mem_filterMap_dst ho hd)
          (fun a W hp => let ⟨st', ρ', h1, h2, h3⟩ := hp; ⟨.norm, st', ρ', rfl, h1, h2, h3⟩) ops.toList 0 st ρ a W (fun j => by rw [Nat.zero_add]) ⟨Frm.refl _ _, ρ.le_refl⟩ m h
        simpa using this
      | true =>
        have h : runAny S ops.toList (id * 100) st (K' .norm) := h
        unfold runAny at h
        split at h
        · exact vcAny_ok hF hS hct hg id ops (id * 100) (K' .norm) _ (codeWrites (.region id ops true)) (fun j o d ho hd => mem_filterMap_dst ho hd) m h
            (fun a W hp => let ⟨st', ρ', h1, h2, h3⟩ := hp; ⟨.norm, st', ρ', rfl, h1, h2, h3⟩)
        · rename_i p _
          obtain ⟨hpv, h⟩ := chk_iff.1 h
          exact vcLook_ok hF hS hct hg id ops (id * 100) p (K' .norm) _ (codeWrites (.region id ops true)) (fun j o d ho hd => mem_filterMap_dst ho hd) m hpv h
            (fun a W hp => let ⟨st', ρ', h1, h2, h3⟩ := hp; ⟨.norm, st', ρ', rfl, h1, h2, h3⟩)
    have hj : joinS S (an (1000000 + id)) st (ops.toList.filterMap (·.dst)) (runR S id ops.toList draw st) (K .norm) := by
      cases draw with
      | false => exact h
      | true => exact h
    generalize an (1000000 + id) = its at hj
    cases its with
    | nil => exact base K hj
    | cons i r =>
      obtain ⟨hc, I, h1, h2⟩ := chk_iff.1 hj
      simp only [Bool.and_eq_true] at hc
      exact wpIn_mono (base (thruK K fun st' => chk (keptOK (Items.labs (i :: r) ++ Items.gone st (i :: r)) st st' (Items.labs (i :: r) ++ st.dom)) <| Items.get S (Items.kept (i :: r) st) st' (i :: r) [] fun g => Items.app (i :: r) I g) h1) (fun e a1 W1 hp => join_post hct m hc.1 hc.2 h2 hp)
  | seq x y ihx ihy =>
    refine no (fun _ h => by cases h) (fun _ _ _ _ h => by cases h) (fun Bk X0 w0 F n hF hrf st ρ a W K m h => ?_)
    refine wpIn_seq (wpIn_mono (ihx.1 Bk X0 w0 F n hF (rfOr hrf rfl).1 st ρ a W _ m h) ?_)
    rintro e a1 W1 ⟨xt, st1, ρ1, rfl, hk, hf, m1⟩
    have hfx : Frm st st1 (codeWrites x ++ codeWrites y) ∧ ρ.le ρ1 := ⟨hf.1.sub (fun t ht => List.mem_append.2 (.inl ht)), hf.2⟩
    cases xt with
    | norm =>
      refine wpIn_mono (ihy.1 Bk X0 w0 F n hF (rfOr hrf rfl).2 st1 ρ1 a1 W1 K m1 hk) ?_
      rintro e a2 W2 ⟨xt2, st2, ρ2, he, hk2, hf2, m2⟩
      exact ⟨xt2, st2, ρ2, he, hk2, ⟨hfx.1.trans (hf2.1.sub (fun t ht => List.mem_append.2 (.inr ht))), hfx.2.trans hf2.2⟩, m2⟩
    | exit i => exact ⟨.exit i, st1, ρ1, rfl, hk, hfx, m1⟩
    | ret => exact ⟨.ret, st1, ρ1, rfl, hk, hfx, m1⟩
  | cond c x y ihx ihy =>
    refine no (fun _ h => by cases h) (fun _ _ _ _ h => by cases h) (fun Bk X0 w0 F n hF hrf st ρ a W K m h => ?_)
    have base : ∀ K' : Xt → St → Prop, (oneB (ev S st 0 c) fun b => cnd b (vc S an x (known st c true) K') (vc S an y (known st c false) K')) → (Code.cond c x y).wpIn F n P (PostX P glb Bk X0 w0 st ρ (codeWrites (.cond c x y)) K') a W := by
      intro K h
      obtain ⟨b, he0, hk⟩ := oneB_get h
      obtain ⟨b', hbb, hv⟩ := oneB_ok (k := fun x => x = b) (by rw [he0]; exact rfl) (ev_ok hS hg m 0 c)
      obtain ⟨k1, k2⟩ := cnd_iff.1 hk
      subst hbb
      replace k1 : b' = true → vc S an x st K := fun hb => by have := k1 hb; rwa [← hb, known_eq he0] at this
      replace k2 : b' = false → vc S an y st K := fun hb => by have := k2 hb; rwa [← hb, known_eq he0] at this
      refine wpIn_cond_split hv (fun hb => ?_) (fun hb => ?_)
      · refine wpIn_mono (ihx.1 Bk X0 w0 F n hF (rfOr hrf rfl).1 st ρ a W K m (k1 hb)) ?_
        rintro e a1 W1 ⟨xt, st1, ρ1, he, hk, hf, m1⟩
        exact ⟨xt, st1, ρ1, he, hk, ⟨hf.1.sub (fun t ht => List.mem_append.2 (.inl ht)), hf.2⟩, m1⟩
      · refine wpIn_mono (ihy.1 Bk X0 w0 F n hF (rfOr hrf rfl).2 st ρ a W K m (k2 hb)) ?_
        rintro e a1 W1 ⟨xt, st1, ρ1, he, hk, hf, m1⟩
        exact ⟨xt, st1, ρ1, he, hk, ⟨hf.1.sub (fun t ht => List.mem_append.2 (.inr ht)), hf.2⟩, m1⟩
    simp only [vc] at h
    generalize an (2000000 + firstR x) = its at h
    cases its with
    | nil => exact base K h
    | cons i r =>
      obtain ⟨hc, I, h1, h2⟩ := chk_iff.1 h
      simp only [Bool.and_eq_true] at hc
      exact wpIn_mono (base _ h1) (fun e a1 W1 hp => join_post hct m hc.1 hc.2 h2 hp)
  | block id c ih =>
    refine no (fun _ h => by cases h) (fun _ _ _ _ h => by cases h) (fun Bk X0 w0 F n hF hrf => ?_)
    by_cases hc : ∃ b, c = .loop b
    · obtain ⟨b, rfl⟩ := hc
      exact loop_ok hct an id b (ih.2.1 b rfl Bk X0 w0 F n hF hrf)
    by_cases hrf2 : ∃ f ps x y, c = .rangeFunc f ps x y
    · obtain ⟨f, ps, x, y, rfl⟩ := hrf2
      have h2 := ih.2.2 f ps x y rfl
      exact rf_ok hF (hrf.resolve_right (by simp [noRF])) hS hct hg an id f ps x y h2.1 h2.2
    · intro st ρ a W K m h
      have hc2 : ∀ f ps x y, c ≠ .rangeFunc f ps x y := fun f ps x y hb => hrf2 ⟨f, ps, x, y, hb⟩
      have hc' : ∀ b, c ≠ .loop b := fun b hb => hc ⟨b, hb⟩
      rw [vc_block an id c K hc' hc2] at h
      refine wpIn_block (wpIn_mono (ih.1 Bk X0 w0 F n hF hrf st ρ a W _ m h) ?_)
      intro e a W hp
      refine block_post (id := id) (K := K) (wr := codeWrites c) ?_ ?_ ?_ ?_ e a W hp
      · exact fun e a W hp => hp
      · exact fun st' hk => hk
      · exact fun i st' hk => hk
      · exact fun st' hk => hk
  | loop c ih => exact ⟨fun Bk X0 w0 F n hF hrf st ρ a W K m h => h.elim, (fun b hb => by cases hb; exact fun Bk X0 w0 F n hF hrf => ih.1 Bk X0 w0 F n hF hrf), (fun f ps x y hb => by cases hb)⟩
  | rangeFunc f ps x y ihx ihy => exact ⟨fun Bk X0 w0 F n hF hrf st ρ a W K m h => h.elim, (fun b hb => by cases hb), (fun f ps x y hb => by cases hb; exact ⟨ihx.1, ihy.1⟩)⟩
  | scope c ih => refine no (fun _ h => by cases h) (fun _ _ _ _ h => by cases h) (fun Bk X0 w0 F n hF hrf st ρ a W K m h => h.elim)
  | label l => refine no (fun _ h => by cases h) (fun _ _ _ _ h => by cases h) (fun Bk X0 w0 F n hF hrf st ρ a W K m h => h.elim)
  | goto l => refine no (fun _ h => by cases h) (fun _ _ _ _ h => by cases h) (fun Bk X0 w0 F n hF hrf st ρ a W K m h => h.elim)
  | refuse s => refine no (fun _ h => by cases h) (fun _ _ _ _ h => by cases h) (fun Bk X0 w0 F n hF hrf st ρ a W K m h => h.elim)

theorem vc_ok (hF : Wide F P) (hrf : F.round = none) (hS : StatOK P S) (hct : CtOK P glb S) (hg : S.glb = glb) (an : Nat → Items) (c : Code) : VcOK P glb Bk X0 w0 F n S an c := (vc_ok_all hS hct hg an c).1 Bk X0 w0 F n hF (.inl hrf)
end
end Go.GX
set_option linter.unusedVariables false
namespace Go.GX
variable [Inhabited BaseD]
open Go.RowKit Go.Shelf Go.Proofs

theorem argsSV_length : ∀ (K : Kd) (x : K.T), (argsSV K x).length = K.ar
  | .pair A B, x => by simp [argsSV, Kd.ar, argsSV_length B]
  | .unit, _ => rfl
  | .agg K, x => rfl
  | .int k, x => rfl
  | .bool, x => rfl
  | .str, x => rfl
  | .sl e K, x => rfl
  | .nsl e K, x => rfl
  | .fn A R, x => rfl
  | .ptr t K, x => rfl
  | .seq A, x => rfl
  | .mem A, x => rfl

theorem tmOf_append (l1 l2 : List SV) : ∀ i, tmOf (l1 ++ l2) i = if i < l1.length then tmOf l1 i else tmOf l2 (i - l1.length) := by
  induction l1 with
  | nil => intro i; simp
  | cons s r ih =>
    intro i
    cases i with
    | zero => simp [tmOf]
    | succ i =>
      simp only [List.cons_append, tmOf, List.length_cons, Nat.succ_lt_succ_iff, Nat.add_sub_add_right]
      exact ih i

theorem tmOf_past : ∀ (l : List SV) (i : Nat), l.length ≤ i → tmOf l i = .any
  | [], i, _ => by cases i <;> rfl
  | s :: r, 0, h => by simp at h
  | s :: r, i + 1, h => tmOf_past r i (by simpa using h)

section
variable {P : Program} {glb : Nat → Option GV} {Bk X0 : Nat → Prop} {w0 : World} {st : St} {ρ : Lab} {a : Act} {W : World} {S : Stat}

def resOne (tmps : Array Value) : ResultVar → Sem Value
  | .tmp t => pure (tmps.getD t undef)
  | .cell c t => do loadVar t (← asAddr (tmps.getD c undef))

theorem resSV_ok (hS : StatOK P S) (m : Mt P glb Bk X0 w0 st ρ a W) (rv : ResultVar) (h : resSV S st rv ≠ .any) : ∃ v, (resOne a.tmps rv).run P W = .ok v W ∧ RepV P ρ (Xs st ρ X0) W (resSV S st rv) v := by
  cases rv with
  | tmp t => exact ⟨_, rfl, m.tms t⟩
  | cell c t =>
    simp only [resSV] at h ⊢
    cases hi : S.ty t with
    | none => rw [hi] at h; exact absurd rfl h
    | some i =>
      rw [hi] at h
      simp only at h ⊢
      have hv := m.tms c
      split at h
      · rename_i sc hsc
        rw [hsc] at hv
        obtain ⟨c', hc', hrc⟩ := hv
        cases hc'
        split at h
        · rename_i cs hcs
          cases hn : Nat.ble i.kd.n cs.length with
          | false => rw [hn] at h; exact absurd rfl h
          | true =>
            have hn := Nat.le_of_ble_eq_true hn
            simp only [cond_true]
            obtain ⟨ad, us, he, hr, hcell⟩ := cellsAt_ok m hcs hrc
            have hlen := hr.length
            have hsz := run_sizeOf hS hi W
            obtain ⟨harg, _, hagg⟩ := hS.ty t i hi
            have hagg := hagg W
            have hr' := hr.take i.kd.n
            cases hb : i.kd.isAgg with
            | true =>
              rw [hb] at hagg
              have hl : (loadCells ad (us.take i.kd.n).length).run P W = .ok (us.take i.kd.n).toArray W := run_loadCells_list W ad _ (fun j v hv => by
                rw [List.getElem?_take] at hv
                split at hv
                · exact hcell j v hv
                · cases hv)
              rw [List.length_take, Nat.min_eq_left (by omega)] at hl
              refine ⟨.agg (us.take i.kd.n).toArray, ?_, _, rfl, hr'⟩
              simp only [resOne, he]
              simp only [asAddr, loadVar, Sem.run_bind, Sem.run_pure, Result.andThen_ok, hagg, if_true, hsz, hl]
            | false =>
              rw [hb] at hagg
              have h1 := kd_n_one harg hb
              rw [h1] at hn hr' ⊢
              cases us with
              | nil => simp at hlen; omega
              | cons u us =>
                cases cs with
                | nil => simp at hn
                | cons c0 cs =>
                  obtain ⟨v0, vs0, hv0, hrc', _⟩ := hr
                  cases hv0
                  have hc0 := hcell 0 u rfl
                  rw [addZero] at hc0
                  refine ⟨u, ?_, c0, rfl, hrc'⟩
                  simp only [resOne, he]
                  simp [asAddr, loadVar, hagg, run_load, hc0]
        · exact absurd rfl h
      · exact absurd rfl h

theorem decArgs_any {d1 : (K : Kd) → SC → Option (K.T × List Nat)} : ∀ (K : Kd) (ss : List SV) (x : K.T) (ls : List Nat), decArgs d1 K ss = some (x, ls) → ∀ s, s ∈ ss → s ≠ .any := by
  have single : ∀ (K : Kd) (ss : List SV) (x : K.T) (ls : List Nat), decArg d1 K ss = some (x, ls) → ∀ s, s ∈ ss → s ≠ .any := by
    intro K ss x ls h s hs
    unfold decArg at h
    split at h
    · rcases List.mem_singleton.1 hs with rfl
      simp
    · cases h
  intro K
  induction K with
  | unit =>
    intro ss x ls h s hs
    cases ss with
    | nil => simp at hs
    | cons s' r => cases s' <;> cases h
  | pair A B ihA ihB =>
    intro ss x ls h s hs
    cases ss with
    | nil => simp at hs
    | cons s' r =>
      cases s' with
      | mk ag cs =>
        rcases List.mem_cons.1 hs with rfl | hs
        · simp
        · simp only [decArgs] at h
          split at h
          · split at h
            · rename_i y l hd
              cases hr : decArgs d1 B r with
              | none => rw [hr] at h; cases h
              | some q => exact ihB r q.1 q.2 hr s hs
            · cases h
          · cases h
      | any => cases h
      | tup l => cases h
  | _ => intro ss x ls h s hs; exact single _ ss x ls h s hs

theorem results_ok (hS : StatOK P S) (m : Mt P glb Bk X0 w0 st ρ a W) : ∀ (rs : List ResultVar), (∀ r, r ∈ rs → resSV S st r ≠ .any) →
    ∃ vs : List Value, (rs.mapM (resOne a.tmps)).run P W = .ok vs W ∧ RepVs P ρ (Xs st ρ X0) W (rs.map (resSV S st)) vs
  | [], _ => ⟨[], rfl, rfl⟩
  | r :: rs, h => by
    obtain ⟨v, h1, h2⟩ := resSV_ok hS m r (h r List.mem_cons_self)
    obtain ⟨vs, h3, h4⟩ := results_ok hS m rs (fun r' hr' => h r' (List.mem_cons_of_mem _ hr'))
    refine ⟨v :: vs, ?_, v, vs, rfl, h2, h4⟩
    rw [List.mapM_cons, Sem.run_bind, h1]
    simp only [Result.andThen_ok, Sem.run_bind, h3, Sem.run_pure]

theorem ret_of_vals {R : Kd} {X : Nat → Prop} {x : R.T} {vs : List Value} (h : (R.sem P).vals X W x vs) (hr : R.retOK = true) : (R.sem P).ret X W x (if h : vs.toArray.size = 1 then vs.toArray[0] else .tuple vs.toArray) := by
  cases R with
  | unit =>
    have h : vs = [] := h
    subst h
    rfl
  | pair A B =>
    obtain ⟨v, vs', rfl, h1, h2⟩ := h
    have hne : vs' ≠ [] := by
      intro hn
      subst hn
      cases B <;> first
        | (simp [Kd.retOK] at hr; done)
        | (obtain ⟨_, _, h, _⟩ := h2; cases h; done)
        | (obtain ⟨_, h, _⟩ := h2; cases h; done)
    have : ¬ (v :: vs').toArray.size = 1 := by
      cases vs' with
      | nil => exact absurd rfl hne
      | cons w r => simp
    rw [dif_neg this]
    exact ⟨v, vs', rfl, h1, h2⟩
  | agg K => obtain ⟨cs, rfl, h1⟩ := h; exact ⟨cs, rfl, h1⟩
  | int k => obtain ⟨v, rfl, h1⟩ := h; exact h1
  | bool => obtain ⟨v, rfl, h1⟩ := h; exact h1
  | str => obtain ⟨v, rfl, h1⟩ := h; exact h1
  | sl e K => obtain ⟨v, rfl, h1⟩ := h; exact h1
  | nsl e K => obtain ⟨v, rfl, h1⟩ := h; exact h1
  | fn A R => obtain ⟨v, rfl, h1⟩ := h; exact h1
  | ptr t K => obtain ⟨v, rfl, h1⟩ := h; exact h1
  | seq A => obtain ⟨v, rfl, h1⟩ := h; exact h1
  | mem A => obtain ⟨v, rfl, h1⟩ := h; exact h1
end

def takeAll (W : World) : List Nat → World
  | [] => W
  | D :: r => takeAll (W.putObj D (.deferred none)) r

theorem takeAll_leaves {F : Fence} {n : Nat} {P : Program} {fn : Func} {tmps : Array Value} {R : Ending → World → Prop} : ∀ (Ds : List Nat) (W : World), Ds.Nodup → (∀ D : Nat, D ∈ Ds → W.heap[D]? = some (Obj.deferred (some []))) →
    (∃ v, (results fn tmps).run P (takeAll W Ds) = .ok v (takeAll W Ds) ∧ R (.returned v) (takeAll W Ds)) → LeavesInM F n P fn tmps R (Ds.map fun D => ({ target := .collected D, args := #[] } : Deferred)) .returning W
  | [], W, _, _, h => h
  | D :: r, W, hn, hD, h => by
    obtain ⟨h1, h2⟩ := List.nodup_cons.1 hn
    refine ⟨by simp, .inl ⟨D, W.putObj D (.deferred none), rfl, run_takeDeferred (hD D List.mem_cons_self), takeAll_leaves r _ h2 (fun E hE => ?_) h⟩⟩
    rw [World.putObj_heap_other (by intro hh; subst hh; exact h1 hE)]
    exact hD E (List.mem_cons_of_mem _ hE)

theorem takeAll_spec : ∀ (Ds : List Nat) (W : World), (takeAll W Ds).heap.size = W.heap.size ∧ (takeAll W Ds).os = W.os ∧ (takeAll W Ds).tape = W.tape ∧ (takeAll W Ds).output = W.output ∧ ∀ k, k ∉ Ds → (takeAll W Ds).heap[k]? = W.heap[k]?
  | [], W => ⟨rfl, rfl, rfl, rfl, fun _ _ => rfl⟩
  | D :: r, W => by
    obtain ⟨h1, h2, h3, h4, h5⟩ := takeAll_spec r (W.putObj D (.deferred none))
    refine ⟨h1.trans (by simp [World.putObj]), h2, h3, h4, fun k hk => ?_⟩
    simp only [List.mem_cons, not_or] at hk
    exact (h5 k hk.2).trans (World.putObj_heap_other hk.1)

theorem decFresh_any {st : St} {R : Kd} {rs : List SV} {x : R.T} (h : decFresh st R rs = some x) : ∀ s, s ∈ rs → s ≠ .any := by
  intro s hs
  unfold decFresh at h
  split at h
  · rcases List.mem_singleton.1 hs with rfl; simp
  · rcases List.mem_singleton.1 hs with rfl; simp
  · cases h

theorem decFresh_ok {P : Program} {glb : Nat → Option GV} {X0 : Nat → Prop} {w0 : World} {st : St} {ρ : Lab} {a : Act} {W : World} (m : Mt P glb (fun k => k < w0.heap.size) X0 w0 st ρ a W) {R : Kd} {rs : List SV} {x : R.T} (h : decFresh st R rs = some x) {vs : List Value} (hv : RepVs P ρ (Xs st ρ X0) W rs vs) :
    (R.sem P).vals (fun k => k < w0.heap.size) W x vs := by
  unfold decFresh at h
  split at h
  · rename_i l
    obtain ⟨v, vs', rfl, ⟨c, hc, hcc⟩, hvs⟩ := hv
    have hvs : vs' = [] := hvs
    subst hvs
    cases hc
    obtain ⟨hρ, _⟩ := hcc
    split at h
    · rename_i nn e K' xs hl
      obtain ⟨s, hs⟩ := look_some hl
      cases hf : K'.flat with
      | false => rw [hf] at h; cases h
      | true =>
        rw [hf, cond_true] at h
        have hval : ∀ e : TypeId, ((Kd.sl e K').sem P).val (fun k => k < w0.heap.size) W xs v := by
          intro e'
          obtain ⟨A, cap, h1, h2, h3, h4⟩ := m.rowElems hs hρ
          refine ⟨A, cap, h1, h2, h3, fun hne => ?_⟩
          obtain ⟨g, rfl, hget⟩ := h4 hne
          have hnb := m.nb l _ s v g hs hρ (by rw [h1]; exact .inl rfl)
          obtain ⟨v2, hv2, hok⟩ := m.hps l _ s hs
          rw [hρ] at hv2; cases hv2
          have hlt := (hok.lt (k := g) (by rw [h1]; exact .inl rfl)).2
          refine ⟨_, rfl, hnb.1 rfl, hlt, fun j y hy => ?_⟩
          obtain ⟨ecs, k1, k2⟩ := hget j y hy
          exact ⟨ecs, Kd.flat_cells P K' hf k1, fun i u hu => by rw [plainAdd, Nat.zero_add]; exact k2 i u hu⟩
        split at h
        · rename_i e2 K
          split at h
          · rename_i hk
            subst hk
            cases h
            exact vals_one (hval e2) rfl
          · cases h
        · rename_i e2 K
          split at h
          · rename_i hk
            subst hk
            split at h
            · rename_i hnn
              cases h
              obtain ⟨v2, hv2, hok⟩ := m.hps l _ s hs
              rw [hρ] at hv2; cases hv2
              obtain ⟨a2, n2, c2, hv3⟩ := hok.2.2 hnn
              refine vals_one (K := .nsl e2 K') ?_ rfl
              show (some xs = none → v = Value.slice none 0 0) ∧ ∀ ys, some xs = some ys → _
              refine ⟨fun hx => (by cases hx), fun ys hy => ?_⟩
              cases hy
              obtain ⟨A, c, g1, g2, g3, g4⟩ := hval e2
              refine ⟨A, c, g1, ?_, g2, g3, g4⟩
              rw [hv3] at g1
              injection g1 with g1
              rw [← g1]
              simp
            · cases h
          · cases h
        · cases h
    · cases h
  · obtain ⟨v, vs', rfl, ⟨c, hc, hcc⟩, hvs⟩ := hv
    have hvs : vs' = [] := hvs
    subst hvs
    cases hc
    have hcc : v = .slice none 0 0 := hcc
    subst hcc
    split at h
    · cases h
      exact ⟨_, rfl, none, 0, rfl, Nat.le_refl _, by unfold maxLen; omega, fun h => absurd rfl h⟩
    · cases h
      exact ⟨_, rfl, fun _ => rfl, fun xs hx => by cases hx⟩
    · cases h
  · cases h

section
variable {P : Program}

theorem toList_nodup {o : Option Nat} : o.toList.Nodup := by cases o <;> simp

theorem mat_fp {W : World} {e e1 : TypeId} {K1 : Kd} {xs : List (List K1.T)} {us : List Value} {v : Value} (mo : MatOK P W e e1 K1 xs none us v) : (v.ownBlock.toList ++ us.flatMap fun u => u.ownBlock.toList).Nodup := by
  rw [List.nodup_append]
  refine ⟨toList_nodup, ?_, ?_⟩
  · have go : ∀ (ws : List Value), (∀ (j j' : Nat) u u' k, j ≠ j' → ws[j]? = some u → ws[j']? = some u' → u.ownBlock = some k → u'.ownBlock ≠ some k) → (ws.flatMap fun u => u.ownBlock.toList).Nodup := by
      intro ws
      induction ws with
      | nil => intro _; simp
      | cons w r ih =>
        intro h
        rw [List.flatMap_cons, List.nodup_append]
        refine ⟨toList_nodup, ih (fun j j' u u' k hne hj hj' => h (j + 1) (j' + 1) u u' k (by omega) (by simpa using hj) (by simpa using hj')), fun k hk k' hk' hkk => ?_⟩
        subst hkk
        obtain ⟨u, hu, hku⟩ := List.mem_flatMap.1 hk'
        obtain ⟨j, hj⟩ := List.getElem?_of_mem hu
        have h1 : w.ownBlock = some k := by simpa using hk
        have h2 : u.ownBlock = some k := by simpa using hku
        exact h 0 (j + 1) w u k (by omega) rfl (by simpa using hj) h1 h2
    exact go us (fun j j' u u' k hne hj hj' => mo.dis j j' u u' k hne hj hj' rfl rfl)
  · intro k hk k' hk' hkk
    subst hkk
    obtain ⟨u, hu, hku⟩ := List.mem_flatMap.1 hk'
    obtain ⟨j, hj⟩ := List.getElem?_of_mem hu
    exact mo.apart j u k hj rfl (by simpa using hku) (by simpa using hk)

def FpOf (st : St) (ρ : Lab) (ls : List Nat) (fp : List Nat) : Prop := ∀ k, k ∈ fp → ∃ l he s u, l ∈ ls ∧ st.hp l = some (he, s) ∧ ρ l = some u ∧ OwnB ρ he u k ∧ he.isLn = false

theorem slOwn_row {W : World} {e : TypeId} {K : Kd} {xs : List K.T} {v : Value} (h : InRow P W e K xs v) (hf : K.flat = true) (hn : 0 < K.n) : slOwn P W e K xs v v.ownBlock.toList := by
  cases K with
  | sl e1 K1 => simp [Kd.flat] at hf
  | agg K =>
    cases K with
    | sl e1 K1 => simp [Kd.flat] at hf
    | _ => exact ⟨h, hf, hn, rfl⟩
  | _ => exact ⟨h, hf, hn, rfl⟩

theorem decSlO_ok {P : Program} {glb : Nat → Option GV} {Bk X0 : Nat → Prop} {w0 : World} {st : St} {ρ : Lab} {a : Act} {W : World} {X : Nat → Prop} (m : Mt P glb Bk X0 w0 st ρ a W) {e : TypeId} {K : Kd} (hok : (Kd.sl e K).ownOK = true) {c : SC} {xs : List K.T} {ls : List Nat} {v : Value} (h : decSlO st.look e K c = some (xs, ls)) (hv : RepC P ρ X W c v) :
    ∃ fp, slOwn P W e K xs v fp ∧ (∃ A n q, v = .slice A n q) ∧ FpOf st ρ ls fp ∧ fp.Nodup := by
  unfold decSlO at h
  split at h
  · cases h
    have hv : v = .slice none 0 0 := hv
    subst hv
    have nilM : ∀ (e1 : TypeId) (K1 : Kd), (K1.flat && Nat.ble 1 K1.n) = true → MatOK P W e e1 K1 [] none [] (.slice none 0 0) := fun e1 K1 h => by
      simp only [Bool.and_eq_true] at h
      exact ⟨h.1, Nat.le_of_ble_eq_true h.2, rfl, ⟨[], World.ownsRow_nil W _ e 1, fun j u hj => by simp at hj⟩, fun j u xr hj => by simp at hj, fun j j' u u' k _ hj => by simp at hj, fun j u k hj => by simp at hj⟩
    refine ⟨[], ?_, ⟨_, _, _, rfl⟩, fun k hk => by simp at hk, List.nodup_nil⟩
    have row : ∀ K : Kd, (K.flat && Nat.ble 1 K.n) = true → slOwn P W e K ([] : List K.T) (.slice none 0 0) [] := fun K h => by
      simp only [Bool.and_eq_true] at h
      exact slOwn_row (v := .slice none 0 0) ⟨[], World.ownsRow_nil W _ e K.n, fun i x hx => by simp at hx⟩ h.1 (Nat.le_of_ble_eq_true h.2)
    cases K with
    | sl e1 K1 => exact ⟨[], nilM e1 K1 hok, rfl⟩
    | agg K =>
      cases K with
      | sl e1 K1 => exact ⟨[], nilM e1 K1 hok, rfl⟩
      | _ => exact row _ hok
    | _ => exact row _ hok
  · rename_i l
    obtain ⟨hρ, hsl⟩ := hv
    split at h
    · rename_i nn e' K' ys hl
      cases hb : (Nat.beq e' e && K'.flat) with
      | false => rw [hb] at h; cases h
      | true =>
        rw [hb, cond_true] at h
        simp only [Bool.and_eq_true] at hb
        obtain rfl := Nat.eq_of_beq_eq_true hb.1
        split at h
        · rename_i hK
          subst hK
          cases h
          obtain ⟨s, hs⟩ := look_some hl
          obtain ⟨v', hv', hok2⟩ := m.hps l _ s hs
          rw [hρ] at hv'; injection hv' with hv'; subst hv'
          obtain ⟨hpos, ⟨fl, ho, hc⟩, _⟩ := hok2
          refine ⟨v.ownBlock.toList, slOwn_row ⟨fl, ho, fun i x hi => Kd.flat_cells P _ hb.2 (hc i x hi)⟩ hb.2 hpos, hsl, fun k hk => ?_, toList_nodup⟩
          exact ⟨l, _, s, v, by simp, hs, hρ, by rw [ownB_row, ownBlk_row]; simpa using hk, rfl⟩
        · cases h
    · rename_i nn e' ag e1 K1 ys vl hl
      cases hb : Nat.beq e' e with
      | false => rw [hb] at h; cases h
      | true =>
        rw [hb, cond_true] at h
        obtain rfl := Nat.eq_of_beq_eq_true hb
        split at h
        · rename_i hK
          subst hK
          cases h
          obtain ⟨us, s, hs, hu, mo, _, _, _⟩ := m.matAt hl hρ
          refine ⟨v.ownBlock.toList ++ us.flatMap fun u => u.ownBlock.toList, ?_, hsl, fun k hk => ?_, mat_fp mo⟩
          · cases ag with
            | false =>
              refine ⟨us, ?_, rfl⟩
              have : ys.map (elX false e1 K1) = ys := List.map_id ys
              have h2 : castL rfl (ys.map (elX false e1 K1)) = ys := this
              rw [h2]; exact mo
            | true =>
              refine ⟨us, ?_, rfl⟩
              have : ys.map (elX true e1 K1) = ys := List.map_id ys
              have h2 : castL rfl (ys.map (elX true e1 K1)) = ys := this
              rw [h2]; exact mo
          · refine ⟨l, _, s, v, by simp, hs, hρ, (mat_own hu).2 ?_, rfl⟩
            rcases List.mem_append.1 hk with hk | hk
            · exact .inl (by simpa using hk)
            · obtain ⟨u, hu', hku⟩ := List.mem_flatMap.1 hk
              obtain ⟨j, hj⟩ := List.getElem?_of_mem hu'
              exact .inr ⟨j, u, rfl, hj, by simpa using hku⟩
        · cases h
    · cases h
  · cases h

theorem FpOf.app {st : St} {ρ : Lab} {l1 l2 f1 f2 : List Nat} (h1 : FpOf st ρ l1 f1) (h2 : FpOf st ρ l2 f2) : FpOf st ρ (l1 ++ l2) (f1 ++ f2) := by
  intro k hk
  rcases List.mem_append.1 hk with hk | hk
  · obtain ⟨l, he, s, u, a, b⟩ := h1 k hk; exact ⟨l, he, s, u, List.mem_append.2 (.inl a), b⟩
  · obtain ⟨l, he, s, u, a, b⟩ := h2 k hk; exact ⟨l, he, s, u, List.mem_append.2 (.inr a), b⟩

theorem FpOf.nodup {P : Program} {glb : Nat → Option GV} {Bk X0 : Nat → Prop} {w0 : World} {st : St} {ρ : Lab} {a : Act} {W : World} (m : Mt P glb Bk X0 w0 st ρ a W) {l1 l2 f1 f2 : List Nat} (h1 : FpOf st ρ l1 f1) (h2 : FpOf st ρ l2 f2) (hn : (l1 ++ l2).Nodup) (n1 : l1.Nodup → f1.Nodup) (n2 : l2.Nodup → f2.Nodup) : (f1 ++ f2).Nodup := by
  obtain ⟨a1, a2, a3⟩ := List.nodup_append.1 hn
  refine List.nodup_append.2 ⟨n1 a1, n2 a2, fun k hk k' hk' hkk => ?_⟩
  subst hkk
  obtain ⟨l, he, s, u, q1, q2, q3, q4, _⟩ := h1 k hk
  obtain ⟨l', he', s', u', p1, p2, p3, p4, _⟩ := h2 k hk'
  have := m.dis l l' he he' s s' u u' k q2 p2 q3 p3 q4 p4
  exact a3 l q1 l' p1 this

theorem flOwn_pair {W : World} {A B : Kd} {x : (Kd.pair A B).T} {c1 c2 : List Value} {f1 f2 : List Nat} (h1 : flOwn P W A x.1 c1 f1) (h2 : flOwn P W B x.2 c2 f2) : flOwn P W (.pair A B) x (c1 ++ c2) (f1 ++ f2) := ⟨c1, c2, f1, f2, rfl, rfl, h1, h2⟩
theorem flOwn_sl {W : World} {e : TypeId} {K : Kd} {xs : List K.T} {v : Value} {fp : List Nat} (h1 : ∃ A n q, v = .slice A n q) (h2 : slOwn P W e K xs v fp) : flOwn P W (.sl e K) xs [v] fp := ⟨v, rfl, h1, h2⟩

theorem decsO_pairEq {S : Stat} {look : Nat → Option HE} {A B : Kd} {cs : List SC} : decsO S look (.pair A B) cs = (match decsO S look A cs with
    | some (x, r, l) => match decsO S look B r with
      | some (y, r', l') => some ((x, y), r', l ++ l')
      | none => none
    | none => none) := rfl

theorem decsO_slEq {S : Stat} {look : Nat → Option HE} {e : TypeId} {K : Kd} {c : SC} {r : List SC} : decsO S look (.sl e K) (c :: r) = (decSlO look e K c).map fun p => (p.1, r, p.2) := rfl

theorem decsO_pair {S : Stat} {look : Nat → Option HE} {A B : Kd} {cs : List SC} {x : (Kd.pair A B).T} {r : List SC} {ls : List Nat} (h : decsO S look (.pair A B) cs = some (x, r, ls)) : ∃ r1 l1 l2, decsO S look A cs = some (x.1, r1, l1) ∧ decsO S look B r1 = some (x.2, r, l2) ∧ ls = l1 ++ l2 := by
  rw [decsO_pairEq] at h
  split at h
  · rename_i x1 r1 l1 h1
    split at h
    · rename_i x2 r2 l2 h2
      have h3 := Option.some.inj h
      have e1 := congrArg Prod.fst h3
      have e2 := congrArg (fun p => p.2.1) h3
      have e3 := congrArg (fun p => p.2.2) h3
      have e1a := congrArg Prod.fst e1
      have e1b := congrArg Prod.snd e1
      simp only at e2 e3 e1a e1b
      rw [← e2, ← e3, ← e1a, ← e1b]
      exact ⟨r1, l1, l2, h1, h2, rfl⟩
    · cases h
  · cases h

theorem decsO_ok {P : Program} {glb : Nat → Option GV} {X0 Bk : Nat → Prop} {w0 : World} {st : St} {ρ : Lab} {a : Act} {W : World} {S : Stat} (m : Mt P glb Bk X0 w0 st ρ a W) (hct : CtOK P glb S) : ∀ (K : Kd) (cs : List SC) (x : K.T) (r : List SC) (ls : List Nat) (us : List Value), K.ownOK = true →
    decsO S st.look K cs = some (x, r, ls) → RepCs P ρ (Xs st ρ X0) W cs us → ∃ v1 v2 fp, us = v1 ++ v2 ∧ flOwn P W K x v1 fp ∧ RepCs P ρ (Xs st ρ X0) W r v2 ∧ FpOf st ρ ls fp ∧ (ls.Nodup → fp.Nodup) := by
  have leaf : ∀ (K : Kd) (cs : List SC) (x : K.T) (r : List SC) (ls : List Nat) (us : List Value), K.flat = true → (match decs (dec1 S st.look fuel) K cs with
      | some (x, r, []) => some (x, r, [])
      | _ => none) = some (x, r, ls) → RepCs P ρ (Xs st ρ X0) W cs us → ∃ v1 v2, us = v1 ++ v2 ∧ (K.sem P).cells (fun _ => False) W x v1 ∧ RepCs P ρ (Xs st ρ X0) W r v2 ∧ ls = [] := by
    intro K cs x r ls us hf h hr
    split at h
    · rename_i y r' hd
      cases h
      obtain ⟨v1, v2, e, h1, h2⟩ := decs_ok (Z := fun _ => false) (dec1_ok m hct fuel) K cs _ _ [] us hd hr (by simp)
      exact ⟨v1, v2, e, Kd.flat_cells P K hf h1, h2, rfl⟩
    · cases h
  intro K
  induction K with
  | pair A B ihA ihB =>
    intro cs x r ls us hok h hr
    simp only [Kd.ownOK, Bool.and_eq_true] at hok
    obtain ⟨r1, l1, l2, h1, h2, rfl⟩ := decsO_pair h
    obtain ⟨v1, v2, f1, e1, a1, b1, d1, n1⟩ := ihA cs x.1 r1 l1 us hok.1 h1 hr
    obtain ⟨v3, v4, f2, e2, a2, b2, d2, n2⟩ := ihB r1 x.2 r l2 v2 hok.2 h2 b1
    exact ⟨v1 ++ v3, v4, f1 ++ f2, by rw [e1, e2, List.append_assoc], flOwn_pair a1 a2, b2, d1.app d2, fun hn => FpOf.nodup m d1 d2 hn n1 n2⟩
  | agg K ih => intro cs x r ls us hok h hr; exact ih cs x r ls us hok h hr
  | sl e K ih =>
    intro cs x r ls us hok h hr
    cases cs with
    | nil => cases h
    | cons c rest =>
      rw [decsO_slEq] at h
      cases hd : decSlO st.look e K c with
      | none => rw [hd] at h; cases h
      | some p =>
        rw [hd] at h
        have h3 := Option.some.inj h
        have e1 := congrArg Prod.fst h3
        have e2 := congrArg (fun p => p.2.1) h3
        have e3 := congrArg (fun p => p.2.2) h3
        simp only at e1 e2 e3
        rw [← e2, ← e3, ← e1]
        obtain ⟨v, vs, rfl, h1, h2⟩ := hr
        obtain ⟨fp, a1, a2, a3, a4⟩ := decSlO_ok m hok (xs := p.1) (ls := p.2) hd h1
        exact ⟨[v], vs, fp, rfl, flOwn_sl a2 a1, h2, a3, fun _ => a4⟩
  | unit =>
    intro cs x r ls us hok h hr
    cases h
    exact ⟨[], us, [], rfl, ⟨rfl, rfl⟩, hr, fun k hk => by simp at hk, fun _ => List.nodup_nil⟩
  | int k =>
    intro cs x r ls us hok h hr
    obtain ⟨v1, v2, e, h1, h2, rfl⟩ := leaf (.int k) cs x r ls us rfl h hr
    exact ⟨v1, v2, [], e, ⟨h1, rfl⟩, h2, fun k hk => by simp at hk, fun _ => List.nodup_nil⟩
  | bool =>
    intro cs x r ls us hok h hr
    obtain ⟨v1, v2, e, h1, h2, rfl⟩ := leaf .bool cs x r ls us rfl h hr
    exact ⟨v1, v2, [], e, ⟨h1, rfl⟩, h2, fun k hk => by simp at hk, fun _ => List.nodup_nil⟩
  | str =>
    intro cs x r ls us hok h hr
    obtain ⟨v1, v2, e, h1, h2, rfl⟩ := leaf .str cs x r ls us rfl h hr
    exact ⟨v1, v2, [], e, ⟨h1, rfl⟩, h2, fun k hk => by simp at hk, fun _ => List.nodup_nil⟩
  | nsl e K ih => intro cs x r ls us hok; cases hok
  | fn A B ihA ihB => intro cs x r ls us hok; cases hok
  | ptr t K ih => intro cs x r ls us hok; cases hok
  | seq A ih => intro cs x r ls us hok; cases hok
  | mem A ih => intro cs x r ls us hok; cases hok

theorem valO_of {P : Program} {glb : Nat → Option GV} {X0 Bk : Nat → Prop} {w0 : World} {st : St} {ρ : Lab} {a : Act} {W : World} {S : Stat} (m : Mt P glb Bk X0 w0 st ρ a W) (hct : CtOK P glb S) {K : Kd} {ag : Bool} {cs : List SC} {x : K.T} {ls : List Nat} {v : Value} (hok : K.ownOK = true)
    (hk : (ag == K.isAgg && K.arg) = true) (hd : decsO S st.look K cs = some (x, [], ls)) (hv : RepV P ρ (Xs st ρ X0) W (.mk ag cs) v) : ∃ fp, valOwn P W K x v fp ∧ FpOf st ρ ls fp ∧ (ls.Nodup → fp.Nodup) := by
  simp only [Bool.and_eq_true, beq_iff_eq] at hk
  obtain ⟨ha, harg⟩ := hk
  cases ag with
  | false =>
    obtain ⟨c, rfl, hc⟩ := hv
    obtain ⟨v1, v2, fp, he, h1, h2, h3, h4⟩ := decsO_ok m hct K [c] x [] ls [v] hok hd ⟨v, [], rfl, hc, rfl⟩
    have : v2 = [] := h2
    subst this
    rw [List.append_nil] at he
    subst he
    exact ⟨fp, by unfold valOwn; rw [← ha]; exact h1, h3, h4⟩
  | true =>
    obtain ⟨vs, rfl, hc⟩ := hv
    obtain ⟨v1, v2, fp, he, h1, h2, h3, h4⟩ := decsO_ok m hct K cs x [] ls vs hok hd hc
    have : v2 = [] := h2
    subst this
    rw [List.append_nil] at he
    subst he
    exact ⟨fp, by unfold valOwn; rw [← ha]; exact ⟨vs, rfl, h1⟩, h3, h4⟩

theorem decArgsO_ok {P : Program} {glb : Nat → Option GV} {X0 Bk : Nat → Prop} {w0 : World} {st : St} {ρ : Lab} {a : Act} {W : World} {S : Stat} (m : Mt P glb Bk X0 w0 st ρ a W) (hct : CtOK P glb S) : ∀ (K : Kd) (ss : List SV) (x : K.T) (ls : List Nat) (vs : List Value), K.ownOK = true →
    decArgsO S st.look K ss = some (x, ls) → RepVs P ρ (Xs st ρ X0) W ss vs → (∃ fp, valsOwn P W K x vs fp ∧ FpOf st ρ ls fp ∧ (ls.Nodup → fp.Nodup)) ∧ ∀ s, s ∈ ss → s ≠ .any := by
  have single : ∀ (K : Kd) (ss : List SV) (x : K.T) (ls : List Nat) (vs : List Value), K.ownOK = true → decArgO S st.look K ss = some (x, ls) → RepVs P ρ (Xs st ρ X0) W ss vs →
      (∃ fp, (∃ v, vs = [v] ∧ valOwn P W K x v fp) ∧ FpOf st ρ ls fp ∧ (ls.Nodup → fp.Nodup)) ∧ ∀ s, s ∈ ss → s ≠ .any := by
    intro K ss x ls vs hok h hv
    unfold decArgO at h
    split at h
    · rename_i ag cs
      obtain ⟨v, vs', rfl, h1, h2⟩ := hv
      have : vs' = [] := h2
      subst this
      split at h
      · rename_i hk
        split at h
        · rename_i y l hd
          cases h
          obtain ⟨fp, a1, a2, a3⟩ := valO_of m hct hok hk hd h1
          refine ⟨⟨fp, ⟨v, rfl, a1⟩, a2, a3⟩, fun s hs => ?_⟩
          rcases List.mem_singleton.1 hs with rfl
          simp
        · cases h
      · cases h
    · cases h
  intro K
  induction K with
  | unit =>
    intro ss x ls vs hok h hv
    cases ss with
    | nil =>
      cases h
      exact ⟨⟨[], ⟨hv, rfl⟩, fun k hk => by simp at hk, fun _ => List.nodup_nil⟩, fun s hs => by simp at hs⟩
    | cons s r => cases s <;> cases h
  | pair A B ihA ihB =>
    intro ss x ls vs hok h hv
    simp only [Kd.ownOK, Bool.and_eq_true] at hok
    cases ss with
    | nil => cases h
    | cons s r =>
      cases s with
      | mk ag cs =>
        simp only [decArgsO] at h
        split at h
        · rename_i hk
          split at h
          · rename_i y l hd
            cases hr : decArgsO S st.look B r with
            | none => rw [hr] at h; cases h
            | some q =>
              obtain ⟨y2, l2⟩ := q
              rw [hr] at h
              cases h
              obtain ⟨v, vs', rfl, h1, h2⟩ := hv
              obtain ⟨f1, a1, d1, n1⟩ := valO_of m hct hok.1 hk hd h1
              obtain ⟨⟨f2, a2, d2, n2⟩, hany⟩ := ihB r y2 l2 vs' hok.2 hr h2
              refine ⟨⟨f1 ++ f2, ⟨v, vs', f1, f2, rfl, rfl, a1, a2⟩, d1.app d2, fun hn => FpOf.nodup m d1 d2 hn n1 n2⟩, fun s hs => ?_⟩
              rcases List.mem_cons.1 hs with rfl | hs
              · simp
              · exact hany s hs
          · cases h
        · cases h
      | any => cases h
      | tup l => cases h
  | nsl e K ih => intro ss x ls vs hok; cases hok
  | fn A B ihA ihB => intro ss x ls vs hok; cases hok
  | ptr t K ih => intro ss x ls vs hok; cases hok
  | seq A ih => intro ss x ls vs hok; cases hok
  | mem A ih => intro ss x ls vs hok; cases hok
  | _ => intro ss x ls vs hok h hv; exact single _ ss x ls vs hok h hv

theorem decArgsO_any {S : Stat} {look : Nat → Option HE} : ∀ (K : Kd) (ss : List SV) (x : K.T) (ls : List Nat), decArgsO S look K ss = some (x, ls) → ∀ s, s ∈ ss → s ≠ .any := by
  have single : ∀ (K : Kd) (ss : List SV) (x : K.T) (ls : List Nat), decArgO S look K ss = some (x, ls) → ∀ s, s ∈ ss → s ≠ .any := by
    intro K ss x ls h s hs
    unfold decArgO at h
    split at h
    · rcases List.mem_singleton.1 hs with rfl; simp
    · cases h
  intro K
  induction K with
  | unit =>
    intro ss x ls h s hs
    cases ss with
    | nil => simp at hs
    | cons s' r => cases s' <;> cases h
  | pair A B ihA ihB =>
    intro ss x ls h s hs
    cases ss with
    | nil => simp at hs
    | cons s' r =>
      cases s' with
      | mk ag cs =>
        rcases List.mem_cons.1 hs with rfl | hs
        · simp
        · simp only [decArgsO] at h
          split at h
          · split at h
            · rename_i y l hd
              cases hr : decArgsO S look B r with
              | none => rw [hr] at h; cases h
              | some q => exact ihB r q.1 q.2 hr s hs
            · cases h
          · cases h
      | any => cases h
      | tup l => cases h
  | nsl e K ih => intro ss x ls h; cases h
  | fn A B ihA ihB => intro ss x ls h; cases h
  | ptr t K ih => intro ss x ls h; cases h
  | seq A ih => intro ss x ls h; cases h
  | mem A ih => intro ss x ls h; cases h
  | _ => intro ss x ls h s hs; exact single _ ss x ls h s hs

theorem nodupL_nodup : ∀ {ls : List Nat}, nodupL ls = true → ls.Nodup
  | [], _ => List.nodup_nil
  | l :: r, h => by
    simp only [nodupL, Bool.and_eq_true, Bool.not_eq_true'] at h
    refine List.nodup_cons.2 ⟨fun hm => ?_, nodupL_nodup h.2⟩
    rw [memL_mem hm] at h; cases h.1

theorem retO_of_vals {W : World} {R : Kd} {x : R.T} {vs : List Value} {fp : List Nat} (h : valsOwn P W R x vs fp) (hr : R.retOK = true) : retOwn P W R x (if h : vs.toArray.size = 1 then vs.toArray[0] else .tuple vs.toArray) fp := by
  cases R with
  | unit =>
    obtain ⟨rfl, rfl⟩ := h
    exact ⟨rfl, rfl⟩
  | pair A B =>
    have h0 := h
    obtain ⟨v, vs', f1, f2, rfl, rfl, h1, h2⟩ := h
    have hne : vs' ≠ [] := by
      intro hn
      subst hn
      cases B <;> first
        | (simp [Kd.retOK] at hr; done)
        | (obtain ⟨_, _, _, _, h, _⟩ := h2; cases h; done)
        | (obtain ⟨_, h, _⟩ := h2; cases h; done)
    have : ¬ (v :: vs').toArray.size = 1 := by
      cases vs' with
      | nil => exact absurd rfl hne
      | cons w r => simp
    rw [dif_neg this]
    exact ⟨v :: vs', rfl, h0⟩
  | _ => obtain ⟨v, rfl, h1⟩ := h; exact h1

end

theorem Mt.taken {P : Program} {glb : Nat → Option GV} {Bk X0 : Nat → Prop} {w0 : World} {st : St} {ρ : Lab} {a : Act} {W : World} (m : Mt P glb Bk X0 w0 st ρ a W) {Ds : List Nat} (hD : ∀ D : Nat, D ∈ Ds → W.heap[D]? = some (Obj.deferred (some [])) ∧ ¬ Bk D) :
    Mt P glb Bk X0 w0 st ρ { a with defers := [] } (takeAll W Ds) := by
  obtain ⟨h1, h2, h3, h4, h5⟩ := takeAll_spec Ds W
  have notD : ∀ {k cs t fr}, W.heap[k]? = some (Obj.cells cs t fr) → k ∉ Ds := by
    intro k cs t fr hc hk
    rw [(hD k hk).1] at hc; cases hc
  have hmm : ∀ mm xs, GoodAt W mm xs → GoodAt (takeAll W Ds) mm xs := fun mm xs hg => GoodAt.keep hg fun k hk => h5 k (fun hm => by obtain ⟨_, _, hc⟩ := hk; rw [(hD k hm).1] at hc; cases hc)
  have ev : Evo (Xs st ρ X0) W (Xs st ρ X0) (takeAll W Ds) := ⟨by rw [h1]; exact Nat.le_refl _, fun k hk _ => (let ⟨_, _, _, hc⟩ := hk; h5 k (notD hc)), fun _ h _ => h, fun k hk => by rw [h1]; exact m.Xlt k hk, fun mm xs _ hg => hmm mm xs hg⟩
  refine ⟨m.size, DefOK.nil, fun t => (m.tms t).mono ρ.le_refl ev, fun l he s h => ?_, m.dis, fun k hk => by rw [h1]; exact m.x0 k hk, m.bk, m.bel.trans ⟨h2, h3, h4, by rw [h1]; exact Nat.le_refl _, fun k hk _ => h5 k (fun hm => (hD k hm).2 hk), fun mm xs _ hg => hmm mm xs hg⟩, m.nb, m.glb.evo ev, m.dom, m.stamp⟩
  obtain ⟨v, hv, hok⟩ := m.hps l he s h
  refine ⟨v, hv, hok.mono ρ.le_refl ev (fun k hk => ?_)⟩
  exact h5 k fun hm => hok.no hk (hD k hm).1 (fun _ _ _ h => by cases h) (fun _ _ h => by cases h)

theorem calls_of_vc {P : Program} {glb : Nat → Option GV} {S : Stat} (hS : StatOK P S) (hct : CtOK P glb S) (hg : S.glb = glb) (an : Nat → Items) {f : FuncId} {fn : Func} {c : Code} (hf : P.funcs[f]? = some fn) (hname : (fn.name == "runtime.NumGoroutine") = false) (hb : fn.body = some c) (ct : Ct)
    {x : ct.A.T} {y : ct.C.T} {Q : ct.R.T → Prop} (hvc : vcFunc S ct.own ct.fresh an fn c ct.A ct.C ct.R x y Q) {X : Nat → Prop} {W : World} {vs cs : List Value} (hX : ∀ k, X k → k < W.heap.size) (hglb : GlbOK P glb X W) (hvs : (ct.A.sem P).vals X W x vs) (hcs : (ct.C.sem P).vals X W y cs) :
    Calls P f (vs ++ cs).toArray W (PostM P ct.own ct.fresh ct.R X W Q) := by
  obtain ⟨hc0, hvc⟩ := chk_iff.1 hvc
  simp only [Bool.and_eq_true] at hc0
  obtain ⟨hn, hret⟩ := hc0
  have hn := Nat.le_of_ble_eq_true hn
  refine callsIn_wide.1 (callsIn_of_wp_marks (F := Fence.wide) (n := 0) hf hb trivial ?_)
  obtain ⟨l1, g1⟩ := RepV.of_vals (P := P) (ρ := fun _ => none) (X := X) (W := W) ct.A hvs
  obtain ⟨l2, g2⟩ := RepV.of_vals (P := P) (ρ := fun _ => none) (X := X) (W := W) ct.C hcs
  have hl1 : vs.length = ct.A.ar := by rw [← l1, argsSV_length]
  have hl2 : cs.length = ct.C.ar := by rw [← l2, argsSV_length]
  have hsz : (vs ++ cs).toArray.size = ct.A.ar + ct.C.ar := by simp [hl1, hl2]

  have hXs : ∀ k, Xs { n := fn.ntmps, tm := tmOf (argsSV ct.A x ++ argsSV ct.C y), hp := fun _ => none, cnt := 0, dom := [] } (fun _ => none) X k → X k := by
    rintro k (h | ⟨l, he, s, v, h, _⟩)
    · exact h
    · cases h
  have m : Mt P glb (fun k => k < W.heap.size) X W { n := fn.ntmps, tm := tmOf (argsSV ct.A x ++ argsSV ct.C y), hp := fun _ => none, cnt := 0, dom := [] } (fun _ => none) { tmps := (vs ++ cs).toArray ++ Array.replicate (fn.ntmps - (vs ++ cs).toArray.size) undef, defers := [] } W := by
    refine ⟨?_, DefOK.nil, fun t => ?_, fun l he s h => (by cases h), fun l l' he he' s s' v v' k h => (by cases h), hX, fun k hk => hk, .refl _ _, fun l he s v k h => (by cases h), ?_, fun l v h => (by cases h), fun l he s h => (by cases h)⟩
    · simp only [Array.size_append, Array.size_replicate, hsz]; omega
    · have hfin : RepV P (fun _ => none) X W (tmOf (argsSV ct.A x ++ argsSV ct.C y) t) (((vs ++ cs).toArray ++ Array.replicate (fn.ntmps - (vs ++ cs).toArray.size) undef).getD t undef) := by
        by_cases ht : t < (vs ++ cs).length
        · have hget : ((vs ++ cs).toArray ++ Array.replicate (fn.ntmps - (vs ++ cs).toArray.size) undef).getD t undef = (vs ++ cs)[t] := by
            rw [Array.getD_eq_getD_getElem?, Array.getElem?_append_left (by simpa using ht), List.getElem?_toArray, List.getElem?_eq_getElem ht]
            rfl
          rw [hget, tmOf_append]
          by_cases h1 : t < vs.length
          · rw [if_pos (by rw [l1]; exact h1)]
            refine g1 t _ ?_
            rw [List.getElem_append_left h1]
            exact List.getElem?_eq_getElem h1
          · rw [if_neg (by rw [l1]; exact h1), l1]
            refine g2 _ _ ?_
            rw [List.getElem_append_right (by omega)]
            exact List.getElem?_eq_getElem _
        · rw [tmOf_past _ t (by simp [l1, l2]; simp at ht; omega)]
          trivial
      exact hfin.mono (Lab.le_refl _) (Evo.mono (fun k hk => hX k (hXs k hk)) hXs)
    · exact hglb.evo (Evo.mono (fun k hk => hX k (hXs k hk)) hXs)
  refine wpIn_mono (vc_ok (Wide.wide P) rfl hS hct hg an c _ _ _ _ _ m hvc) ?_
  rintro e a' W' ⟨xt, st', ρ', rfl, hk, hf', m'⟩
  have fin : decEnd S ct.own ct.fresh st' ct.R (fn.results.toList.map (resSV S st')) Q → LeavesInM Fence.wide 0 P fn a'.tmps (PostM P ct.own ct.fresh ct.R X W Q) a'.defers .returning W' := by
    intro hk
    obtain ⟨Ds, hDs, hnd, hDD⟩ := m'.dfr
    rw [hDs]
    refine takeAll_leaves Ds W' hnd (fun D hD => (hDD D hD).1) ?_
    have m' := m'.taken hDD
    revert m'
    generalize takeAll W' Ds = W'
    intro m'
    have run : ∀ us : List Value, (fn.results.toList.mapM (resOne a'.tmps)).run P W' = .ok us W' → (results fn a'.tmps).run P W' = .ok (if h : us.toArray.size = 1 then us.toArray[0] else .tuple us.toArray) W' := by
      intro us hr
      have hm : fn.results.mapM (resOne a'.tmps) = (do pure (← fn.results.toList.mapM (resOne a'.tmps)).toArray) := by
        rw [Array.mapM_eq_mapM_toList]
        simp
      have hres : results fn a'.tmps = (do
          let vs ← fn.results.mapM (resOne a'.tmps)
          pure (if h : vs.size = 1 then vs[0] else .tuple vs)) := by
        unfold results
        congr 1
      rw [hres, hm]
      simp only [Sem.run_bind, hr, Result.andThen_ok, Sem.run_pure]
    have main : ct.own = false → (∀ rv, rv ∈ fn.results.toList → resSV S st' rv ≠ .any) → (∀ us, RepVs P ρ' (Xs st' ρ' X) W' (fn.results.toList.map (resSV S st')) us → ∃ r, Q r ∧ (ct.R.sem P).vals (frX ct.fresh X W) W' r us) →
        ∃ v, (results fn a'.tmps).run P W' = .ok v W' ∧ PostM P ct.own ct.fresh ct.R X W Q (.returned v) W' := by
      intro hown hany hd
      obtain ⟨us, hr, hrep⟩ := results_ok hS m' fn.results.toList hany
      obtain ⟨r, hQ, hvals⟩ := hd us hrep
      refine ⟨_, run us hr, ?_⟩
      rw [hown]
      exact ⟨r, _, rfl, ret_of_vals hvals hret, m'.bel, hQ⟩
    unfold decEnd at hk
    cases hown : ct.own with
    | true =>
      rw [hown] at hk
      obtain ⟨⟨r, ls⟩, hd, hk2⟩ := optK_ok hk
      obtain ⟨hc, hQ⟩ := chk_iff.1 hk2
      simp only [Bool.and_eq_true] at hc
      have hany := fun us hv => (decArgsO_ok m' hct ct.R _ r ls us hc.2 hd hv).2
      have noany : ∀ rv, rv ∈ fn.results.toList → resSV S st' rv ≠ .any := fun rv hrv => decArgsO_any ct.R _ r ls hd _ (List.mem_map_of_mem hrv)
      obtain ⟨us, hr, hrep⟩ := results_ok hS m' fn.results.toList noany
      obtain ⟨⟨fp, h1, h2, h3⟩, _⟩ := decArgsO_ok m' hct ct.R _ r ls us hc.2 hd hrep
      refine ⟨_, run us hr, r, _, fp, rfl, retO_of_vals h1 hret, h3 (nodupL_nodup hc.1), fun k hk => ?_, m'.bel, hQ⟩
      obtain ⟨l, he, s, u, _, q1, q2, q3, q4⟩ := h2 k hk
      exact Nat.le_of_not_lt ((m'.nb l he s u k q1 q2 q3).1 q4)
    | false =>
    rw [hown] at hk
    rw [hown] at main
    replace main := main rfl
    cases hfr : ct.fresh with
    | true =>
      rw [hfr] at hk
      obtain ⟨r, hd, hQ⟩ := optK_ok hk
      rw [hfr] at main
      exact main (fun rv hrv => decFresh_any hd _ (List.mem_map_of_mem hrv)) (fun us hrep => ⟨r, hQ, decFresh_ok m' hd hrep⟩)
    | false =>
      rw [hfr] at hk
      obtain ⟨⟨r, ls⟩, hd, hQ⟩ := optK_ok hk
      rw [hfr] at main
      refine main (fun rv hrv => decArgs_any ct.R _ r ls hd _ (List.mem_map_of_mem hrv)) (fun us hrep => ⟨r, hQ, ?_⟩)
      have hvals := decArgs_ok (Z := fun l => memL l ls) (dec1_ok m' hct fuel) ct.R _ r ls us hd hrep (fun l hl => memL_mem hl)
      exact (Kd.stands P ct.R).vals (Evo.mono (fun k hk => Nat.lt_of_lt_of_le (hX k hk) m'.bel.size) (fun k hk => .inl hk)) hvals
  cases xt with
  | norm => exact fin hk
  | ret => exact fin hk
  | exit i => exact hk.elim

end Go.GX
set_option linter.unusedVariables false
namespace Go.GX
variable [Inhabited BaseD]
open Go.RowKit Go.Shelf Go.Proofs

def zeroEq : Value → Value → Bool
  | .int .i8 0, .int .i8 0 | .int .i16 0, .int .i16 0 | .int .i32 0, .int .i32 0 | .int .i64 0, .int .i64 0 => true
  | .int .u8 0, .int .u8 0 | .int .u16 0, .int .u16 0 | .int .u32 0, .int .u32 0 | .int .u64 0, .int .u64 0 => true
  | .bool false, .bool false => true
  | .string s, .string t => Nat.beq s.size 0 && Nat.beq t.size 0
  | .slice none 0 0, .slice none 0 0 => true
  | .nilFunc, .nilFunc => true
  | .pointer none, .pointer none => true
  | .map none, .map none => true
  | _, _ => false

theorem bytes_empty {s : ByteArray} (h : s.size = 0) : s = ByteArray.empty := by
  cases s with
  | mk d =>
    have : d = #[] := Array.eq_empty_of_size_eq_zero h
    subst this
    rfl

theorem zeroEq_eq {a b : Value} (h : zeroEq a b = true) : a = b := by
  unfold zeroEq at h
  split at h <;> first | rfl | skip
  · simp only [Bool.and_eq_true] at h
    rw [bytes_empty (Nat.eq_of_beq_eq_true h.1), bytes_empty (Nat.eq_of_beq_eq_true h.2)]
  · cases h

def zerosEq : List Value → List Value → Bool
  | [], [] => true
  | a :: r, b :: s => zeroEq a b && zerosEq r s
  | _, _ => false

theorem zerosEq_eq : ∀ {a b : List Value}, zerosEq a b = true → a = b
  | [], [], _ => rfl
  | a :: r, b :: s, h => by
    simp only [zerosEq, Bool.and_eq_true] at h
    rw [zeroEq_eq h.1, zerosEq_eq h.2]
  | [], _ :: _, h => by cases h
  | _ :: _, [], h => by cases h

def aggB : Option TypeDesc → Bool → Bool
  | some (.struct _), b => b
  | some (.array _ _), b => b
  | some _, b => !b
  | none, _ => false

def tyB (P : Program) (t : TypeId) (i : TI) : Bool :=
  i.kd.arg && (match P.info? t with
    | some inf => Nat.beq inf.size i.kd.n && Nat.beq inf.bytes i.bytes && (match inf.zero with
      | some z => zerosEq z.cells.toList i.kd.zv
      | none => false)
    | none => false) && aggB (P.underlying t) i.kd.isAgg && (match i.kd with
    | .bool => (match P.underlying t with
      | some .bool => true
      | _ => false)
    | .int k => (match P.underlying t with
      | some (.int k') => decide (k' = k)
      | _ => false)
    | .str => (match P.underlying t with
      | some .string => true
      | _ => false)
    | _ => true)

def slB (P : Program) (t e : TypeId) : Bool :=
  match P.underlying t with
  | some (.slice e') => Nat.beq e' e
  | _ => false

def fldB (P : Program) (t f : Nat) (p : Nat × TypeId) : Bool :=
  cond (Nat.beq f 1000000) (match P.underlying t with
  | some (.array n e) => Nat.beq n p.1 && Nat.beq e p.2
  | _ => false) <|
  match P.underlying t with
  | some (.struct fs) => (match fs[f]? with
    | some fd => Nat.beq fd.offset p.1 && Nat.beq fd.type p.2
    | none => false) && fs.toList.all fun fd => (P.info? fd.type).isSome
  | _ => false

def eqfB (P : Program) : Nat → List Field → Bool
  | _, [] => true
  | i, fd :: r => (fd.name != "_") && Nat.beq fd.offset i && (match P.underlying fd.type with
    | some (.int _) => true
    | _ => false) && eqfB P (i + 1) r

def eqB1 (P : Program) (t n : Nat) : Bool := (match eqN P 20 t with
  | some m => Nat.beq m n
  | none => false) && !P.eqGuardType P.depth t && aggT P t
def eqB0 (P : Program) (t n : Nat) : Bool :=
  match P.underlying t with
  | some (.struct fs) => Nat.beq fs.size n && !P.stoodInHeld t && !P.eqGuardType P.depth t && eqfB P 0 fs.toList
  | some (.array m e) => Nat.beq m n && (P.info? e).isSome && Nat.beq (P.cellsOf e) 1 && !P.eqGuardType P.depth t && (match P.underlying e with
    | some (.int _) => true
    | _ => false)
  | _ => false

def eqB (P : Program) (t n : Nat) : Bool := cond (eqB1 P t n) true (eqB0 P t n)
theorem eqfB_spec {P : Program} : ∀ {fs : List Field} {i : Nat}, eqfB P i fs = true → ∀ (j : Nat) fd, fs[j]? = some fd → fd.name ≠ "_" ∧ fd.offset = i + j ∧ ∃ k, P.underlying fd.type = some (.int k)
  | fd0 :: r, i, h, j, fd, hj => by
    simp only [eqfB, Bool.and_eq_true, bne_iff_ne, ne_eq] at h
    obtain ⟨⟨⟨h1, h2⟩, h3⟩, h4⟩ := h
    cases j with
    | zero =>
      simp only [List.getElem?_cons_zero, Option.some.injEq] at hj
      subst hj
      refine ⟨h1, Nat.eq_of_beq_eq_true h2, ?_⟩
      split at h3
      · rename_i k hk; exact ⟨k, hk⟩
      · cases h3
    | succ j =>
      have := eqfB_spec h4 j fd (by simpa using hj)
      rwa [show i + 1 + j = i + (j + 1) by omega] at this

def statB (P : Program) (tyT : List (Nat × TI)) (slT : List (Nat × Nat)) (flT : List ((Nat × Nat) × (Nat × Nat))) (eqT : List (Nat × Nat)) : Bool :=
  P.follows .mixedOrders && eqT.all (fun p => eqB P p.1 p.2) && tyT.all (fun p => tyB P p.1 p.2) && slT.all (fun p => slB P p.1 p.2) && flT.all (fun p => fldB P p.1.1 p.1.2 p.2)

theorem assoc_mem {α : Type} : ∀ {l : List (Nat × α)} {n : Nat} {x : α}, assoc l n = some x → (n, x) ∈ l
  | [], n, x, h => by cases h
  | p :: r, n, x, h => by
    simp only [assoc] at h
    cases hb : Nat.beq p.1 n with
    | true =>
      rw [hb, cond_true] at h
      cases h
      have := Nat.eq_of_beq_eq_true hb
      subst this
      exact List.mem_cons_self
    | false =>
      rw [hb, cond_false] at h
      exact List.mem_cons_of_mem _ (assoc_mem h)

theorem assoc2_mem {α : Type} : ∀ {l : List ((Nat × Nat) × α)} {n m : Nat} {x : α}, assoc2 l n m = some x → ((n, m), x) ∈ l
  | [], n, m, x, h => by cases h
  | p :: r, n, m, x, h => by
    simp only [assoc2] at h
    cases hb : (Nat.beq p.1.1 n && Nat.beq p.1.2 m) with
    | true =>
      rw [hb, cond_true] at h
      cases h
      simp only [Bool.and_eq_true] at hb
      have h1 := Nat.eq_of_beq_eq_true hb.1
      have h2 := Nat.eq_of_beq_eq_true hb.2
      subst h1; subst h2
      exact List.mem_cons_self
    | false =>
      rw [hb, cond_false] at h
      exact List.mem_cons_of_mem _ (assoc2_mem h)

theorem statOK_of {P : Program} {tyT : List (Nat × TI)} {slT : List (Nat × Nat)} {flT : List ((Nat × Nat) × (Nat × Nat))} {eqT : List (Nat × Nat)} {mkT : List (Nat × (Nat × Nat))} {glT : List (Nat × GV)} {ctT : List (Nat × Ct)} {inls lits : List Nat} (h : statB P tyT slT flT eqT = true) : StatOK P (Stat.of tyT slT flT eqT mkT glT ctT inls lits) := by
  simp only [statB, Bool.and_eq_true, List.all_eq_true] at h
  obtain ⟨⟨⟨⟨h0, h4⟩, h1⟩, h2⟩, h3⟩ := h
  refine ⟨h0, fun t i hi => ?_, fun t e he => ?_, fun t p hp => (by cases hp), fun t n hn => ?_, fun t k b hb => ?_, fun t i hi => ?_, fun t b hb => ?_, fun t b hb => ?_, fun t f p hp => ?_, fun t p hp => ?_, fun t p hp => by cases hp⟩
  · have := h1 (t, i) (assoc_mem hi)
    simp only [tyB, Bool.and_eq_true] at this
    obtain ⟨⟨⟨g1, g2⟩, g3⟩, _⟩ := this
    refine ⟨g1, ?_, fun w => ?_⟩
    · cases hinf : P.info? t with
      | none => rw [hinf] at g2; cases g2
      | some inf =>
        rw [hinf] at g2
        simp only [Bool.and_eq_true] at g2
        obtain ⟨⟨k1, k2⟩, k3⟩ := g2
        cases hz : inf.zero with
        | none => rw [hz] at k3; cases k3
        | some z =>
          rw [hz] at k3
          exact ⟨inf, z, rfl, Nat.eq_of_beq_eq_true k1, Nat.eq_of_beq_eq_true k2, hz, zerosEq_eq k3⟩
    · cases hu : P.underlying t with
      | none => rw [hu] at g3; cases g3
      | some d =>
        rw [hu] at g3
        unfold Go.isAgg
        rw [Sem.run_bind, run_underlying hu w]
        cases d <;> first
          | (have g3' : i.kd.isAgg = true := g3; rw [g3']; rfl)
          | (have g3' : (!i.kd.isAgg) = true := g3; rw [Bool.not_eq_true'] at g3'; rw [g3']; rfl)
  · have := h2 (t, e) (assoc_mem he)
    simp only [slB] at this
    split at this
    · rename_i e' hu
      rw [hu, Nat.eq_of_beq_eq_true this]
    · cases this
  · have := h4 (t, n) (assoc_mem hn)
    simp only [eqB] at this
    cases hb1 : eqB1 P t n with
    | true =>
      simp only [eqB1, Bool.and_eq_true, Bool.not_eq_true'] at hb1
      obtain ⟨⟨g1, g2⟩, g3⟩ := hb1
      split at g1
      · rename_i m hm
        have := Nat.eq_of_beq_eq_true g1
        subst this
        exact .inr (.inr ⟨hm, g2, g3⟩)
      · cases g1
    | false =>
    rw [hb1, cond_false] at this
    simp only [eqB0] at this
    split at this
    · rename_i fs hu
      simp only [Bool.and_eq_true, Bool.not_eq_true'] at this
      obtain ⟨⟨⟨g1, g2⟩, g3⟩, g4⟩ := this
      refine .inl ⟨fs, hu, Nat.eq_of_beq_eq_true g1, g2, g3, fun i fd hi => ?_⟩
      have := eqfB_spec g4 i fd (by simpa using hi)
      rwa [Nat.zero_add] at this
    · rename_i m e hu
      simp only [Bool.and_eq_true, Bool.not_eq_true'] at this
      obtain ⟨⟨⟨⟨g1, g2⟩, g3⟩, g4⟩, g5⟩ := this
      obtain ⟨i, hi⟩ := Option.isSome_iff_exists.1 g2
      obtain rfl := Nat.eq_of_beq_eq_true g1
      split at g5
      · rename_i k hk
        exact .inr (.inl ⟨e, i, k, hu, hi, Nat.eq_of_beq_eq_true g3, g4, hk⟩)
      · cases g5
    · cases this
  · have := h1 (t, ⟨.int k, b⟩) (assoc_mem hb)
    simp only [tyB, Bool.and_eq_true] at this
    obtain ⟨_, g4⟩ := this
    split at g4
    · rename_i k' hu
      rw [hu, of_decide_eq_true g4]
    · cases g4
  · have := h1 (t, i) (assoc_mem hi)
    simp only [tyB, Bool.and_eq_true] at this
    obtain ⟨⟨_, g3⟩, _⟩ := this
    cases hu : P.underlying t with
    | none => rw [hu] at g3; cases g3
    | some d => rfl
  · have := h1 (t, ⟨.bool, b⟩) (assoc_mem hb)
    simp only [tyB, Bool.and_eq_true] at this
    obtain ⟨_, g4⟩ := this
    split at g4
    · rename_i hu; exact hu
    · cases g4
  · have := h1 (t, ⟨.str, b⟩) (assoc_mem hb)
    simp only [tyB, Bool.and_eq_true] at this
    obtain ⟨_, g4⟩ := this
    split at g4
    · rename_i hu; exact hu
    · cases g4
  · have hp : cond (Nat.blt f 1000000) (assoc2 flT t f) none = some p := hp
    cases hlt : Nat.blt f 1000000 with
    | false => rw [hlt] at hp; cases hp
    | true =>
    rw [hlt, cond_true] at hp
    have hne : Nat.beq f 1000000 = false := by
      cases he : Nat.beq f 1000000 with
      | false => rfl
      | true =>
        have := Nat.eq_of_beq_eq_true he
        subst this
        cases hlt
    have := h3 ((t, f), p) (assoc2_mem hp)
    simp only [fldB, hne, cond_false] at this
    split at this
    · rename_i fs hu
      simp only [Bool.and_eq_true, List.all_eq_true] at this
      obtain ⟨g1, g2⟩ := this
      cases hfd : fs[f]? with
      | none => rw [hfd] at g1; cases g1
      | some fd =>
        rw [hfd] at g1
        simp only [Bool.and_eq_true] at g1
        exact ⟨fs, fd, hu, hfd, Nat.eq_of_beq_eq_true g1.1, Nat.eq_of_beq_eq_true g1.2, fun fd' hfd' => g2 fd' (by simpa using hfd')⟩
    · cases this
  · have := h3 ((t, 1000000), p) (assoc2_mem hp)
    have this : (match P.underlying t with
      | some (.array n e) => Nat.beq n p.1 && Nat.beq e p.2
      | _ => false) = true := this
    split at this
    · rename_i n e hu
      simp only [Bool.and_eq_true] at this
      rw [hu, Nat.eq_of_beq_eq_true this.1, Nat.eq_of_beq_eq_true this.2]
    · cases this
end Go.GX
set_option linter.unusedVariables false
namespace Go.GX
variable [Inhabited BaseD]
open Go.RowKit Go.Shelf Go.Proofs

def AllOK (P : Program) (glb : Nat → Option GV) (l : List (Nat × Ct)) : Prop := ∀ f c, assoc l f = some c → CallsOK P glb f c
def AllMk (P : Program) (l : List (Nat × (Nat × Nat))) : Prop := ∀ f p, assoc l f = some p → MkOK P f p.1 p.2

theorem assoc_cons {α : Type} {p : Nat → α → Prop} {f : Nat} {c : α} {r : List (Nat × α)} (h : p f c) (hr : ∀ g d, assoc r g = some d → p g d) : ∀ g d, assoc ((f, c) :: r) g = some d → p g d := by
  intro g d hd
  simp only [assoc] at hd
  cases hb : Nat.beq f g with
  | true =>
    rw [hb, cond_true] at hd
    cases hd
    exact Nat.eq_of_beq_eq_true hb ▸ h
  | false =>
    rw [hb, cond_false] at hd
    exact hr g d hd

theorem AllOK.nil {P : Program} {glb : Nat → Option GV} : AllOK P glb [] := fun f c h => by cases h
theorem AllOK.cons {P : Program} {glb : Nat → Option GV} {f : Nat} {c : Ct} {r : List (Nat × Ct)} (h : CallsOK P glb f c) (hr : AllOK P glb r) : AllOK P glb ((f, c) :: r) := assoc_cons h hr
theorem AllMk.nil {P : Program} : AllMk P [] := fun f c h => by cases h
theorem AllMk.cons {P : Program} {f : Nat} {c : Nat × Nat} {r : List (Nat × (Nat × Nat))} (h : MkOK P f c.1 c.2) (hr : AllMk P r) : AllMk P ((f, c) :: r) := assoc_cons h hr

def AllInl (P : Program) (l : List Nat) : Prop := (∀ f, memL f l = true → f < 1000000 → InlOK P f) ∧ ∀ f, memL (f + 1000000) l = true → ClipOK P f
theorem AllInl.nil {P : Program} : AllInl P [] := ⟨fun f h => (by cases h), fun f h => (by cases h)⟩
theorem AllInl.cons {P : Program} {f : Nat} {r : List Nat} (h : InlOK P f) (hf : f < 1000000) (hr : AllInl P r) : AllInl P (f :: r) := by
  refine ⟨fun g hg hlt => ?_, fun g hg => ?_⟩
  · rw [memL_cons, Bool.or_eq_true] at hg
    rcases hg with hg | hg
    · exact Nat.eq_of_beq_eq_true hg ▸ h
    · exact hr.1 g hg hlt
  · rw [memL_cons, Bool.or_eq_true] at hg
    rcases hg with hg | hg
    · have := Nat.eq_of_beq_eq_true hg; omega
    · exact hr.2 g hg
theorem AllInl.clip {P : Program} {f : Nat} {r : List Nat} (h : ClipOK P f) (hr : AllInl P r) : AllInl P ((f + 1000000) :: r) := by
  refine ⟨fun g hg hlt => ?_, fun g hg => ?_⟩
  · rw [memL_cons, Bool.or_eq_true] at hg
    rcases hg with hg | hg
    · have := Nat.eq_of_beq_eq_true hg; omega
    · exact hr.1 g hg hlt
  · rw [memL_cons, Bool.or_eq_true] at hg
    rcases hg with hg | hg
    · have := Nat.eq_of_beq_eq_true hg
      obtain rfl : g = f := by omega
      exact h
    · exact hr.2 g hg
theorem AllInl.inlOK {P : Program} {l : List Nat} (h : AllInl P l) : ∀ f, (memL f l && Nat.blt f 1000000) = true → InlOK P f := by
  intro f hf
  simp only [Bool.and_eq_true, Nat.blt_eq] at hf
  exact h.1 f hf.1 hf.2

theorem ctOK_of {P : Program} {tyT : List (Nat × TI)} {slT : List (Nat × Nat)} {flT : List ((Nat × Nat) × (Nat × Nat))} {eqT : List (Nat × Nat)} {mkT : List (Nat × (Nat × Nat))} {glT : List (Nat × GV)} {ctT : List (Nat × Ct)} {inls lits : List Nat} (hct : AllOK P (assoc glT) ctT) (hmk : AllMk P mkT) (hin : AllInl P inls) : CtOK P (assoc glT) (Stat.of tyT slT flT eqT mkT glT ctT inls lits) := ⟨hct, hmk, hin.inlOK, hin.2, fun _ _ h => (by cases h), fun _ _ h => (by cases h), fun _ _ h => by cases h⟩

def AllMp (P : Program) (l : List (Nat × (Nat × Nat))) : Prop := ∀ t p, assoc l t = some p → KeyOK P t p
def AllItm (P : Program) (glb : Nat → Option GV) (l : List (Nat × ItM)) : Prop := ∀ f it, assoc l f = some it → ItmOK P glb f it
theorem AllMp.nil {P : Program} : AllMp P [] := fun f c h => by cases h
theorem AllMp.cons {P : Program} {f : Nat} {c : Nat × Nat} {r : List (Nat × (Nat × Nat))} (h : KeyOK P f c) (hr : AllMp P r) : AllMp P ((f, c) :: r) := assoc_cons h hr
theorem AllItm.nil {P : Program} {glb : Nat → Option GV} : AllItm P glb [] := fun f c h => by cases h
theorem AllItm.cons {P : Program} {glb : Nat → Option GV} {f : Nat} {c : ItM} {r : List (Nat × ItM)} (h : ItmOK P glb f c) (hr : AllItm P glb r) : AllItm P glb ((f, c) :: r) := assoc_cons h hr

theorem StatOK.more {P : Program} {S : Stat} (hS : StatOK P S) {mps : List (Nat × (Nat × Nat))} (hmp : AllMp P mps) (its : List (Nat × ItM)) : StatOK P ((S.withMp mps).withItm its) :=
  ⟨hS.mixed, hS.ty, hS.sl, hmp, hS.eq, hS.int, hS.dfd, hS.bool, hS.str, hS.fld, hS.arr, hS.mpi⟩

end Go.GX
set_option linter.unusedVariables false
namespace Go.GX
variable [Inhabited BaseD]
open Go.RowKit Go.Shelf Go.Proofs

abbrev rowLab : Nat := 7000000

def startW (n : Nat) (e : TypeId) (K A C : Kd) (ys : List K.T) (x : A.T) (y : C.T) : St :=
  { n := n, tm := tmOf (.mk false [.own rowLab] :: argsSV A x ++ argsSV C y), hp := fun l => cond (Nat.beq l rowLab) (some (.row false e K ys, 0)) none, cnt := 0, dom := [rowLab] }

def endW (S : Stat) (st : St) (e : TypeId) (K R : Kd) (rs : List SV) (Q : R.T → List K.T → Prop) : Prop :=
  match st.look rowLab with
  | some (.row _ e' K' zs) => chk (Nat.beq e' e) (if h : K' = K then optK (decRes S st R rs) fun r => Q r.1 (castL h zs) else False)
  | _ => False

def vcFuncW (S : Stat) (an : Nat → Items) (fn : Func) (c : Code) (w : CtW) (ys : List w.K.T) (x : w.A.T) (y : w.C.T) (Q : w.R.T → List w.K.T → Prop) : Prop :=
  chk (Nat.ble (1 + w.A.ar + w.C.ar) fn.ntmps && w.R.retOK && w.R.flat) <| vc S an c (startW fn.ntmps w.e w.K w.A w.C ys x y) fun e st =>
    match e with
    | .exit _ => False
    | .norm => endW S st w.e w.K w.R (fn.results.toList.map (resSV S st)) Q
    | .ret => endW S st w.e w.K w.R (fn.results.toList.map (resSV S st)) Q

theorem callsW_of_vc (hoff : memoOn = false) {P : Program} {glb : Nat → Option GV} {S : Stat} (hS : StatOK P S) (hct : CtOK P glb S) (hg : S.glb = glb) (an : Nat → Items) {f : FuncId} {fn : Func} {c : Code} (hf : P.funcs[f]? = some fn) (hname : (fn.name == "runtime.NumGoroutine") = false) (hb : fn.body = some c) (ct : CtW)
    {ys : List ct.K.T} {x : ct.A.T} {y : ct.C.T} {Q : ct.R.T → List ct.K.T → Prop} (hvc : vcFuncW S an fn c ct ys x y Q) {X : Nat → Prop} {W : World} {v : Value} {vs cs : List Value} (hX : ∀ k, X k → k < W.heap.size) (hown : ∀ k, v.ownBlock = some k → X k) (hglb : GlbOK P glb X W) (hrow : InRow P W ct.e ct.K ys v) (hn : 0 < ct.K.n) (hfl : ct.K.flat = true) (hvs : (ct.A.sem P).vals X W x vs) (hcs : (ct.C.sem P).vals X W y cs) :
    Calls P f (v :: vs ++ cs).toArray W (PostW P ct.e ct.K ct.R W v Q) := by
  obtain ⟨hc0, hvc⟩ := chk_iff.1 hvc
  simp only [Bool.and_eq_true] at hc0
  obtain ⟨⟨hnt, hret⟩, hRf⟩ := hc0
  have hnt := Nat.le_of_ble_eq_true hnt
  refine callsIn_wide.1 (callsIn_of_wp_marks (F := Fence.wide) (n := 0) hf hb trivial ?_)
  obtain ⟨l1, g1⟩ := RepV.of_vals (P := P) (ρ := fun _ => none) (X := X) (W := W) ct.A hvs
  obtain ⟨l2, g2⟩ := RepV.of_vals (P := P) (ρ := fun _ => none) (X := X) (W := W) ct.C hcs
  have hl1 : vs.length = ct.A.ar := by rw [← l1, argsSV_length]
  have hl2 : cs.length = ct.C.ar := by rw [← l2, argsSV_length]
  have hsz : (v :: vs ++ cs).toArray.size = 1 + ct.A.ar + ct.C.ar := by simp [hl1, hl2]; omega
  obtain ⟨st, hst⟩ : ∃ st, st = startW fn.ntmps ct.e ct.K ct.A ct.C ys x y := ⟨_, rfl⟩
  rw [← hst] at hvc
  obtain ⟨ρ, hρd⟩ : ∃ ρ : Lab, ρ = fun l => cond (Nat.beq l rowLab) (some v) none := ⟨_, rfl⟩
  have hρ0 : ρ rowLab = some v := by rw [hρd]; rfl
  have hρs : ∀ l u, ρ l = some u → l = rowLab ∧ u = v := by
    intro l u h
    rw [hρd] at h
    cases hb : Nat.beq l rowLab with
    | true => simp only [hb, cond_true] at h; cases h; exact ⟨Nat.eq_of_beq_eq_true hb, rfl⟩
    | false => simp only [hb, cond_false] at h; cases h
  have hhp : ∀ l he s, st.hp l = some (he, s) → l = rowLab ∧ he = .row false ct.e ct.K ys ∧ s = 0 := by
    intro l he s h
    rw [hst] at h
    simp only [startW] at h
    cases hb : Nat.beq l rowLab with
    | true => simp only [hb, cond_true] at h; cases h; exact ⟨Nat.eq_of_beq_eq_true hb, rfl, rfl⟩
    | false => simp only [hb, cond_false] at h; cases h
  have hob : ∀ {ρ' : Lab} {k : Nat}, OwnB ρ' (.row false ct.e ct.K ys) v k → v.ownBlock = some k := fun h => by
    rw [ownB_row, ownBlk_rowV] at h; exact h
  have hslice : ∃ a n c, v = .slice a n c := by
    obtain ⟨fl, ⟨_, ho⟩, _⟩ := hrow
    rcases ho with ⟨h, _⟩ | ⟨g, cap, cur, h, _⟩ <;> exact ⟨_, _, _, h⟩
  have hvlt : ∀ k, v.ownBlock = some k → k < W.heap.size := fun k hk => hX k (hown k hk)
  have hXs : ∀ k, Xs st ρ (fun k => X k ∧ v.ownBlock ≠ some k) k → X k := by
    rintro k (h | ⟨l, he, s, u, h1, h2, h3⟩)
    · exact h.1
    · obtain ⟨rfl, rfl, _⟩ := hhp l he s h1
      obtain ⟨_, rfl⟩ := hρs _ _ h2
      exact hown k (hob h3)
  have m : Mt P glb (fun k => k < W.heap.size ∧ v.ownBlock ≠ some k) (fun k => X k ∧ v.ownBlock ≠ some k) W st ρ { tmps := (v :: vs ++ cs).toArray ++ Array.replicate (fn.ntmps - (v :: vs ++ cs).toArray.size) undef, defers := [] } W := by
    refine ⟨?_, DefOK.nil, fun t => ?_, fun l he s h => ?_, fun l l' he he' s s' u u' k h h' _ _ _ _ => (hhp l he s h).1.trans (hhp l' he' s' h').1.symm, fun k hk => hX k hk.1, fun k hk => hk.1, .refl _ _, fun l he s u k h h2 h3 => ?_, ?_, fun l u h => ?_, fun l he s h => ?_⟩
    · rw [hst]
      simp only [startW, Array.size_append, Array.size_replicate, hsz]; omega
    · rw [hst]
      show RepV P ρ _ W (tmOf (.mk false [.own rowLab] :: (argsSV ct.A x ++ argsSV ct.C y)) t) _
      cases t with
      | zero =>
        have hget : ((v :: vs ++ cs).toArray ++ Array.replicate (fn.ntmps - (v :: vs ++ cs).toArray.size) undef).getD 0 undef = v := by
          rw [Array.getD_eq_getD_getElem?, Array.getElem?_append_left (by simp), List.getElem?_toArray]
          rfl
        rw [hget]
        exact ⟨_, rfl, hρ0, hslice⟩
      | succ t =>
        have hfin : RepV P (fun _ => none) X W (tmOf (argsSV ct.A x ++ argsSV ct.C y) t) (((v :: vs ++ cs).toArray ++ Array.replicate (fn.ntmps - (v :: vs ++ cs).toArray.size) undef).getD (t + 1) undef) := by
          by_cases ht : t < (vs ++ cs).length
          · have hget : ((v :: vs ++ cs).toArray ++ Array.replicate (fn.ntmps - (v :: vs ++ cs).toArray.size) undef).getD (t + 1) undef = (vs ++ cs)[t] := by
              rw [Array.getD_eq_getD_getElem?, Array.getElem?_append_left (by simp at ht ⊢; omega), List.getElem?_toArray, List.cons_append, List.getElem?_cons_succ, List.getElem?_eq_getElem ht]
              rfl
            rw [hget, tmOf_append]
            by_cases h1 : t < vs.length
            · rw [if_pos (by rw [l1]; exact h1)]
              refine g1 t _ ?_
              rw [List.getElem_append_left h1]
              exact List.getElem?_eq_getElem h1
            · rw [if_neg (by rw [l1]; exact h1), l1]
              refine g2 _ _ ?_
              rw [List.getElem_append_right (by omega)]
              exact List.getElem?_eq_getElem _
          · rw [tmOf_past _ t (by simp [l1, l2]; simp at ht; omega)]
            trivial
        rw [← hst]
        exact hfin.mono (fun l u h => by cases h) (Evo.mono (fun k hk => hX k (hXs k hk)) hXs)
    · obtain ⟨rfl, rfl, _⟩ := hhp l he s h
      exact ⟨v, hρ0, row_of_inRow hfl hn (fun h => by cases h) hrow⟩
    · obtain ⟨rfl, rfl, _⟩ := hhp l he s h
      obtain ⟨_, rfl⟩ := hρs _ _ h2
      have := hob h3
      exact ⟨fun _ hb => hb.2 this, fun hx => hx.2 this⟩
    · exact hglb.evo (Evo.mono (fun k hk => hX k (hXs k hk)) hXs)
    · obtain ⟨rfl, _⟩ := hρs l u h
      rw [hst]; rfl
    · rw [(hhp l he s h).2.2]; exact Nat.zero_le _
  refine wpIn_mono (vc_ok (Wide.wide P) rfl hS hct hg an c _ _ _ _ _ m hvc) ?_
  rintro e a' W' ⟨xt, st', ρ', rfl, hk, hf', m'⟩
  have hv' : ρ' rowLab = some v := hf'.2 _ _ hρ0
  have fin : endW S st' ct.e ct.K ct.R (fn.results.toList.map (resSV S st')) Q → LeavesInM Fence.wide 0 P fn a'.tmps (PostW P ct.e ct.K ct.R W v Q) a'.defers .returning W' := by
    intro hk
    obtain ⟨Ds, hDs, hnd, hDD⟩ := m'.dfr
    rw [hDs]
    refine takeAll_leaves Ds W' hnd (fun D hD => (hDD D hD).1) ?_
    have m' := m'.taken hDD
    revert m'
    generalize takeAll W' Ds = W'
    intro m'
    have run : ∀ us : List Value, (fn.results.toList.mapM (resOne a'.tmps)).run P W' = .ok us W' → (results fn a'.tmps).run P W' = .ok (if h : us.toArray.size = 1 then us.toArray[0] else .tuple us.toArray) W' := by
      intro us hr
      have hm : fn.results.mapM (resOne a'.tmps) = (do pure (← fn.results.toList.mapM (resOne a'.tmps)).toArray) := by
        rw [Array.mapM_eq_mapM_toList]
        simp
      have hres : results fn a'.tmps = (do
          let vs ← fn.results.mapM (resOne a'.tmps)
          pure (if h : vs.size = 1 then vs[0] else .tuple vs)) := by
        unfold results
        congr 1
      rw [hres, hm]
      simp only [Sem.run_bind, hr, Result.andThen_ok, Sem.run_pure]
    unfold endW at hk
    split at hk
    case h_2 => exact hk.elim
    rename_i nn e' K' zs hl
    obtain ⟨he, hk2⟩ := chk_iff.1 hk
    have he2 := Nat.eq_of_beq_eq_true he
    clear hk he
    split at hk2
    case isFalse => exact hk2.elim
    rename_i hKK
    subst hKK; subst he2
    obtain ⟨⟨r, ls⟩, hd, hQ⟩ := optK_ok hk2
    have noany : ∀ rv, rv ∈ fn.results.toList → resSV S st' rv ≠ .any := fun rv hrv => decArgs_any ct.R _ r ls hd _ (List.mem_map_of_mem hrv)
    obtain ⟨us, hr, hrep⟩ := results_ok hS m' fn.results.toList noany
    have hvals := decArgs_ok (Z := fun l => memL l ls) (dec1_ok m' hct fuel) ct.R _ r ls us hd hrep (fun l hl => memL_mem hl)
    obtain ⟨s, hs⟩ := look_some hl
    obtain ⟨v2, hv2, hok⟩ := m'.hps _ _ s hs
    rw [hv'] at hv2
    cases hv2
    refine ⟨_, run us hr, r, _, zs, rfl, ret_of_vals (Kd.flat_vals P ct.R hRf hvals) hret, inRow_of hfl hok, ⟨m'.bel.os, m'.bel.tape, m'.bel.output, m'.bel.size, fun k hk hne => m'.bel.block k ⟨hk, fun e => hne e.symm⟩ (fun h => by rw [hoff] at h; cases h)⟩, hQ⟩
  cases xt with
  | norm => exact fin hk
  | ret => exact fin hk
  | exit i => exact hk.elim

def AllW (P : Program) (glb : Nat → Option GV) (l : List (Nat × CtW)) : Prop := ∀ f c, assoc l f = some c → CallsW P glb f c
theorem AllW.nil {P : Program} {glb : Nat → Option GV} : AllW P glb [] := fun f c h => by cases h
theorem AllW.cons {P : Program} {glb : Nat → Option GV} {f : Nat} {c : CtW} {r : List (Nat × CtW)} (h : CallsW P glb f c) (hr : AllW P glb r) : AllW P glb ((f, c) :: r) := assoc_cons h hr
end Go.GX
set_option linter.unusedVariables false
namespace Go.GX
variable [Inhabited BaseD]
open Go.RowKit Go.Shelf Go.Proofs

def AllH (P : Program) (glb : Nat → Option GV) (l : List (Nat × CtH)) : Prop := ∀ f c, assoc l f = some c → CallsH P glb f c
theorem AllH.nil {P : Program} {glb : Nat → Option GV} : AllH P glb [] := fun f c h => by cases h
theorem AllH.cons {P : Program} {glb : Nat → Option GV} {f : Nat} {c : CtH} {r : List (Nat × CtH)} (h : CallsH P glb f c) (hr : AllH P glb r) : AllH P glb ((f, c) :: r) := assoc_cons h hr

structure EnvOK (P : Program) (glb : Nat → Option GV) (S : Stat) : Prop where
  st : StatOK P S
  ct : CtOK P glb S
  g : S.glb = glb
theorem envOK_of {P : Program} {tyT : List (Nat × TI)} {slT : List (Nat × Nat)} {flT : List ((Nat × Nat) × (Nat × Nat))} {eqT : List (Nat × Nat)} {mkT : List (Nat × (Nat × Nat))} {glT : List (Nat × GV)} {ctT : List (Nat × Ct)} {inls : List Nat} {ios : List (Nat × CtW)} {hos : List (Nat × CtH)} (lits : List Nat) (hS : statB P tyT slT flT eqT = true) (hmk : AllMk P mkT) (hin : AllInl P inls) (hct : AllOK P (assoc glT) ctT) (hio : AllW P (assoc glT) ios) (hho : AllH P (assoc glT) hos) :
    EnvOK P (assoc glT) (((Stat.of tyT slT flT eqT mkT glT ctT inls lits).withIo ios).withHov hos) where
  st := let h := statOK_of (mkT := mkT) (glT := glT) (ctT := ctT) (inls := inls) (lits := lits) hS; ⟨h.mixed, h.ty, h.sl, h.mp, h.eq, h.int, h.dfd, h.bool, h.str, h.fld, h.arr, h.mpi⟩
  ct := let h := ctOK_of (tyT := tyT) (slT := slT) (flT := flT) (eqT := eqT) (lits := lits) hct hmk hin; ⟨h.ct, h.mkr, h.inl, h.clip, hio, h.itm, hho⟩
  g := rfl
def AllMpi (P : Program) (l : List (Nat × (Nat × Nat))) : Prop := ∀ t p, assoc l t = some p → memoOn = false ∧ P.underlying t = some (.map p.1 p.2) ∧ notAggZ P p.2 = true
theorem AllMpi.nil {P : Program} : AllMpi P [] := fun f c h => by cases h
theorem AllMpi.cons {P : Program} {f : Nat} {c : Nat × Nat} {r : List (Nat × (Nat × Nat))} (h1 : memoOn = false) (h2 : P.underlying f = some (.map c.1 c.2)) (h3 : notAggZ P c.2 = true) (hr : AllMpi P r) : AllMpi P ((f, c) :: r) := assoc_cons (α := Nat × Nat) (p := fun f c => memoOn = false ∧ P.underlying f = some (.map c.1 c.2) ∧ notAggZ P c.2 = true) ⟨h1, h2, h3⟩ hr
theorem EnvOK.mpi {P : Program} {glb : Nat → Option GV} {S : Stat} (h : EnvOK P glb S) {mps : List (Nat × (Nat × Nat))} (hm : AllMpi P mps) : EnvOK P glb (S.withMpi mps) where
  st := ⟨h.st.mixed, h.st.ty, h.st.sl, h.st.mp, h.st.eq, h.st.int, h.st.dfd, h.st.bool, h.st.str, h.st.fld, h.st.arr, hm⟩
  ct := ⟨h.ct.ct, h.ct.mkr, h.ct.inl, h.ct.clip, h.ct.io, h.ct.itm, h.ct.hov⟩
  g := h.g
section
variable {P : Program} {glb : Nat → Option GV} {S : Stat} (E : EnvOK P glb S) (an : Nat → Items) {f : FuncId} {fn : Func} {c : Code} (hf : P.funcs[f]? = some fn) (hname : (fn.name == "runtime.NumGoroutine") = false) (hb : fn.body = some c)
include E hf hname hb
theorem callsOK_E (ct : Ct) (H : ∀ x y Q, ct.wp x y Q → vcFunc S ct.own ct.fresh an fn c ct.A ct.C ct.R x y Q) : CallsOK P glb f ct where
  enters := enters_of hf hname hb
  calls := fun X W x y vs cs hX hg hv hc Q hQ => calls_of_vc E.st E.ct E.g an hf hname hb ct (H x y Q hQ) hX hg hv hc
theorem callsW_E (hoff : memoOn = false) (ct : CtW) (H : ∀ ys x y Q, ct.wp ys x y Q → vcFuncW S an fn c ct ys x y Q) : CallsW P glb f ct where
  enters := enters_of hf hname hb
  calls := fun X W ys v x y vs cs hX hown hg hrow hn hfl hv hc Q hQ => callsW_of_vc hoff E.st E.ct E.g an hf hname hb ct (H ys x y Q hQ) hX hown hg hrow hn hfl hv hc
end
end Go.GX
