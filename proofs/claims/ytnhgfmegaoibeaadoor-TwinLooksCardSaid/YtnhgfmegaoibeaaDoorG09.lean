/- Part 9 of the texts behind the proof: TwM4, TwM5, TwM6, TwM7, TwM8, TwP18, TwO6, TwC9, TwV12, TwV13, TwM9, TwP19, TwO7, TwP20, TwP21, TwO8, Gx25, TwBr. -/
import Derived.Test.YtnhgfmegaoibeaaDoorG08
import Derived.Test.YtnhgfmegaoibeaaDoorProg
import Derived.ProofKit
import Derived.Test.YtnhgfmegaoibeaaDoorRows
import Derived.OpenShut
import Derived.LaidMore
import Derived.Lay
import Derived.SevenTiedAt
set_option linter.unusedSimpArgs false
set_option linter.unusedVariables false
set_option linter.unusedVariables false
namespace Go.Proofs.Tw
open Go Go.GX Go.Proofs
def Sol (c : Span) (f : Fam) (x : Nat → Int) : Prop := ∀ i, i < f.length → f.getD i 0 ≠ -1 → c.1 ≤ x i - x (f.getD i 0).toNat ∧ x i - x (f.getD i 0).toNat ≤ c.2
def InS (st : List Span) (x : Nat → Int) : Prop := ∀ i, i < st.length → (st.getD i (0, 0)).1 ≤ x i ∧ x i ≤ (st.getD i (0, 0)).2
theorem getDset4 {α : Type} (l : List α) (i : Nat) (v : α) (j : Nat) (d : α) (hi : i < l.length) : (l.set i v).getD j d = if j = i then v else l.getD j d := by
  rw [List.getD_eq_getElem?_getD, List.getElem?_set]
  by_cases h : i = j
  · subst h; rw [if_pos rfl, if_pos hi, if_pos rfl]; rfl
  · rw [if_neg h, if_neg (fun e => h e.symm), List.getD_eq_getElem?_getD]
theorem bstep_len (c : Span) (f : Fam) (st : List Span) (n : Nat) : (backStep c f st n).length = st.length := by
  unfold backStep; split <;> simp
theorem fstep_len (c : Span) (f : Fam) (st : List Span) (n : Int) : (fwdStep c f st n).length = st.length := by
  unfold fwdStep; split <;> simp
theorem back_get {c : Span} {f : Fam} {st : List Span} {n : Nat} (hr : ∀ i, i < f.length → -1 ≤ f.getD i 0 ∧ f.getD i 0 < f.length) (hs : st.length = f.length) (hn : n < f.length) (j : Nat) :
    (backStep c f st n).getD j (0, 0) = if f.getD n 0 ≠ -1 ∧ j = (f.getD n 0).toNat then meetF (st.getD j (0, 0)) ((st.getD n (0, 0)).1 - c.2, (st.getD n (0, 0)).2 - c.1) else st.getD j (0, 0) := by
  have := hr n hn
  unfold backStep
  split
  · rename_i h
    rw [getDset4 _ _ _ _ _ (by omega)]
    by_cases hj : j = (f.getD n 0).toNat
    · rw [if_pos hj, if_pos ⟨h, hj⟩, hj]
    · rw [if_neg hj, if_neg (fun e => hj e.2)]
  · rename_i h
    rw [if_neg (fun e => h e.1)]
theorem fwd_get {c : Span} {f : Fam} {st : List Span} {n : Nat} (hs : st.length = f.length) (hn : n < f.length) (j : Nat) :
    (fwdStep c f st n).getD j (0, 0) = if f.getD n 0 ≠ -1 ∧ j = n then meetF (st.getD n (0, 0)) ((st.getD (f.getD n 0).toNat (0, 0)).1 + c.1, (st.getD (f.getD n 0).toNat (0, 0)).2 + c.2) else st.getD j (0, 0) := by
  unfold fwdStep
  rw [Int.toNat_natCast]
  split
  · rename_i h
    rw [getDset4 _ _ _ _ _ (by omega)]
    by_cases hj : j = n
    · rw [if_pos hj, if_pos ⟨h, hj⟩]
    · rw [if_neg hj, if_neg (fun e => hj e.2)]
  · rename_i h
    rw [if_neg (fun e => h e.1)]
theorem meet_in {a b : Span} {x : Int} (h1 : a.1 ≤ x ∧ x ≤ a.2) (h2 : b.1 ≤ x ∧ x ≤ b.2) : (meetF a b).1 ≤ x ∧ x ≤ (meetF a b).2 := by
  have h3 := mx_cases a.1 b.1
  have h4 := mn_cases a.2 b.2
  show mxI a.1 b.1 ≤ x ∧ x ≤ mnI a.2 b.2
  omega
section
variable {c : Span} {f : Fam} {x : Nat → Int}
theorem back_in (hr : ∀ i, i < f.length → -1 ≤ f.getD i 0 ∧ f.getD i 0 < f.length) (hx : Sol c f x) {st : List Span} (hs : st.length = f.length) (h : InS st x) {n : Nat} (hn : n < f.length) : InS (backStep c f st n) x := by
  intro i hi
  rw [bstep_len] at hi
  rw [back_get hr hs hn]
  split
  · rename_i hc
    have h1 := h i hi
    have h2 := h n (by omega)
    have h3 := hx n hn hc.1
    rw [← hc.2] at h3
    exact meet_in h1 (by show (st.getD n (0, 0)).1 - c.2 ≤ x i ∧ x i ≤ (st.getD n (0, 0)).2 - c.1; omega)
  · exact h i hi
theorem fwd_in (hr : ∀ i, i < f.length → -1 ≤ f.getD i 0 ∧ f.getD i 0 < f.length) (hx : Sol c f x) {st : List Span} (hs : st.length = f.length) (h : InS st x) {n : Nat} (hn : n < f.length) : InS (fwdStep c f st n) x := by
  intro i hi
  rw [fstep_len] at hi
  rw [fwd_get hs hn]
  split
  · rename_i hc
    have hrn := hr n hn
    have h1 := h n (by omega)
    have h2 := h (f.getD n 0).toNat (by omega)
    have h3 := hx n hn hc.1
    rw [hc.2]
    exact meet_in h1 (by show (st.getD (f.getD n 0).toNat (0, 0)).1 + c.1 ≤ x n ∧ x n ≤ (st.getD (f.getD n 0).toNat (0, 0)).2 + c.2; omega)
  · exact h i hi
theorem backAll_in (hr : ∀ i, i < f.length → -1 ≤ f.getD i 0 ∧ f.getD i 0 < f.length) (hx : Sol c f x) : ∀ (ns : List Int), (∀ y, y ∈ ns → 0 ≤ y ∧ y < f.length) → ∀ st : List Span, st.length = f.length → InS st x →
    ∃ up, backAll c f ns st = some up ∧ InS up x ∧ up.length = f.length
  | [], _, st, hs, h => ⟨st, rfl, h, hs⟩
  | y :: ns, hy, st, hs, h => by
    have hy0 := hy y (List.mem_cons_self ..)
    have h0 := h y.toNat (by omega)
    have ok : okSp (st.getD y.toNat (0, 0)) = true := by unfold okSp; exact decide_eq_true (by omega)
    obtain ⟨up, e, hu⟩ := backAll_in hr hx ns (fun z hz => hy z (List.mem_cons_of_mem _ hz)) (backStep c f st y.toNat) (by rw [bstep_len, hs]) (back_in hr hx hs h (by omega))
    refine ⟨up, ?_, hu⟩
    show (if okSp (st.getD y.toNat (0, 0)) then backAll c f ns (backStep c f st y.toNat) else none) = some up
    rw [if_pos ok, e]
theorem fwdAll_in (hr : ∀ i, i < f.length → -1 ≤ f.getD i 0 ∧ f.getD i 0 < f.length) (hx : Sol c f x) : ∀ (ns : List Int), (∀ y, y ∈ ns → 0 ≤ y ∧ y < f.length) → ∀ st : List Span, st.length = f.length → InS st x →
    InS (ns.foldl (fwdStep c f) st) x ∧ (ns.foldl (fwdStep c f) st).length = f.length
  | [], _, st, hs, h => ⟨h, hs⟩
  | y :: ns, hy, st, hs, h => by
    obtain ⟨n, rfl⟩ : ∃ n : Nat, y = n := ⟨y.toNat, by have := hy y (List.mem_cons_self ..); omega⟩
    have hy0 := hy n (List.mem_cons_self ..)
    exact fwdAll_in hr hx ns (fun z hz => hy z (List.mem_cons_of_mem _ hz)) (fwdStep c f st n) (by rw [fstep_len, hs]) (fwd_in hr hx hs h (by omega))

theorem back_props (hr : ∀ i, i < f.length → -1 ≤ f.getD i 0 ∧ f.getD i 0 < f.length) {l : List Int} (h : OrdP f l) : ∀ st up : List Span, st.length = f.length → backAll c f l.reverse st = some up →
    up.length = f.length ∧ (∀ i : Nat, hasF l i = false → up.getD i (0, 0) = st.getD i (0, 0)) ∧ (∀ i : Nat, (st.getD i (0, 0)).1 ≤ (up.getD i (0, 0)).1 ∧ (up.getD i (0, 0)).2 ≤ (st.getD i (0, 0)).2) ∧
    (∀ i : Nat, hasF l i = true → (up.getD i (0, 0)).1 ≤ (up.getD i (0, 0)).2 ∧ (f.getD i 0 ≠ -1 → (up.getD i (0, 0)).1 - c.2 ≤ (up.getD (f.getD i 0).toNat (0, 0)).1 ∧ (up.getD (f.getD i 0).toNat (0, 0)).2 ≤ (up.getD i (0, 0)).2 - c.1)) := by
  induction h with
  | nil =>
    intro st up hs hb
    obtain rfl := Option.some.inj hb
    exact ⟨hs, fun _ _ => rfl, fun i => ⟨Int.le_refl _, Int.le_refl _⟩, fun i hi => by cases hi⟩
  | @snoc l n hl hn hf hp ih =>
    intro st up hs hb
    rw [List.reverse_append] at hb
    have hb : (if okSp (st.getD ((n : Int).toNat) (0, 0)) then backAll c f l.reverse (backStep c f st (n : Int).toNat) else none) = some up := hb
    rw [Int.toNat_natCast] at hb
    have hrn := hr n hn
    cases hok : okSp (st.getD n (0, 0))
    · rw [hok] at hb; cases hb
    rw [hok, if_pos rfl] at hb
    have hok : (st.getD n (0, 0)).1 ≤ (st.getD n (0, 0)).2 := by unfold okSp at hok; exact of_decide_eq_true hok
    obtain ⟨u1, u2, u3, u4⟩ := ih (backStep c f st n) up (by rw [bstep_len, hs]) hb
    have bg := back_get (c := c) hr hs hn
    have pIn : f.getD n 0 ≠ -1 → hasF l (f.getD n 0) = true := fun h => hp.resolve_left h
    have keep : ∀ i : Nat, hasF l i = false → (backStep c f st n).getD i (0, 0) = st.getD i (0, 0) := by
      intro i hi
      rw [bg i, if_neg]
      rintro ⟨h1, rfl⟩
      have := pIn h1
      rw [show (((f.getD n 0).toNat : Nat) : Int) = f.getD n 0 by omega] at hi
      rw [this] at hi; cases hi
    have un : up.getD n (0, 0) = st.getD n (0, 0) := (u2 n hf).trans (keep n hf)
    refine ⟨u1, fun i hi => ?_, fun i => ?_, fun i hi => ?_⟩
    · rw [hasF_snoc, Bool.or_eq_false_iff] at hi
      exact (u2 i hi.1).trans (keep i hi.1)
    · have h1 := u3 i
      rw [bg i] at h1
      split at h1
      · have h3 := mx_cases (st.getD i (0, 0)).1 ((st.getD n (0, 0)).1 - c.2)
        have h4 := mn_cases (st.getD i (0, 0)).2 ((st.getD n (0, 0)).2 - c.1)
        have h1 : mxI (st.getD i (0, 0)).1 ((st.getD n (0, 0)).1 - c.2) ≤ _ ∧ _ ≤ mnI (st.getD i (0, 0)).2 ((st.getD n (0, 0)).2 - c.1) := h1
        omega
      · exact h1
    · rw [hasF_snoc, Bool.or_eq_true] at hi
      rcases hi with hi | hi
      · exact u4 i hi
      · obtain rfl : i = n := by have : (i : Int) = n := by simpa using hi
                                 omega
        rw [un]
        refine ⟨hok, fun hne => ?_⟩
        have h1 := u3 (f.getD i 0).toNat
        rw [bg, if_pos ⟨hne, rfl⟩] at h1
        have h3 := mx_cases (st.getD (f.getD i 0).toNat (0, 0)).1 ((st.getD i (0, 0)).1 - c.2)
        have h4 := mn_cases (st.getD (f.getD i 0).toNat (0, 0)).2 ((st.getD i (0, 0)).2 - c.1)
        have h1 : mxI (st.getD (f.getD i 0).toNat (0, 0)).1 ((st.getD i (0, 0)).1 - c.2) ≤ _ ∧ _ ≤ mnI (st.getD (f.getD i 0).toNat (0, 0)).2 ((st.getD i (0, 0)).2 - c.1) := h1
        omega
theorem ordP_par {f : Fam} {l : List Int} (h : OrdP f l) : ∀ i : Nat, hasF l i = true → f.getD i 0 ≠ -1 → hasF l (f.getD i 0) = true := by
  induction h with
  | nil => intro i hi; cases hi
  | @snoc l n hl hn hf hp ih =>
    intro i hi h1
    rw [hasF_snoc, Bool.or_eq_true] at hi ⊢
    rcases hi with hi | hi
    · exact .inl (ih i hi h1)
    · obtain rfl : i = n := by have : (i : Int) = n := by simpa using hi
                               omega
      exact .inl (hp.resolve_left h1)

theorem fwd_props {l : List Int} (h : OrdP f l) : ∀ up : List Span, up.length = f.length →
    (l.foldl (fwdStep c f) up).length = f.length ∧ (∀ i : Nat, hasF l i = false → (l.foldl (fwdStep c f) up).getD i (0, 0) = up.getD i (0, 0)) ∧
    (∀ i : Nat, hasF l i = true → (f.getD i 0 = -1 → (l.foldl (fwdStep c f) up).getD i (0, 0) = up.getD i (0, 0)) ∧
      (f.getD i 0 ≠ -1 → (l.foldl (fwdStep c f) up).getD i (0, 0) = meetF (up.getD i (0, 0)) (((l.foldl (fwdStep c f) up).getD (f.getD i 0).toNat (0, 0)).1 + c.1, ((l.foldl (fwdStep c f) up).getD (f.getD i 0).toNat (0, 0)).2 + c.2))) := by
  intro up hu
  induction h with
  | nil => exact ⟨hu, fun _ _ => rfl, fun i hi => by cases hi⟩
  | @snoc l n hl hn hf hp ih =>
    obtain ⟨a1, a2, a3⟩ := ih
    rw [List.foldl_append]
    show (fwdStep c f (l.foldl (fwdStep c f) up) n).length = _ ∧ _
    have fg := fwd_get (c := c) (n := n) a1 hn
    have unm := a2 n hf
    generalize l.foldl (fwdStep c f) up = F at *
    have same : ∀ i : Nat, i ≠ n → (fwdStep c f F n).getD i (0, 0) = F.getD i (0, 0) := fun i hi => by rw [fg i, if_neg (fun e => hi e.2)]
    refine ⟨by rw [fstep_len, a1], fun i hi => ?_, fun i hi => ?_⟩
    · rw [hasF_snoc, Bool.or_eq_false_iff] at hi
      have : i ≠ n := by rintro rfl; simp at hi
      exact (same i this).trans (a2 i hi.1)
    · show (_ → (fwdStep c f F n).getD i (0, 0) = _) ∧ (_ → (fwdStep c f F n).getD i (0, 0) = meetF (up.getD i (0, 0)) (((fwdStep c f F n).getD (f.getD i 0).toNat (0, 0)).1 + c.1, ((fwdStep c f F n).getD (f.getD i 0).toNat (0, 0)).2 + c.2))
      rw [hasF_snoc, Bool.or_eq_true] at hi
      by_cases hin : i = n
      · subst hin
        refine ⟨fun h1 => ?_, fun h1 => ?_⟩
        · rw [fg i, if_neg (fun e => e.1 h1), unm]
        · have hpl := hp.resolve_left h1
          have hrng := ordP_chase hl _ hpl
          have hpn : (f.getD i 0).toNat ≠ i := by
            intro e
            rw [show f.getD i 0 = (i : Int) by omega] at hpl
            rw [hpl] at hf; cases hf
          rw [same _ hpn, fg i, if_pos ⟨h1, rfl⟩, unm]
      · have hil : hasF l i = true := by
          rcases hi with hi | hi
          · exact hi
          · exact absurd (by have : (i : Int) = n := by simpa using hi
                             omega) hin
        obtain ⟨b1, b2⟩ := a3 i hil
        rw [same i hin]
        refine ⟨b1, fun h1 => ?_⟩
        have hne : (f.getD i 0).toNat ≠ n := by
          intro e
          have hc := ordP_par hl i hil h1
          have hrng := ordP_chase hl _ hc
          rw [show f.getD i 0 = (n : Int) by omega] at hc
          rw [hc] at hf; cases hf
        rw [same _ hne]
        exact b2 h1
end
end Go.Proofs.Tw
set_option linter.unusedVariables false
namespace Go.Proofs.Tw
open Go Go.GX Go.Proofs
theorem mem_has {l : List Int} {y : Int} (h : y ∈ l) : hasF l y = true := by
  unfold hasF; rw [List.any_eq_true]; exact ⟨y, h, by simp⟩
theorem startF_len (g : Gauge) (fs : Fans) (m : Nat) (wrong : List Int) (k : Nat) : (startF g fs m wrong k).length = k := by simp [startF]
theorem startF_get (g : Gauge) (fs : Fans) (m : Nat) (wrong : List Int) {k i : Nat} (h : i < k) : (startF g fs m wrong k).getD i (0, 0) = if hasF wrong i then anything else trulyF g fs m i := map_range_getD _ _ _ _ h
section
variable {g : Gauge} {fs : Fans} {f : Fam} {m : Nat} {wrong : List Int} {x : Nat → Int}
theorem truth_sound (hf : isFamF f fs.length = true) (hx : Sol (g.2.2.getD m (0, 0)) f x) (hs : InS (startF g fs m wrong f.length) x) :
    ∃ fin, truthF g fs m f wrong = some fin ∧ InS fin x ∧ fin.length = f.length := by
  obtain ⟨fd, fo, ho, hall⟩ := fam_of hf
  have hr : ∀ i, i < f.length → -1 ≤ f.getD i 0 ∧ f.getD i 0 < f.length := fun i hi => ⟨(fd.rng i hi).1, (fd.rng i hi).2.1⟩
  have hy : ∀ y, y ∈ orderF f → 0 ≤ y ∧ y < f.length := fun y hy => (ordP_chase ho y (mem_has hy)).2
  obtain ⟨up, e, hu, hl⟩ := backAll_in hr hx (orderF f).reverse (fun y h => hy y (List.mem_reverse.1 h)) _ (startF_len ..) hs
  obtain ⟨h1, h2⟩ := fwdAll_in hr hx (orderF f) hy up hl hu
  refine ⟨_, ?_, h1, h2⟩
  unfold truthF
  rw [e]; rfl
theorem truth_complete (hc : (g.2.2.getD m (0, 0)).1 ≤ (g.2.2.getD m (0, 0)).2) (hf : isFamF f fs.length = true) {fin : List Span} (ht : truthF g fs m f wrong = some fin) :
    fin.length = f.length ∧ (Sol (g.2.2.getD m (0, 0)) f fun i => (fin.getD i (0, 0)).2) ∧ (InS (startF g fs m wrong f.length) fun i => (fin.getD i (0, 0)).2) ∧
    (Sol (g.2.2.getD m (0, 0)) f fun i => (fin.getD i (0, 0)).1) ∧ (InS (startF g fs m wrong f.length) fun i => (fin.getD i (0, 0)).1) := by
  obtain ⟨fd, fo, ho, hall⟩ := fam_of hf
  have hr : ∀ i, i < f.length → -1 ≤ f.getD i 0 ∧ f.getD i 0 < f.length := fun i hi => ⟨(fd.rng i hi).1, (fd.rng i hi).2.1⟩
  unfold truthF at ht
  generalize g.2.2.getD m (0, 0) = c at *
  cases hb : backAll c f (orderF f).reverse (startF g fs m wrong f.length) with
  | none => rw [hb] at ht; cases ht
  | some up =>
    rw [hb] at ht
    have ht := Option.some.inj ht
    obtain ⟨u1, u2, u3, u4⟩ := back_props hr ho _ _ (startF_len ..) hb
    obtain ⟨w1, w2, w3⟩ := fwd_props (c := c) ho up u1
    have ht : (orderF f).foldl (fwdStep c f) up = fin := ht
    rw [ht] at w1 w2 w3

    have key : ∀ {l : List Int}, OrdP f l → (∀ i : Nat, hasF l i = true → (up.getD i (0, 0)).1 ≤ (fin.getD i (0, 0)).1 ∧ (fin.getD i (0, 0)).2 ≤ (up.getD i (0, 0)).2 ∧ (up.getD i (0, 0)).1 ≤ (fin.getD i (0, 0)).2 ∧ (fin.getD i (0, 0)).1 ≤ (up.getD i (0, 0)).2) := by
      intro l hl
      induction hl with
      | nil => intro i hi; cases hi
      | @snoc l n hl hn hf' hp ih =>
        intro i hi
        rw [hasF_snoc, Bool.or_eq_true] at hi
        rcases hi with hi | hi
        · exact ih i hi
        · obtain rfl : i = n := by have : (i : Int) = n := by simpa using hi
                                   omega
          obtain ⟨k1, k2⟩ := w3 i (hall i hn)
          obtain ⟨k3, k4⟩ := u4 i (hall i hn)
          by_cases h1 : f.getD i 0 = -1
          · rw [k1 h1]; omega
          · have hpl := hp.resolve_left h1
            have hri := ordP_chase hl _ hpl
            have ihp := ih (f.getD i 0).toNat (by rw [show (((f.getD i 0).toNat : Nat) : Int) = f.getD i 0 by omega]; exact hpl)
            have k4 := k4 h1
            rw [k2 h1]
            have m1 := mx_cases (up.getD i (0, 0)).1 ((fin.getD (f.getD i 0).toNat (0, 0)).1 + c.1)
            have m2 := mn_cases (up.getD i (0, 0)).2 ((fin.getD (f.getD i 0).toNat (0, 0)).2 + c.2)
            show _ ≤ mxI (up.getD i (0, 0)).1 ((fin.getD (f.getD i 0).toNat (0, 0)).1 + c.1) ∧ mnI (up.getD i (0, 0)).2 ((fin.getD (f.getD i 0).toNat (0, 0)).2 + c.2) ≤ _ ∧ _ ≤ mnI (up.getD i (0, 0)).2 ((fin.getD (f.getD i 0).toNat (0, 0)).2 + c.2) ∧ mxI (up.getD i (0, 0)).1 ((fin.getD (f.getD i 0).toNat (0, 0)).1 + c.1) ≤ _
            omega
    have K : ∀ i : Nat, i < f.length → _ := fun i hi => key ho i (hall i hi)
    have par : ∀ i, i < f.length → f.getD i 0 ≠ -1 → (f.getD i 0).toNat < f.length := fun i hi h1 => by have := hr i hi; omega
    have mid : ∀ i, i < f.length → f.getD i 0 ≠ -1 →
        (fin.getD i (0, 0)).1 = mxI (up.getD i (0, 0)).1 ((fin.getD (f.getD i 0).toNat (0, 0)).1 + c.1) ∧ (fin.getD i (0, 0)).2 = mnI (up.getD i (0, 0)).2 ((fin.getD (f.getD i 0).toNat (0, 0)).2 + c.2) := by
      intro i hi h1
      rw [(w3 i (hall i hi)).2 h1]; exact ⟨rfl, rfl⟩
    refine ⟨w1, fun i hi h1 => ?_, fun i hi => ?_, fun i hi h1 => ?_, fun i hi => ?_⟩
    · have a := (mid i hi h1).2
      have b := K _ (par i hi h1)
      have d := (u4 i (hall i hi)).2 h1
      have m2 := mn_cases (up.getD i (0, 0)).2 ((fin.getD (f.getD i 0).toNat (0, 0)).2 + c.2)
      simp only
      omega
    · rw [startF_len] at hi
      have a := K i hi
      have b := u3 i
      simp only
      omega
    · have a := (mid i hi h1).1
      have b := K _ (par i hi h1)
      have d := (u4 i (hall i hi)).2 h1
      have m2 := mx_cases (up.getD i (0, 0)).1 ((fin.getD (f.getD i 0).toNat (0, 0)).1 + c.1)
      simp only
      omega
    · rw [startF_len] at hi
      have a := K i hi
      have b := u3 i
      simp only
      omega
end
end Go.Proofs.Tw
set_option linter.unusedVariables false
namespace Go.Proofs.Tw
open Go Go.GX Go.Proofs

def Rsp (N : Nat) (D : DM) (x : Nat → Int) : Prop := ∀ a b, a ≤ N → b ≤ N → D a b < farD → x a - x b ≤ D a b
def Meas (g : Gauge) (fs : Fans) (m : Nat) (wrong : List Int) (x : Nat → Int) : Prop := ∀ i : Nat, i < fs.length → hasF wrong i = false → (fs.getD i []).getD m 0 - g.1.getD m 0 ≤ x i ∧ x i ≤ (fs.getD i []).getD m 0 + g.1.getD m 0
theorem rsp_upd {N : Nat} {D : DM} {x : Nat → Int} (h : Rsp N D x) (i j : Nat) {v : Int} (hv : v < farD → x i - x j ≤ v) : Rsp N (updD D i j v) x := by
  intro a b ha hb hlt
  rcases updD_cases D i j v a b with ⟨rfl, rfl, e⟩ | ⟨_, e⟩
  · rw [e] at hlt ⊢; exact hv hlt
  · rw [e] at hlt ⊢; exact h a b ha hb hlt
section
variable {g : Gauge} {fs : Fans} {f : Fam} {m : Nat} {wrong : List Int} {x : Nat → Int}
theorem known_rsp (fd : FamD fs f) (h0 : x fs.length = 0) (hx : Sol (g.2.2.getD m (0, 0)) f x) (hm : Meas g fs m wrong x) : ∀ k, k ≤ fs.length → Rsp fs.length (knownD g fs m f wrong k) x
  | 0, _ => by
    intro a b _ _ hlt
    have e : knownD g fs m f wrong 0 a b = if a = b then 0 else farD := rfl
    rw [e] at hlt ⊢
    by_cases h : a = b
    · rw [if_pos h, h]; omega
    · rw [if_neg h] at hlt; exact absurd hlt (Int.lt_irrefl _)
  | k + 1, hk => by
    have ih := known_rsp fd h0 hx hm k (by omega)
    have g1 : Rsp fs.length (gStep g fs m wrong k (knownD g fs m f wrong k)) x := by
      unfold gStep
      split
      · exact ih
      · rename_i hw
        have hmk := hm k (by omega) (by simpa using hw)
        exact rsp_upd (rsp_upd ih _ _ (fun _ => by omega)) _ _ (fun _ => by omega)
    show Rsp fs.length (fStep g m f k (gStep g fs m wrong k (knownD g fs m f wrong k))) x
    generalize gStep g fs m wrong k (knownD g fs m f wrong k) = E at g1
    unfold fStep
    split
    · rename_i hf
      have hr := fd.rng k (by rw [fd.len]; omega)
      have fl := fd.len
      have hs := hx k (by omega) (by omega)
      refine rsp_upd (rsp_upd g1 _ _ fun hlt => ?_) _ _ fun hlt => ?_
      · rcases (mn_cases (E k (f.getD k 0).toNat) (g.2.2.getD m (0, 0)).2).1 with e | e
        · rw [e] at hlt ⊢; exact g1 _ _ (by omega) (by omega) hlt
        · rw [e]; omega
      · rcases (mn_cases (E (f.getD k 0).toNat k) (-(g.2.2.getD m (0, 0)).1)).1 with e | e
        · rw [e] at hlt ⊢; exact g1 _ _ (by omega) (by omega) hlt
        · rw [e]; omega
    · exact g1
theorem fwS_rsp {N : Nat} {D : DM} (h : Rsp N D x) {k i j : Nat} (hk : k ≤ N) (hi : i ≤ N) (hj : j ≤ N) : Rsp N (fwS k i j D) x := by
  unfold fwS
  split
  · rename_i hc
    refine rsp_upd h _ _ fun hlt => ?_
    have h1 := h i k hi hk hc.1
    have h2 := h k j hk hj hc.2
    rcases (mn_cases (D i j) (D i k + D k j)).1 with e | e
    · rw [e] at hlt ⊢; exact h i j hi hj hlt
    · rw [e]; omega
  · exact h
theorem fwJ_rsp {N : Nat} {D : DM} (h : Rsp N D x) {k i : Nat} (hk : k ≤ N) (hi : i ≤ N) : ∀ j, j ≤ N + 1 → Rsp N (fwJ k i j D) x
  | 0, _ => h
  | j + 1, hj => fwS_rsp (fwJ_rsp h hk hi j (by omega)) hk hi (by omega)
theorem fwI_rsp {N : Nat} {D : DM} (h : Rsp N D x) {k : Nat} (hk : k ≤ N) : ∀ i, i ≤ N + 1 → Rsp N (fwI N k i D) x
  | 0, _ => h
  | i + 1, hi => fwJ_rsp (fwI_rsp h hk i (by omega)) hk (by omega) (N + 1) (Nat.le_refl _)
theorem fwK_rsp {N : Nat} {D : DM} (h : Rsp N D x) : ∀ k, k ≤ N + 1 → Rsp N (fwK N k D) x
  | 0, _ => h
  | k + 1, hk => fwI_rsp (fwK_rsp h k (by omega)) (by omega) (N + 1) (Nat.le_refl _)
theorem apart_rsp (fd : FamD fs f) (h0 : x fs.length = 0) (hx : Sol (g.2.2.getD m (0, 0)) f x) (hm : Meas g fs m wrong x) : Rsp fs.length (apartD g fs m f wrong) x :=
  fwK_rsp (known_rsp fd h0 hx hm fs.length (Nat.le_refl _)) (fs.length + 1) (Nat.le_refl _)
theorem can_iff {N : Nat} {D : DM} : canR (tabD N D) = true ↔ ∀ i, i ≤ N → 0 ≤ D i i := by
  unfold canR
  rw [List.all_eq_true, tabD_len]
  constructor
  · intro h i hi
    have := of_decide_eq_true (h i (List.mem_range.2 (by omega)))
    rwa [tabD_get D hi, tabR_get _ hi] at this
  · intro h i hi
    have hi := List.mem_range.1 hi
    refine decide_eq_true ?_
    rw [tabD_get D (by omega), tabR_get _ (by omega)]
    exact h i (by omega)
theorem can_sound {N : Nat} {D : DM} (h : Rsp N D x) : canR (tabD N D) = true := by
  refine can_iff.2 fun i hi => ?_
  by_cases hlt : D i i < farD
  · have := h i i hi hi hlt; omega
  · have : ¬ D i i < 1073741824 := hlt
    omega

theorem fStep_le (m : Nat) (f : Fam) (k : Nat) (D : DM) (a b : Nat) (g : Gauge) : fStep g m f k D a b ≤ D a b := by
  unfold fStep
  split
  · rcases updD_cases (updD D k (f.getD k 0).toNat (mnI (D k (f.getD k 0).toNat) (g.2.2.getD m (0, 0)).2)) (f.getD k 0).toNat k (mnI (D (f.getD k 0).toNat k) (-(g.2.2.getD m (0, 0)).1)) a b with ⟨rfl, rfl, e⟩ | ⟨_, e⟩
    · rw [e]; exact (mn_cases _ _).2.1
    · rw [e]
      rcases updD_cases D k (f.getD k 0).toNat (mnI (D k (f.getD k 0).toNat) (g.2.2.getD m (0, 0)).2) a b with ⟨rfl, rfl, e⟩ | ⟨_, e⟩
      · rw [e]; exact (mn_cases _ _).2.1
      · rw [e]; exact Int.le_refl _
  · exact Int.le_refl _
theorem gStep_else {k : Nat} {D : DM} {a b : Nat} (h1 : ¬(a = k ∧ b = fs.length)) (h2 : ¬(a = fs.length ∧ b = k)) : gStep g fs m wrong k D a b = D a b := by
  unfold gStep
  split
  · rfl
  · rcases updD_cases (updD D k fs.length ((fs.getD k []).getD m 0 + g.1.getD m 0)) fs.length k (g.1.getD m 0 - (fs.getD k []).getD m 0) a b with ⟨e1, e2, _⟩ | ⟨_, e⟩
    · exact absurd ⟨e1, e2⟩ h2
    · rw [e]
      rcases updD_cases D k fs.length ((fs.getD k []).getD m 0 + g.1.getD m 0) a b with ⟨e1, e2, _⟩ | ⟨_, e⟩
      · exact absurd ⟨e1, e2⟩ h1
      · exact e
theorem known_le (fd : FamD fs f) : ∀ k, k ≤ fs.length → ∀ i : Nat, i < k →
    (hasF wrong i = false → knownD g fs m f wrong k i fs.length ≤ (fs.getD i []).getD m 0 + g.1.getD m 0 ∧ knownD g fs m f wrong k fs.length i ≤ g.1.getD m 0 - (fs.getD i []).getD m 0) ∧
    (f.getD i 0 ≠ -1 → knownD g fs m f wrong k i (f.getD i 0).toNat ≤ (g.2.2.getD m (0, 0)).2 ∧ knownD g fs m f wrong k (f.getD i 0).toNat i ≤ -(g.2.2.getD m (0, 0)).1)
  | 0, _, i, hi => by omega
  | k + 1, hk, i, hi => by
    have hr := fd.rng k (by rw [fd.len]; omega)
    have hri := fd.rng i (by rw [fd.len]; omega)
    have fl := fd.len
    have le : ∀ a b, knownD g fs m f wrong (k + 1) a b ≤ gStep g fs m wrong k (knownD g fs m f wrong k) a b := fun a b => fStep_le m f k _ a b g
    by_cases hik : i < k
    · obtain ⟨h1, h2⟩ := known_le fd k (by omega) i hik
      refine ⟨fun hw => ?_, fun hf => ?_⟩
      · have h1 := h1 hw
        have l1 := le i fs.length
        have l2 := le fs.length i
        rw [gStep_else (by omega) (by omega)] at l1 l2
        omega
      · have h2 := h2 hf
        have l1 := le i (f.getD i 0).toNat
        have l2 := le (f.getD i 0).toNat i
        rw [gStep_else (by omega) (by omega)] at l1 l2
        omega
    · obtain rfl : i = k := by omega
      refine ⟨fun hw => ?_, fun hf => ?_⟩
      · have l1 := le i fs.length
        have l2 := le fs.length i
        have e1 : gStep g fs m wrong i (knownD g fs m f wrong i) i fs.length = (fs.getD i []).getD m 0 + g.1.getD m 0 := by
          unfold gStep
          rw [if_neg (by rw [hw]; simp)]
          unfold updD
          rw [if_neg (by omega), if_pos ⟨rfl, rfl⟩]
        have e2 : gStep g fs m wrong i (knownD g fs m f wrong i) fs.length i = g.1.getD m 0 - (fs.getD i []).getD m 0 := by
          unfold gStep
          rw [if_neg (by rw [hw]; simp)]
          unfold updD
          rw [if_pos ⟨rfl, rfl⟩]
        omega
      · show fStep g m f i (gStep g fs m wrong i (knownD g fs m f wrong i)) i _ ≤ _ ∧ fStep g m f i (gStep g fs m wrong i (knownD g fs m f wrong i)) _ i ≤ _
        generalize gStep g fs m wrong i (knownD g fs m f wrong i) = E
        unfold fStep
        rw [if_pos (by omega)]
        unfold updD
        have m1 := mn_cases (E i (f.getD i 0).toNat) (g.2.2.getD m (0, 0)).2
        have m2 := mn_cases (E (f.getD i 0).toNat i) (-(g.2.2.getD m (0, 0)).1)
        rw [if_neg (by omega), if_pos ⟨rfl, rfl⟩, if_pos ⟨rfl, rfl⟩]
        omega
theorem known_diag (fd : FamD fs f) : ∀ k, k ≤ fs.length → ∀ i, knownD g fs m f wrong k i i ≤ 0
  | 0, _, i => by show (if i = i then (0 : Int) else farD) ≤ 0; rw [if_pos rfl]; exact Int.le_refl _
  | k + 1, hk, i => by
    have hr := fd.rng k (by rw [fd.len]; omega)
    have fl := fd.len
    have := known_diag fd k (by omega) i
    have le := fStep_le m f k (gStep g fs m wrong k (knownD g fs m f wrong k)) i i g
    rw [gStep_else (by omega) (by omega)] at le
    exact Int.le_trans le this

theorem rsp_known (v : VB g fs) (hm : m < g.1.length) (fd : FamD fs f) (h0 : x fs.length = 0) {D : DM} (hD : ∀ a b, D a b ≤ knownD g fs m f wrong fs.length a b) (h : Rsp fs.length D x) :
    Sol (g.2.2.getD m (0, 0)) f x ∧ Meas g fs m wrong x := by
  have fl := fd.len
  have hc := v.copy_v hm
  have ho := v.off_v hm
  refine ⟨fun i hi hf => ?_, fun i hi hw => ?_⟩
  · have hr := fd.rng i hi
    have hk := (known_le fd fs.length (Nat.le_refl _) i (by omega) (wrong := wrong) (g := g) (m := m)).2 hf
    have d1 := hD i (f.getD i 0).toNat
    have d2 := hD (f.getD i 0).toNat i
    have r1 := h i (f.getD i 0).toNat (by omega) (by omega) (by show _ < (1073741824 : Int); omega)
    have r2 := h (f.getD i 0).toNat i (by omega) (by omega) (by show _ < (1073741824 : Int); omega)
    omega
  · have hv := v.fan_v hi hm
    have hk := (known_le fd fs.length (Nat.le_refl _) i hi (wrong := wrong) (g := g) (m := m)).1 hw
    have d1 := hD i fs.length
    have d2 := hD fs.length i
    have r1 := h i fs.length (by omega) (by omega) (by show _ < (1073741824 : Int); omega)
    have r2 := h fs.length i (by omega) (by omega) (by show _ < (1073741824 : Int); omega)
    omega
end
end Go.Proofs.Tw
set_option linter.unusedVariables false
namespace Go.Proofs.Tw
open Go Go.GX Go.Proofs
theorem upd_all {P : Int → Prop} {D : DM} (h : ∀ a b, P (D a b)) (i j : Nat) {v : Int} (hv : P v) : ∀ a b, P (updD D i j v a b) := by
  intro a b
  rcases updD_cases D i j v a b with ⟨_, _, e⟩ | ⟨_, e⟩
  · rw [e]; exact hv
  · rw [e]; exact h a b
theorem mn_all {P : Int → Prop} {a b : Int} (ha : P a) (hb : P b) : P (mnI a b) := by
  rcases (mn_cases a b).1 with e | e <;> rw [e] <;> assumption
theorem known_all {g : Gauge} {fs : Fans} {m : Nat} {f : Fam} {wrong : List Int} {P : Int → Prop} (h0 : P 0) (hfar : P farD) (hm : ∀ k : Nat, k < fs.length → P ((fs.getD k []).getD m 0 + g.1.getD m 0) ∧ P (g.1.getD m 0 - (fs.getD k []).getD m 0)) (hc : P (g.2.2.getD m (0, 0)).2 ∧ P (-(g.2.2.getD m (0, 0)).1)) :
    ∀ k, k ≤ fs.length → ∀ a b, P (knownD g fs m f wrong k a b)
  | 0, _, a, b => by show P (if a = b then (0 : Int) else farD); split <;> assumption
  | k + 1, hk, a, b => by
    have ih := known_all h0 hfar hm hc k (by omega) (f := f) (wrong := wrong)
    have g1 : ∀ a b, P (gStep g fs m wrong k (knownD g fs m f wrong k) a b) := by
      unfold gStep
      split
      · exact ih
      · exact upd_all (upd_all ih _ _ (hm k (by omega)).1) _ _ (hm k (by omega)).2
    show P (fStep g m f k (gStep g fs m wrong k (knownD g fs m f wrong k)) a b)
    generalize gStep g fs m wrong k (knownD g fs m f wrong k) = E at g1
    unfold fStep
    split
    · exact upd_all (upd_all g1 _ _ (mn_all (g1 _ _) hc.1)) _ _ (mn_all (g1 _ _) hc.2) a b
    · exact g1 a b
theorem fwK_mono (N : Nat) (D : DM) (a b k : Nat) : ∀ j, fwK N (k + j) D a b ≤ fwK N k D a b
  | 0 => Int.le_refl _
  | j + 1 => Int.le_trans (fwI_le N (k + j) _ a b (N + 1)) (fwK_mono N D a b k j)

def cl (D : DM) (k : Nat) : DM := fun a b => if D a k < farD ∧ D k b < farD then mnI (D a b) (D a k + D k b) else D a b
def InvC (N k : Nat) (D : DM) (i j : Nat) (E : DM) : Prop := ∀ a b, E a b = if (a < i ∧ b ≤ N) ∨ (a = i ∧ b < j) then cl D k a b else D a b
theorem mn_self (a : Int) : mnI a a = a := by rcases (mn_cases a a).1 with e | e <;> exact e
theorem cl_col {D : DM} {k : Nat} (h : D k k = 0) (a : Nat) : cl D k a k = D a k := by
  unfold cl
  split
  · rw [h, Int.add_zero, mn_self]
  · rfl
theorem cl_row {D : DM} {k : Nat} (h : D k k = 0) (b : Nat) : cl D k k b = D k b := by
  unfold cl
  split
  · rw [h, Int.zero_add, mn_self]
  · rfl
theorem inv_step {N k : Nat} {D E : DM} (h0 : D k k = 0) {i j : Nat} (hj : j ≤ N) (h : InvC N k D i j E) : InvC N k D i (j + 1) (fwS k i j E) := by
  have e1 : E i k = D i k := by rw [h i k]; split; exact cl_col h0 i; rfl
  have e2 : E k j = D k j := by rw [h k j]; split; exact cl_row h0 j; rfl
  have e3 : E i j = D i j := by rw [h i j, if_neg (by omega)]
  have other : ∀ a b, ¬(a = i ∧ b = j) → E a b = if (a < i ∧ b ≤ N) ∨ (a = i ∧ b < j + 1) then cl D k a b else D a b := by
    intro a b hne
    rw [h a b]
    by_cases hc : (a < i ∧ b ≤ N) ∨ (a = i ∧ b < j)
    · rw [if_pos hc, if_pos (by omega)]
    · rw [if_neg hc, if_neg (by omega)]
  intro a b
  unfold fwS
  rw [e1, e2, e3]
  split
  · rename_i hc
    rcases updD_cases E i j (mnI (D i j) (D i k + D k j)) a b with ⟨rfl, rfl, e⟩ | ⟨hne, e⟩
    · rw [e, if_pos (by omega)]
      unfold cl
      rw [if_pos hc]
    · rw [e]; exact other a b hne
  · rename_i hc
    by_cases hab : a = i ∧ b = j
    · obtain ⟨rfl, rfl⟩ := hab
      rw [e3, if_pos (by omega)]
      unfold cl
      rw [if_neg hc]
    · exact other a b hab
theorem inv_J {N k : Nat} {D E : DM} (h0 : D k k = 0) {i : Nat} (h : InvC N k D i 0 E) : ∀ j, j ≤ N + 1 → InvC N k D i j (fwJ k i j E)
  | 0, _ => h
  | j + 1, hj => inv_step h0 (by omega) (inv_J h0 h j (by omega))
theorem inv_I {N k : Nat} {D : DM} (h0 : D k k = 0) : ∀ i, InvC N k D i 0 (fwI N k i D)
  | 0 => fun a b => by rw [if_neg (by omega)]; rfl
  | i + 1 => fun a b => by
    have := inv_J h0 (inv_I (N := N) h0 i) (N + 1) (Nat.le_refl _) a b
    show fwJ k i (N + 1) (fwI N k i D) a b = _
    rw [this]
    by_cases hc : (a < i ∧ b ≤ N) ∨ (a = i ∧ b < N + 1)
    · rw [if_pos hc, if_pos (by omega)]
    · rw [if_neg hc, if_neg (by omega)]
theorem stage_eq {N k : Nat} {D : DM} (h0 : D k k = 0) {a b : Nat} (ha : a ≤ N) (hb : b ≤ N) : fwI N k (N + 1) D a b = cl D k a b := by
  rw [inv_I h0 (N + 1) a b, if_pos (by omega)]
theorem cl_le (D : DM) (k a b : Nat) : cl D k a b ≤ D a b := by
  unfold cl; split
  · exact (mn_cases _ _).2.1
  · exact Int.le_refl _
theorem cl_via {D : DM} {k a b : Nat} (h1 : D a k < farD) (h2 : D k b < farD) : cl D k a b ≤ D a k + D k b := by
  unfold cl; rw [if_pos ⟨h1, h2⟩]; exact (mn_cases _ _).2.2
theorem cl_cases (D : DM) (k a b : Nat) : cl D k a b = D a b ∨ (D a k < farD ∧ D k b < farD ∧ cl D k a b = D a k + D k b) := by
  unfold cl; split
  · rename_i h
    rcases (mn_cases (D a b) (D a k + D k b)).1 with e | e
    · exact .inl e
    · exact .inr ⟨h.1, h.2, e⟩
  · exact .inl rfl
def BdD (N : Nat) (U : Int) (D : DM) : Prop := ∀ a b, a ≤ N → b ≤ N → D a b < farD → -U ≤ D a b ∧ D a b ≤ U
def Cl (N k : Nat) (D : DM) : Prop := ∀ l a b, l < k → l ≤ N → a ≤ N → b ≤ N → D a l < farD → D l b < farD → D a b ≤ D a l + D l b
theorem bd_cl {N : Nat} {U : Int} {D : DM} (hU : 0 ≤ U) (h : BdD N U D) {k : Nat} (hk : k ≤ N) : BdD N (2 * U) (cl D k) := by
  intro a b ha hb hlt
  rcases cl_cases D k a b with e | ⟨h1, h2, e⟩
  · rw [e] at hlt ⊢
    have := h a b ha hb hlt
    omega
  · rw [e]
    have a1 := h a k ha hk h1
    have a2 := h k b hk hb h2
    omega
theorem cl_cl {N : Nat} {U : Int} {D : DM} (hU2 : 2 * U < 1073741824) (hb : BdD N U D) {k : Nat} (hk : k ≤ N) (h0 : D k k = 0) (h : Cl N k D) : Cl N (k + 1) (cl D k) := by
  intro l a b hl hlN ha hbN h1 h2
  have near : ∀ {x y : Int}, x ≤ U → y ≤ U → ∀ {z : Int}, z ≤ x + y → z < farD := fun hx hy _ hz => by show _ < (1073741824 : Int); omega
  by_cases hlk : l = k
  · subst hlk
    rw [cl_col h0] at h1 ⊢
    rw [cl_row h0] at h2 ⊢
    exact cl_via h1 h2
  · have hl : l < k := by omega
    rcases cl_cases D k a l with e1 | ⟨p1, p2, e1⟩ <;> rcases cl_cases D k l b with e2 | ⟨q1, q2, e2⟩
    · rw [e1] at h1; rw [e2] at h2
      rw [e1, e2]
      exact Int.le_trans (cl_le D k a b) (h l a b hl hlN ha hbN h1 h2)
    · rw [e1] at h1
      rw [e1, e2]
      have c := h l a k hl hlN ha hk h1 q1
      have f1 := near (hb a l ha hlN h1).2 (hb l k hlN hk q1).2 c
      have := cl_via f1 q2
      omega
    · rw [e2] at h2
      rw [e1, e2]
      have c := h l k b hl hlN hk hbN p2 h2
      have f1 := near (hb k l hk hlN p2).2 (hb l b hlN hbN h2).2 c
      have := cl_via p1 f1
      omega
    · rw [e1, e2]
      have c := h l k k hl hlN hk hk p2 q1
      rw [h0] at c
      have := cl_via p1 q2
      omega
theorem bd_congr {N : Nat} {U : Int} {D E : DM} (he : ∀ a b, a ≤ N → b ≤ N → E a b = D a b) (h : BdD N U D) : BdD N U E := fun a b ha hb hlt => by
  rw [he a b ha hb] at hlt ⊢; exact h a b ha hb hlt
theorem cl_congr {N k : Nat} {D E : DM} (he : ∀ a b, a ≤ N → b ≤ N → E a b = D a b) (h : Cl N k D) : Cl N k E := fun l a b hl hlN ha hb h1 h2 => by
  rw [he a l ha hlN] at h1 ⊢
  rw [he l b hlN hb] at h2 ⊢
  rw [he a b ha hb]
  exact h l a b hl hlN ha hb h1 h2
theorem stages {N : Nat} (hN : N ≤ 5) {D : DM} (hb : BdD N 10105 D) (hd : ∀ i, i ≤ N → D i i ≤ 0) (hc : ∀ i, i ≤ N → 0 ≤ fwK N (N + 1) D i i) :
    ∀ k, k ≤ N + 1 → BdD N ((10105 * 2 ^ k : Nat) : Int) (fwK N k D) ∧ Cl N k (fwK N k D)
  | 0, _ => ⟨by have e : ((10105 * 2 ^ 0 : Nat) : Int) = 10105 := rfl
                rw [e]; exact hb, fun l a b hl => by omega⟩
  | k + 1, hk => by
    obtain ⟨ih1, ih2⟩ := stages hN hb hd hc k (by omega)
    have h0 : fwK N k D k k = 0 := by
      have h1 := fwK_mono N D k k k (N + 1 - k)
      rw [show k + (N + 1 - k) = N + 1 by omega] at h1
      have h2 := hc k (by omega)
      have h3 := fwK_le N D k k k
      have h4 := hd k (by omega)
      omega
    have he : ∀ a b, a ≤ N → b ≤ N → fwK N (k + 1) D a b = cl (fwK N k D) k a b := fun a b ha hb => stage_eq h0 ha hb
    have p2 : 2 ^ k ≤ 2 ^ 5 := Nat.pow_le_pow_right (by omega) (by omega)
    have p3 : (2 : Nat) ^ 5 = 32 := rfl
    have e : ((10105 * 2 ^ (k + 1) : Nat) : Int) = 2 * ((10105 * 2 ^ k : Nat) : Int) := by rw [Nat.pow_succ]; omega
    rw [e]
    have q : 10105 * 2 ^ k ≤ 323360 := by omega
    exact ⟨bd_congr he (bd_cl (by omega) ih1 (by omega)), cl_congr he (cl_cl (by omega) ih1 (by omega) h0 ih2)⟩

theorem apart_props {g : Gauge} {fs : Fans} {m : Nat} {f : Fam} {wrong : List Int} (v : VB g fs) (hm : m < g.1.length) (fd : FamD fs f) (hc : canP g fs f m wrong = true) :
    BdD fs.length 646720 (apartD g fs m f wrong) ∧ Cl fs.length (fs.length + 1) (apartD g fs m f wrong) ∧ ∀ i, i ≤ fs.length → apartD g fs m f wrong i i = 0 := by
  have h5 := v.f5
  have hcc := v.copy_v hm
  have ho := v.off_v hm
  have hcan := can_iff.1 hc
  have hb : BdD fs.length 10105 (knownD g fs m f wrong fs.length) := by
    intro a b _ _
    refine known_all (P := fun v => v < farD → -10105 ≤ v ∧ v ≤ 10105) (fun _ => by omega) (fun h => absurd h (Int.lt_irrefl _)) (fun k hk => ?_) ⟨fun _ => by omega, fun _ => by omega⟩ fs.length (Nat.le_refl _) a b
    have hv := v.fan_v hk hm
    exact ⟨fun _ => by omega, fun _ => by omega⟩
  have hd : ∀ i, i ≤ fs.length → knownD g fs m f wrong fs.length i i ≤ 0 := fun i _ => known_diag fd fs.length (Nat.le_refl _) i
  obtain ⟨s1, s2⟩ := stages h5 hb hd hcan (fs.length + 1) (Nat.le_refl _)
  have p2 : 2 ^ (fs.length + 1) ≤ 2 ^ 6 := Nat.pow_le_pow_right (by omega) (by omega)
  have p3 : (2 : Nat) ^ 6 = 64 := rfl
  have q : 10105 * 2 ^ (fs.length + 1) ≤ 646720 := by omega
  refine ⟨fun a b ha hb hlt => ?_, s2, fun i hi => ?_⟩
  · have : -((10105 * 2 ^ (fs.length + 1) : Nat) : Int) ≤ apartD g fs m f wrong a b ∧ apartD g fs m f wrong a b ≤ ((10105 * 2 ^ (fs.length + 1) : Nat) : Int) := s1 a b ha hb hlt
    omega
  · have h1 : apartD g fs m f wrong i i ≤ _ := fwK_le fs.length _ i i (fs.length + 1)
    have h2 := hd i hi
    have h3 := hcan i hi
    omega

def potN (D : DM) (N : Nat) (i : Nat) : Nat → Int
  | 0 => 800000
  | k + 1 => if D i k < farD then mnI (potN D N i k) (D i k + if k = N then 0 else 700000) else potN D N i k
theorem pot_le {D : DM} {N i : Nat} : ∀ k j, j < k → D i j < farD → potN D N i k ≤ D i j + if j = N then 0 else 700000
  | 0, _, h, _ => by omega
  | k + 1, j, h, hf => by
    by_cases hj : j = k
    · subst hj
      show (if D i j < farD then mnI (potN D N i j) (D i j + if j = N then 0 else 700000) else potN D N i j) ≤ _
      rw [if_pos hf]; exact (mn_cases _ _).2.2
    · have ih := pot_le (D := D) (N := N) (i := i) k j (by omega) hf
      show (if D i k < farD then mnI (potN D N i k) (D i k + if k = N then 0 else 700000) else potN D N i k) ≤ _
      split
      · exact Int.le_trans (mn_cases _ _).2.1 ih
      · exact ih
theorem pot_is {D : DM} {N i : Nat} : ∀ k, potN D N i k = 800000 ∨ ∃ j, j < k ∧ D i j < farD ∧ potN D N i k = D i j + if j = N then 0 else 700000
  | 0 => .inl rfl
  | k + 1 => by
    show (if D i k < farD then mnI (potN D N i k) (D i k + if k = N then 0 else 700000) else potN D N i k) = 800000 ∨ ∃ j, j < k + 1 ∧ D i j < farD ∧ (if D i k < farD then mnI (potN D N i k) (D i k + if k = N then 0 else 700000) else potN D N i k) = _
    split
    · rename_i hf
      rcases (mn_cases (potN D N i k) (D i k + if k = N then 0 else 700000)).1 with e | e
      · rw [e]
        rcases pot_is (D := D) (N := N) (i := i) k with h | ⟨j, hj, h1, h2⟩
        · exact .inl h
        · exact .inr ⟨j, by omega, h1, h2⟩
      · exact .inr ⟨k, by omega, hf, e⟩
    · rcases pot_is (D := D) (N := N) (i := i) k with h | ⟨j, hj, h1, h2⟩
      · exact .inl h
      · exact .inr ⟨j, by omega, h1, h2⟩
theorem pot_sol {N : Nat} {D : DM} (hb : BdD N 646720 D) (hcl : Cl N (N + 1) D) (hd : ∀ i, i ≤ N → D i i = 0) :
    potN D N N (N + 1) = 0 ∧ Rsp N D (fun i => potN D N i (N + 1)) ∧ ∀ i, i ≤ N → -646720 ≤ potN D N i (N + 1) ∧ potN D N i (N + 1) ≤ 700000 := by
  have z : ∀ i, i ≤ N → D i i < farD := fun i hi => by rw [hd i hi]; decide
  have is : ∀ i, i ≤ N → ∃ j, j ≤ N ∧ D i j < farD ∧ potN D N i (N + 1) = D i j + if j = N then 0 else 700000 := by
    intro i hi
    rcases pot_is (D := D) (N := N) (i := i) (N + 1) with h | ⟨j, hj, h1, h2⟩
    · have := pot_le (D := D) (N := N) (i := i) (N + 1) i (by omega) (z i hi)
      rw [hd i hi] at this
      split at this <;> omega
    · exact ⟨j, by omega, h1, h2⟩
  refine ⟨?_, ?_, fun i hi => ⟨?_, ?_⟩⟩
  · have h1 := pot_le (D := D) (N := N) (i := N) (N + 1) N (by omega) (z N (Nat.le_refl _))
    rw [if_pos rfl, hd N (Nat.le_refl _)] at h1
    obtain ⟨j, hj, hf, e⟩ := is N (Nat.le_refl _)
    by_cases hjN : j = N
    · rw [if_pos hjN, hjN, hd N (Nat.le_refl _)] at e; omega
    · rw [if_neg hjN] at e
      have := hb N j (Nat.le_refl _) hj hf
      omega
  · intro a b ha hb' hlt
    obtain ⟨j, hj, hf, e⟩ := is b hb'
    have c := hcl b a j (by omega) hb' ha hj hlt hf
    have b1 := hb a b ha hb' hlt
    have b2 := hb b j hb' hj hf
    have hf2 : D a j < farD := by show D a j < (1073741824 : Int); omega
    have h1 := pot_le (D := D) (N := N) (i := a) (N + 1) j (by omega) hf2
    simp only
    omega
  · obtain ⟨j, hj, hf, e⟩ := is i hi
    have := hb i j hi hj hf
    split at e <;> omega
  · have h1 := pot_le (D := D) (N := N) (i := i) (N + 1) i (by omega) (z i hi)
    rw [hd i hi] at h1
    split at h1 <;> omega
end Go.Proofs.Tw
set_option linter.unusedVariables false
namespace Go.Proofs.Tw
open Go Go.GX Go.Proofs
section
variable {g : Gauge} {fs : Fans} {f : Fam} {m : Nat} {wrong : List Int}
theorem meas_in {x : Nat → Int} (fl : f.length = fs.length) (hm : Meas g fs m wrong x) (hb : ∀ i, i < fs.length → -1048576 ≤ x i ∧ x i ≤ 1048576) : InS (startF g fs m wrong f.length) x := by
  intro i hi
  rw [startF_len] at hi
  rw [startF_get g fs m wrong hi]
  cases hw : hasF wrong i
  · exact hm i (by omega) hw
  · exact hb i (by omega)
theorem in_meas {x : Nat → Int} (fl : f.length = fs.length) (h : InS (startF g fs m wrong f.length) x) : Meas g fs m wrong x := by
  intro i hi hw
  have := h i (by rw [startF_len]; omega)
  rw [startF_get g fs m wrong (by omega), hw] at this
  exact this
theorem apart_le (a b : Nat) : apartD g fs m f wrong a b ≤ knownD g fs m f wrong fs.length a b := fwK_le _ _ a b _
theorem can_eq (v : VB g fs) (hm : m < g.1.length) (hf : isFamF f fs.length = true) : canP g fs f m wrong = blameP g fs f m wrong := by
  obtain ⟨fd, fo, ho, hall⟩ := fam_of hf
  have fl := fd.len
  have hc := v.copy_v hm
  rw [Bool.eq_iff_iff]
  unfold blameP
  constructor
  · intro h
    obtain ⟨b1, b2, b3⟩ := apart_props v hm fd h
    obtain ⟨x0, xr, xb⟩ := pot_sol b1 b2 b3
    obtain ⟨hs, hme⟩ := rsp_known v hm fd x0 (fun a b => apart_le a b) xr
    obtain ⟨fin, e, _⟩ := truth_sound hf hs (meas_in fl hme fun i hi => by have := xb i (by omega); omega)
    rw [e]; simp
  · intro h
    rw [Bool.or_eq_true] at h
    rcases h with h | h
    · have h := of_decide_eq_true h
      exact can_sound (apart_rsp (x := fun _ => 0) fd rfl (fun i hi => by omega) (fun i hi => by omega))
    · obtain ⟨fin, e⟩ := Option.isSome_iff_exists.1 h
      obtain ⟨l, s1, s2, _⟩ := truth_complete (by omega) hf e
      refine can_sound (apart_rsp fd ?_ s1 (in_meas fl s2))
      rw [List.getD_eq_getElem?_getD, List.getElem?_eq_none (by omega)]; rfl
theorem truth_eq (v : VB g fs) (hm : m < g.1.length) (hf : isFamF f fs.length = true) (hc : canP g fs f m [] = true) {fin : List Span} (e : truthF g fs m f [] = some fin) {i : Nat} (hi : i < fs.length) : truthR g fs f m i = fin.getD i (0, 0) := by
  obtain ⟨fd, fo, ho, hall⟩ := fam_of hf
  have fl := fd.len
  have hcc := v.copy_v hm
  have hoo := v.off_v hm
  obtain ⟨b1, b2, b3⟩ := apart_props v hm fd hc
  obtain ⟨l, s1, s2, s3, s4⟩ := truth_complete (by omega) hf e
  have z : fin.getD fs.length (0, 0) = (0, 0) := by rw [List.getD_eq_getElem?_getD, List.getElem?_eq_none (by omega)]; rfl
  have kf : ∀ j : Nat, j < fs.length → apartD g fs m f [] j fs.length ≤ 10105 ∧ apartD g fs m f [] fs.length j ≤ 10105 := by
    intro j hj
    have hv := v.fan_v hj hm
    have hk := (known_le fd fs.length (Nat.le_refl _) j hj (wrong := []) (g := g) (m := m)).1 rfl
    have a1 := apart_le (g := g) (fs := fs) (m := m) (f := f) (wrong := []) j fs.length
    have a2 := apart_le (g := g) (fs := fs) (m := m) (f := f) (wrong := []) fs.length j
    omega
  have zN := b3 fs.length (Nat.le_refl _)
  have lt : ∀ j : Nat, j ≤ fs.length → apartD g fs m f [] j fs.length < farD ∧ apartD g fs m f [] fs.length j < farD := by
    intro j hj
    show apartD g fs m f [] j fs.length < (1073741824 : Int) ∧ apartD g fs m f [] fs.length j < (1073741824 : Int)
    by_cases h : j = fs.length
    · rw [h, zN]; omega
    · have := kf j (by omega); omega

  have up : Rsp fs.length (apartD g fs m f []) fun j => apartD g fs m f [] j fs.length := by
    intro a b ha hb hlt
    have := b2 b a fs.length (by omega) hb ha (Nat.le_refl _) hlt (lt b hb).1
    simp only; omega
  have down : Rsp fs.length (apartD g fs m f []) fun j => -(apartD g fs m f [] fs.length j) := by
    intro a b ha hb hlt
    have := b2 a fs.length b (by omega) ha (Nat.le_refl _) hb (lt a ha).2 hlt
    simp only; omega
  have bd : ∀ j : Nat, j < fs.length → (-1048576 ≤ apartD g fs m f [] j fs.length ∧ apartD g fs m f [] j fs.length ≤ 1048576) ∧ (-1048576 ≤ -(apartD g fs m f [] fs.length j) ∧ -(apartD g fs m f [] fs.length j) ≤ 1048576) := by
    intro j hj
    have h1 := b1 j fs.length (by omega) (Nat.le_refl _) (lt j (by omega)).1
    have h2 := b1 fs.length j (Nat.le_refl _) (by omega) (lt j (by omega)).2
    omega
  obtain ⟨u1, u2⟩ := rsp_known (x := fun j => apartD g fs m f [] j fs.length) v hm fd zN (fun a b => apart_le a b) up
  obtain ⟨d1, d2⟩ := rsp_known (x := fun j => -(apartD g fs m f [] fs.length j)) v hm fd (show -(apartD g fs m f [] fs.length fs.length) = 0 by rw [zN]; rfl) (fun a b => apart_le a b) down
  obtain ⟨fin1, e1, i1, _⟩ := truth_sound hf u1 (meas_in fl u2 fun j hj => (bd j hj).1)
  obtain ⟨fin2, e2, i2, _⟩ := truth_sound hf d1 (meas_in fl d2 fun j hj => (bd j hj).2)
  obtain rfl := Option.some.inj (e.symm.trans e1)
  obtain rfl := Option.some.inj (e.symm.trans e2)
  have r1 := apart_rsp (x := fun j => (fin.getD j (0, 0)).2) fd (by rw [z]) s1 (in_meas fl s2)
  have r2 := apart_rsp (x := fun j => (fin.getD j (0, 0)).1) fd (by rw [z]) s3 (in_meas fl s4)
  have q1 := r1 i fs.length (by omega) (Nat.le_refl _) (lt i (by omega)).1
  have q2 := r2 fs.length i (Nat.le_refl _) (by omega) (lt i (by omega)).2
  have w1 := i1 i (by omega)
  have w2 := i2 i (by omega)
  simp only [z] at q1 q2 w1 w2
  unfold truthR
  refine Prod.ext ?_ ?_
  · simp only; omega
  · simp only; omega
theorem right_eq (v : VB g fs) (hf : isFamF f fs.length = true) : rightR g fs f = rightF g fs f := by
  unfold rightR rightF
  refine all_mem _ fun m hm => ?_
  rw [can_eq v (List.mem_range.1 hm) hf]
  unfold blameP
  cases h : truthF g fs m f [] with
  | none =>
    by_cases h0 : f.length = 0
    · simp [h0]
    · simp [h0]; omega
  | some fin => simp
theorem blames_eq (v : VB g fs) (hf : isFamF f fs.length = true) : blameFR g.1.length fs.length (canP g fs f) = blameF g.1.length fs.length (blameP g fs f) :=
  blame_eq v.f5 fun m hm s _ => can_eq v hm hf

theorem truths_eq (v : VB g fs) (hf : isFamF f fs.length = true) (hr : rightR g fs f = true) {i : Nat} (hi : i < fs.length) (hm : m < g.1.length) : ((truthsF g fs f).getD i []).getD m (0, 0) = truthR g fs f m i := by
  have hc : canP g fs f m [] = true := by unfold rightR at hr; exact List.all_eq_true.1 hr m (List.mem_range.2 hm)
  have hb := can_eq v hm hf (wrong := [])
  rw [hc] at hb
  obtain ⟨fd, _⟩ := fam_of hf
  have fl := fd.len
  have : (truthF g fs m f []).isSome = true := by
    unfold blameP at hb
    rw [decide_eq_false (by omega), Bool.false_or] at hb
    exact hb.symm
  obtain ⟨fin, e⟩ := Option.isSome_iff_exists.1 this
  rw [truth_eq v hm hf hc e hi]
  unfold truthsF
  rw [map_range_getD _ _ _ _ hi, map_range_getD _ _ _ _ hm, e]; rfl
end
end Go.Proofs.Tw
set_option linter.unusedVariables false
set_option maxRecDepth 100000
namespace Go.Proofs.Tw
open Go Go.GX Go.Proofs
theorem p7 {g : Gauge} {fs : Fans} {l : List Int} {Q : Bool → Prop} (h : f7_wp (g, fs, l, ()) () Q) : V7 g fs l Q := by
  have h : Q true := h
  show cnd (largeF g fs) (Q true) _
  refine cnd_iff.2 ⟨fun _ => h, fun hl _ => cnd_iff.2 ⟨fun _ => h, fun h7 => ?_⟩⟩
  have h7 := of_decide_eq_false h7
  obtain ⟨l1, l2, l3, l4, l5⟩ := large_no hl
  refine ⟨⟨by simp only; omega, by simp only; omega, by simp only; omega⟩, ⟨by omega, fun f hf => by have := l5 f hf; omega⟩, by simp only [List.length_nil]; omega, ?_⟩
  show cnd (!decide (g = g)) _ (cnd (!decide (fs = fs)) _ (cnd (!decide (l = l)) _ (fs.length ≤ 1000 ∧ cnd (familyF g fs l != 0) (cnd ((blameFn g fs l).2 == familyF g fs l) ((blameFn g fs l).1.length ≤ _ → cnd (((blameFn g fs l).1.length : Int) == 0) (Q true) _) _)
    (cnd ((blameFn g fs l).2 == 0) ((VB g fs ∧ FamD fs l) ∧ cnd (decide ((blameFn g fs l).1 = blameFR g.1.length fs.length (canP g fs l))) (Q true) _) _))))
  refine cnd_f (by simp) (cnd_f (by simp) (cnd_f (by simp) ⟨by omega, ?_⟩))
  by_cases hc : checkF g fs = 0
  · cases hf : isFamF l fs.length
    · have e1 : familyF g fs l = 6 := by unfold familyF; rw [if_neg (by simp [hc]), fam_eq, if_pos hf]
      have e2 : blameFn g fs l = ([], 6) := by unfold blameFn; rw [if_neg (by simp [hc]), if_pos hf]
      rw [e1, e2]
      exact cnd_t rfl (cnd_t rfl fun _ => cnd_t rfl h)
    · have e1 : familyF g fs l = 0 := by unfold familyF; rw [if_neg (by simp [hc]), fam_eq, if_neg (by simp [hf])]
      have e2 : blameFn g fs l = (blameF g.1.length fs.length (blameP g fs l), 0) := by unfold blameFn; rw [if_neg (by simp [hc]), if_neg (by simp [hf])]
      rw [e1, e2]
      have v := VB.of hc
      refine cnd_f rfl (cnd_t rfl ⟨⟨v, (fam_of hf).1⟩, cnd_t ?_ h⟩)
      rw [blames_eq v hf]; simp
  · have e1 : familyF g fs l = checkF g fs := by unfold familyF; rw [if_pos hc]
    have e2 : blameFn g fs l = ([], checkF g fs) := by unfold blameFn; rw [if_pos hc]
    rw [e1, e2]
    exact cnd_t (by simpa using hc) (cnd_t (by simp) fun _ => cnd_t rfl h)
theorem p6 {g : Gauge} {fs : Fans} {l : List Int} {Q : Bool → Prop} (h : f6_wp (g, fs, l, ()) () Q) : V6 g fs l Q := by
  have h : Q true := h
  show cnd (largeF g fs) (Q true) _
  refine cnd_iff.2 ⟨fun _ => h, fun hl _ => cnd_iff.2 ⟨fun _ => h, fun h7 => ?_⟩⟩
  have h7 := of_decide_eq_false h7
  obtain ⟨l1, l2, l3, l4, l5⟩ := large_no hl
  refine ⟨⟨by simp only; omega, by simp only; omega, by simp only; omega⟩, ⟨by omega, fun f hf => by have := l5 f hf; omega⟩, by simp only [List.length_nil]; omega, ?_⟩
  show cnd (!decide (g = g)) _ (cnd (!decide (fs = fs)) _ (cnd (!decide (l = l)) _ (fs.length ≤ 1000 ∧ cnd (familyF g fs l == 0) _ (cnd (familyF g fs l != 0) (cnd ((truthFn g fs l).2 == familyF g fs l) ((truthFn g fs l).1.length ≤ _ → cnd (((truthFn g fs l).1.length : Int) == 0) (Q true) _) _) _))))
  refine cnd_f (by simp) (cnd_f (by simp) (cnd_f (by simp) ⟨by omega, ?_⟩))
  by_cases hc : checkF g fs = 0
  · cases hf : isFamF l fs.length
    · have e1 : familyF g fs l = 6 := by unfold familyF; rw [if_neg (by simp [hc]), fam_eq, if_pos hf]
      have e2 : truthFn g fs l = ([], 6) := by unfold truthFn; rw [if_neg (by simp [hc]), if_pos hf]
      rw [e1, e2]
      exact cnd_f rfl (cnd_t rfl (cnd_t rfl fun _ => cnd_t rfl h))
    · have e1 : familyF g fs l = 0 := by unfold familyF; rw [if_neg (by simp [hc]), fam_eq, if_neg (by simp [hf])]
      have v := VB.of hc
      have fd := (fam_of hf).1
      rw [e1]
      refine cnd_t rfl ⟨⟨v, fd⟩, ?_⟩
      show cnd (!rightR g fs l) (cnd ((truthFn g fs l).2 == 9) ((truthFn g fs l).1.length ≤ _ → cnd (((truthFn g fs l).1.length : Int) == 0) (Q true) _) _) (cnd _ _ (cnd ((truthFn g fs l).2 != 0) _ ((truthFn g fs l).1.length ≤ _ → _ → cnd (((truthFn g fs l).1.length : Int) != (fs.length : Int)) _ _)))
      cases hr : rightR g fs l
      · have e2 : truthFn g fs l = ([], 9) := by unfold truthFn; rw [if_neg (by simp [hc]), if_neg (by simp [hf]), ← right_eq v hf, if_pos hr]
        rw [e2]
        exact cnd_t rfl (cnd_t rfl fun _ => cnd_t rfl h)
      · have e2 : truthFn g fs l = (truthsF g fs l, 0) := by unfold truthFn; rw [if_neg (by simp [hc]), if_neg (by simp [hf]), ← right_eq v hf, if_neg (by simp [hr])]
        simp only [List.nil_append, e2]
        have tl : (truthsF g fs l).length = fs.length := by simp [truthsF]
        refine cnd_f rfl (cnd_f rfl (cnd_f rfl fun _ _ => cnd_f (by show ((((truthsF g fs l).length : Int)) != (fs.length : Int)) = false; rw [tl]; simp) ?_))
        refine forUpGL (n := (truthsF g fs l).length) (fun _ => True) trivial (fun i hi _ hn I μ hI hw => ?_) (fun _ => by exact h)
        have hi2 : i < fs.length := by omega
        have rl : ((truthsF g fs l).getD i []).length = g.1.length := by
          unfold truthsF
          rw [map_range_getD _ _ _ _ hi2]; simp
        have n4 := v.n4
        simp only [Int.toNat_natCast]
        refine ⟨by omega, by omega, cnd_f (by rw [rl]; simp) ?_⟩
        refine forUpGL (n := g.1.length) (fun _ => True) trivial (fun m hm _ hn2 I2 μ2 hI2 hw2 => ?_) (fun _ => by rw [hw]; exact hI trivial)
        simp only [Int.toNat_natCast]
        refine ⟨by omega, by omega, by omega, by rw [rl]; omega, truthR g fs l m i, ⟨⟨v, fd, by simp only; omega, by simp only; omega, by simp only; omega, by simp only; omega⟩, by simp⟩, ?_⟩
        rw [truths_eq v hf hr hi2 hm, hw2]
        exact cnd_f (by simp) (hI2 trivial)
  · have e1 : familyF g fs l = checkF g fs := by unfold familyF; rw [if_pos hc]
    have e2 : truthFn g fs l = ([], checkF g fs) := by unfold truthFn; rw [if_pos hc]
    rw [e1, e2]
    exact cnd_f (by simpa using hc) (cnd_t (by simpa using hc) (cnd_t (by simp) fun _ => cnd_t rfl h))
end Go.Proofs.Tw
set_option maxRecDepth 100000
namespace Go.Proofs.Tw
open Go Go.GX Go.Proofs

theorem ok93 : CallsOK Tryd.prog (assoc glT) 93 f93_ct :=
  callsOK_mk [200,1202] st_ok mk_ok in_ok (AllOK.cons ok75 AllOK.nil) f93_an Tryd.func93 (by kernel_rfl) (by kernel_rfl) f93_ct fun ⟨g, fs, m, f, wrong, _⟩ _ Q h => (v93 g fs m f wrong Q).mp (p93 h)
theorem ok92 : CallsOK Tryd.prog (assoc glT) 92 f92_ct :=
  callsOK_mk [] st_ok mk_ok in_ok AllOK.nil f92_an Tryd.func92 (by kernel_rfl) (by kernel_rfl) f92_ct fun d _ Q h => (v92 d Q).mp (p92 h)
theorem ok91 : CallsOK Tryd.prog (assoc glT) 91 f91_ct :=
  callsOK_mk [] st_ok mk_ok in_ok (AllOK.cons ok74 AllOK.nil) f91_an Tryd.func91 (by kernel_rfl) (by kernel_rfl) f91_ct fun ⟨l, n, _⟩ _ Q h => (v91 l n Q).mp (p91 h)
theorem ok39 : CallsOK Tryd.prog (assoc glT) 39 f39_ct :=
  callsOK_mk [] st_ok mk_ok in_ok (AllOK.cons ok93 (AllOK.cons ok92 AllOK.nil)) f39_an Tryd.func39 (by kernel_rfl) (by kernel_rfl) f39_ct fun ⟨g, fs, f, _⟩ _ Q h => (v39 g fs f Q).mp (p39 h)
theorem ok40 : CallsOK Tryd.prog (assoc glT) 40 f40_ct :=
  callsOK_mk [] st_ok mk_ok in_ok (AllOK.cons ok93 AllOK.nil) no_an Tryd.func40 (by kernel_rfl) (by kernel_rfl) f40_ct fun ⟨g, fs, f, m, i, _⟩ _ Q h => (v40 g fs f m i Q).mp (p40 h)
theorem ok42 : CallsOK Tryd.prog (assoc glT) 42 f42_ct :=
  callsOK_mk [] st_ok mk_ok in_ok (AllOK.cons ok82 (AllOK.cons ok93 (AllOK.cons ok92 (AllOK.cons ok87 AllOK.nil)))) f42_an Tryd.func42 (by kernel_rfl) (by kernel_rfl) f42_ct fun ⟨g, fs, f, _⟩ _ Q h => (v42 g fs f Q).mp (p42 h)
theorem ok38 : CallsOK Tryd.prog (assoc glT) 38 f38_ct :=
  callsOK_mk [] st_ok mk_ok in_ok (AllOK.cons ok23 (AllOK.cons ok91 AllOK.nil)) no_an Tryd.func38 (by kernel_rfl) (by kernel_rfl) f38_ct fun ⟨g, fs, l, _⟩ _ Q h => (v38 g fs l Q).mp (p38 h)
theorem ok6 : CallsOK Tryd.prog (assoc glT) 6 f6_ct :=
  callsOK_mk [] st_ok mk_ok in_ok (AllOK.cons ok17 (AllOK.cons ok18 (AllOK.cons ok19 (AllOK.cons ok20 (AllOK.cons ok37 (AllOK.cons ok24 (AllOK.cons ok25 (AllOK.cons ok32 (AllOK.cons ok38 (AllOK.cons ok39 (AllOK.cons ok40 AllOK.nil))))))))))) f6_an Tryd.func6 (by kernel_rfl) (by kernel_rfl) f6_ct fun ⟨g, fs, l, _⟩ _ Q h => (v6 g fs l Q).mp (p6 h)
theorem ok7 : CallsOK Tryd.prog (assoc glT) 7 f7_ct :=
  callsOK_mk [] st_ok mk_ok in_ok (AllOK.cons ok17 (AllOK.cons ok18 (AllOK.cons ok19 (AllOK.cons ok20 (AllOK.cons ok41 (AllOK.cons ok24 (AllOK.cons ok25 (AllOK.cons ok32 (AllOK.cons ok38 (AllOK.cons ok42 (AllOK.cons ok36 AllOK.nil))))))))))) no_an Tryd.func7 (by kernel_rfl) (by kernel_rfl) f7_ct fun ⟨g, fs, l, _⟩ _ Q h => (v7 g fs l Q).mp (p7 h)
end Go.Proofs.Tw
namespace Go.Proofs.Tw
open Go Go.GX Go.Proofs

def listR (n : Nat) : Nat → List Int → List (List Int)
  | 0, s => if famR s n then [s] else []
  | k + 1, s => (List.range (n + 1)).flatMap fun (j : Nat) => listR n k (s ++ [(j : Int) - 1])
def f102_wp (k : Nat) : Int × List Int × Unit → Unit → (List (List Int) → Prop) → Prop := fun a _ Q => (0 ≤ a.1 ∧ a.1 ≤ 5 ∧ a.1 = (a.2.1.length : Int) + k) ∧ Q (listR a.1.toNat k a.2.1)
def f102_ct (k : Nat) : Ct := ⟨arg2 kI kIs, .unit, kIss, f102_wp k, false, false⟩
def f102_an : Nat → Items
  | 0 => [.t 6 kI, .row 5 5001 false 22 kIs]
  | _ => []
def f102a_wp : Int × List Int × Unit → Unit → (List (List Int) → Prop) → Prop := fun a b Q => ∃ k : Nat, f102_wp k a b Q
def f102a_ct : Ct := ⟨arg2 kI kIs, .unit, kIss, f102a_wp, false, false⟩
def origsR (f : List Int) : List Int := numsF (fun i => decide (f.getD i 0 < 0)) f.length
def f103_wp : List Int → Unit → (List Int → Prop) → Prop := fun f _ Q => f.length ≤ 1000 ∧ Q (origsR f)
def f103_ct : Ct := ⟨kIs, .unit, kIs, f103_wp, true, false⟩
def f103_an : Nat → Items
  | 0 => [.t 4 kI, .row 3 5001 false 3 kI]
  | _ => []
def rightsR (g : Gauge) (fs : Fans) : List Fam := (listR fs.length fs.length []).filter (rightR g fs)
def fewR (n : Int) (l : List Fam) : Int := l.foldl (fun a f => mnI a ((origsR f).length : Int)) n
def familiesR (g : Gauge) (fs : Fans) : List Fam := (rightsR g fs).filter fun f => decide (((origsR f).length : Int) = fewR fs.length (rightsR g fs))
def f61_wp : Gauge × Fans × Unit → Unit → (List (List Int) → Prop) → Prop := fun a _ Q => VB a.1 a.2.1 ∧ Q (familiesR a.1 a.2.1)
def f61_ct : Ct := ⟨arg2 kG kFs, .unit, kIss, f61_wp, false, false⟩
def f61_an : Nat → Items
  | 0 => [.t 8 kI, .row 6 5001 false 22 kIs, .t 7 kI]
  | 2 => [.t 10 kI, .row 9 5002 false 22 kIs]
  | _ => []
def f15_wp : Gauge × Fans × Unit → Unit → (Bool → Prop) → Prop := fun _ _ Q => Q true
def f15_ct : Ct := ⟨arg2 kG kFs, .unit, .bool, f15_wp, false, false⟩
def f15_an : Nat → Items
  | 0 => [.t 17 kI, .row 16 5001 false 3 kI, .row 15 5002 false 3 kI]
  | 2 => [.t 19 kI, .t 18 kI]
  | _ => []

def stillR (g : Gauge) (fs : Fans) (l : List Fam) (m i : Nat) (x : Int) : Nat := l.countP fun f => inB (truthR g fs f m i).1 (truthR g fs f m i).2 x
def mostRN (g : Gauge) (fs : Fans) (l : List Fam) (m i : Nat) (low : Int) : Nat → Int
  | 0 => 0
  | k + 1 => mxI (mostRN g fs l m i low k) (stillR g fs l m i (low + k))
def mostRAt (g : Gauge) (fs : Fans) (l : List Fam) (m i : Nat) : Int := mostRN g fs l m i ((fs.getD i []).getD m 0 - g.1.getD m 0) (2 * g.1.getD m 0 + 1).toNat
def lookRStep (g : Gauge) (fs : Fans) (l : List Fam) (m : Nat) (s : Slip × Int) (n : Nat) : Slip × Int := if mostRAt g fs l m n < s.2 then (((m : Int), (n : Int)), mostRAt g fs l m n) else s
def lookR (g : Gauge) (fs : Fans) (l : List Fam) : Slip × Int := (List.range g.1.length).foldl (fun s m => (List.range fs.length).foldl (lookRStep g fs l m) s) ((0, 0), (l.length : Int))
def f44_wp : Gauge × Fans × Unit → Unit → (Slip × Int × Bool × Unit → Prop) → Prop := fun a _ Q => VB a.1 a.2.1 ∧ Q ((lookR a.1 a.2.1 (familiesR a.1 a.2.1)).1, (lookR a.1 a.2.1 (familiesR a.1 a.2.1)).2, decide ((lookR a.1 a.2.1 (familiesR a.1 a.2.1)).2 < ((familiesR a.1 a.2.1).length : Int)), ())
def f44_ct : Ct := ⟨arg2 kG kFs, .unit, res3 kSlip kI .bool, f44_wp, false, false⟩
def f44_an : Nat → Items
  | 0 => [.t 10 kI, .cell 203 62 kSlip, .t 9 kI]
  | 2 => [.t 11 kI, .cell 203 62 kSlip, .t 9 kI]
  | 4 => [.t 13 kI, .t 12 kI]
  | 6 => [.t 15 kI, .t 14 kI]
  | _ => []
def f8_wp : Gauge × Fans × Unit → Unit → (Bool → Prop) → Prop := fun _ _ Q => Q true
def f8_ct : Ct := ⟨arg2 kG kFs, .unit, .bool, f8_wp, false, false⟩
end Go.Proofs.Tw
set_option linter.unusedVariables false
set_option maxRecDepth 100000
namespace Go.Proofs.Tw
open Go Go.GX Go.Proofs

def V103 (f : List Int) (Q : List Int → Prop) : Prop := ∃ (I : Int → List Int → Prop), ∃ (μ : Int → List Int → Nat), I (0 : Int) ([] : List Int) ∧ ∀ (x : Int) (x_1 : List Int), I x x_1 → List.length f ≤ (9223372036854775807 : Nat) → cnd (decide (x < (↑(List.length f) : Int))) ((0 : Int) ≤ x ∧ x < (↑(List.length f) : Int) ∧ cnd (decide (List.getD f (Int.toNat x) (0 : Int) < (0 : Int))) ((List.length x_1 + List.length (x :: ([] : List Int))) * (8 : Nat) ≤ (140737488355328 : Nat) ∧ I (IntKind.wrap IntKind.i64 (x + (1 : Int))) (x_1 ++ x :: ([] : List Int)) ∧ μ (IntKind.wrap IntKind.i64 (x + (1 : Int))) (x_1 ++ x :: ([] : List Int)) < μ x x_1) (I (IntKind.wrap IntKind.i64 (x + (1 : Int))) x_1 ∧ μ (IntKind.wrap IntKind.i64 (x + (1 : Int))) x_1 < μ x x_1)) (Q x_1)
theorem v103 (f : List Int) (Q : List Int → Prop) : V103 f Q = vcFunc (S0 [] []) f103_ct.own f103_ct.fresh f103_an Tryd.f103 (bodyOf Tryd.f103) f103_ct.A f103_ct.C f103_ct.R f () Q := by kernel_rfl

def V61 (g : List Int × List Int × List (Int × Int)) (fs : List (List Int)) (Q : List (List Int) → Prop) : Prop := List.length fs ≤ (9223372036854775807 : Nat) → f102a_wp ((↑(List.length fs) : Int), ([] : List Int), ()) () fun (r : List (List Int)) ↦ List.length fs ≤ (9223372036854775807 : Nat) → ∃ (I : Int → List (List Int) → Int → Prop), ∃ (μ : Int → List (List Int) → Int → Nat), I (0 : Int) ([] : List (List Int)) (↑(List.length fs) : Int) ∧ ∀ (x : Int) (x_1 : List (List Int)) (x_2 : Int), I x x_1 x_2 → List.length r ≤ (9223372036854775807 : Nat) → cnd (decide (x < (↑(List.length r) : Int))) ((0 : Int) ≤ x ∧ x < (↑(List.length r) : Int) ∧ ∃ (r_1 : Bool), (f39_wp ((Prod.fst g, Prod.fst (Prod.snd g), Prod.snd (Prod.snd g)), fs, List.getD r (Int.toNat x) ([] : List Int), ()) () fun (r' : Bool) ↦ r' = r_1) ∧ cnd r_1 ((0 : Int) ≤ x ∧ x < (↑(List.length r) : Int) ∧ (List.length x_1 + List.length (List.getD r (Int.toNat x) ([] : List Int) :: ([] : List (List Int)))) * (24 : Nat) ≤ (140737488355328 : Nat) ∧ (0 : Int) ≤ x ∧ x < (↑(List.length r) : Int) ∧ ∃ (r_2 : List Int), (f103_wp (List.getD r (Int.toNat x) ([] : List Int)) () fun (r' : List Int) ↦ r' = r_2) ∧ I (IntKind.wrap IntKind.i64 (x + (1 : Int))) (x_1 ++ List.getD r (Int.toNat x) ([] : List Int) :: ([] : List (List Int))) (mnI x_2 (↑(List.length r_2) : Int)) ∧ μ (IntKind.wrap IntKind.i64 (x + (1 : Int))) (x_1 ++ List.getD r (Int.toNat x) ([] : List Int) :: ([] : List (List Int))) (mnI x_2 (↑(List.length r_2) : Int)) < μ x x_1 x_2) (I (IntKind.wrap IntKind.i64 (x + (1 : Int))) x_1 x_2 ∧ μ (IntKind.wrap IntKind.i64 (x + (1 : Int))) x_1 x_2 < μ x x_1 x_2)) (∃ (I : Int → List (List Int) → Prop), ∃ (μ : Int → List (List Int) → Nat), I (0 : Int) ([] : List (List Int)) ∧ ∀ (x : Int) (x_3 : List (List Int)), I x x_3 → List.length x_1 ≤ (9223372036854775807 : Nat) → cnd (decide (x < (↑(List.length x_1) : Int))) ((0 : Int) ≤ x ∧ x < (↑(List.length x_1) : Int) ∧ f103_wp (List.getD x_1 (Int.toNat x) ([] : List Int)) () fun (r : List Int) ↦ List.length r ≤ (9223372036854775807 : Nat) → cnd ((↑(List.length r) : Int) == x_2) ((0 : Int) ≤ x ∧ x < (↑(List.length x_1) : Int) ∧ (List.length x_3 + List.length (List.getD x_1 (Int.toNat x) ([] : List Int) :: ([] : List (List Int)))) * (24 : Nat) ≤ (140737488355328 : Nat) ∧ I (IntKind.wrap IntKind.i64 (x + (1 : Int))) (x_3 ++ List.getD x_1 (Int.toNat x) ([] : List Int) :: ([] : List (List Int))) ∧ μ (IntKind.wrap IntKind.i64 (x + (1 : Int))) (x_3 ++ List.getD x_1 (Int.toNat x) ([] : List Int) :: ([] : List (List Int))) < μ x x_3) (I (IntKind.wrap IntKind.i64 (x + (1 : Int))) x_3 ∧ μ (IntKind.wrap IntKind.i64 (x + (1 : Int))) x_3 < μ x x_3)) (Q x_3))
theorem v61 (g : List Int × List Int × List (Int × Int)) (fs : List (List Int)) (Q : List (List Int) → Prop) : V61 g fs Q = vcFunc (S0 [(102, f102a_ct), (39, f39_ct), (103, f103_ct)] []) f61_ct.own f61_ct.fresh f61_an Tryd.f61 (bodyOf Tryd.f61) f61_ct.A f61_ct.C f61_ct.R (g, fs, ()) () Q := by kernel_rfl

def V15 (g : List Int × List Int × List (Int × Int)) (fs : List (List Int)) (Q : Bool → Prop) : Prop := f17_wp ((Prod.fst g, Prod.fst (Prod.snd g), Prod.snd (Prod.snd g)), fs, ()) () fun (r : Bool) ↦ cnd r (f18_wp () () fun (r : Bool) ↦ Q r) (f19_wp (Prod.fst g, Prod.fst (Prod.snd g), Prod.snd (Prod.snd g)) () fun (r : List Int × List Int × List (Int × Int)) ↦ f20_wp fs () fun (r_1 : List (List Int)) ↦ f54_wp ((Prod.fst r, Prod.fst (Prod.snd r), Prod.snd (Prod.snd r)), r_1, ()) () fun (r_2 : Int × List Int × Int × Unit) ↦ f60_wp ((Prod.fst r, Prod.fst (Prod.snd r), Prod.snd (Prod.snd r)), r_1, ()) () fun (r_3 : List Int × List Int × Int × Unit) ↦ f23_wp ((Prod.fst g, Prod.fst (Prod.snd g), Prod.snd (Prod.snd g)), fs, ()) () fun (r_4 : Int) ↦ f24_wp ((Prod.fst r, Prod.fst (Prod.snd r), Prod.snd (Prod.snd r)), (Prod.fst g, Prod.fst (Prod.snd g), Prod.snd (Prod.snd g)), ()) () fun (r : Bool) ↦ cnd (!r) (Q false) (f25_wp (r_1, fs, ()) () fun (r : Bool) ↦ cnd (!r) (Q false) (cnd (Prod.fst (Prod.snd (Prod.snd r_2)) != r_4) (Q false) (cnd (Prod.fst (Prod.snd (Prod.snd r_3)) != r_4) (Q false) (cnd (r_4 != (0 : Int)) (cnd (Prod.fst r_2 == (0 : Int)) (List.length (Prod.fst (Prod.snd r_2)) ≤ (9223372036854775807 : Nat) → List.length (Prod.fst r_3) ≤ (9223372036854775807 : Nat) → List.length (Prod.fst (Prod.snd r_3)) ≤ (9223372036854775807 : Nat) → cnd (IntKind.wrap IntKind.i64 (IntKind.wrap IntKind.i64 ((↑(List.length (Prod.fst (Prod.snd r_2))) : Int) + (↑(List.length (Prod.fst r_3)) : Int)) + (↑(List.length (Prod.fst (Prod.snd r_3))) : Int)) == (0 : Int)) (f18_wp () () fun (r : Bool) ↦ Q r) (Q false)) (Q false)) (f61_wp ((Prod.fst g, Prod.fst (Prod.snd g), Prod.snd (Prod.snd g)), fs, ()) () fun (r : List (List Int)) ↦ ∃ (I : Int → List Int → List Int → Prop), ∃ (μ : Int → List Int → List Int → Nat), I (0 : Int) ([] : List Int) ([] : List Int) ∧ ∀ (x : Int) (x_1 x_2 : List Int), I x x_1 x_2 → List.length fs ≤ (9223372036854775807 : Nat) → cnd (decide (x < (↑(List.length fs) : Int))) (∃ (I_1 : Int → Int → Prop), ∃ (μ_1 : Int → Int → Nat), I_1 (0 : Int) (0 : Int) ∧ ∀ (x_3 x_4 : Int), I_1 x_3 x_4 → List.length r ≤ (9223372036854775807 : Nat) → cnd (decide (x_3 < (↑(List.length r) : Int))) ((0 : Int) ≤ x_3 ∧ x_3 < (↑(List.length r) : Int) ∧ (0 : Int) ≤ x ∧ x < (↑(List.length (List.getD r (Int.toNat x_3) ([] : List Int))) : Int) ∧ cnd (decide (List.getD (List.getD r (Int.toNat x_3) ([] : List Int)) (Int.toNat x) (0 : Int) < (0 : Int))) (I_1 (IntKind.wrap IntKind.i64 (x_3 + (1 : Int))) (IntKind.wrap IntKind.i64 (x_4 + (1 : Int))) ∧ μ_1 (IntKind.wrap IntKind.i64 (x_3 + (1 : Int))) (IntKind.wrap IntKind.i64 (x_4 + (1 : Int))) < μ_1 x_3 x_4) (I_1 (IntKind.wrap IntKind.i64 (x_3 + (1 : Int))) x_4 ∧ μ_1 (IntKind.wrap IntKind.i64 (x_3 + (1 : Int))) x_4 < μ_1 x_3 x_4)) (cnd (decide (x_4 > (0 : Int))) ((List.length x_1 + List.length (x :: ([] : List Int))) * (8 : Nat) ≤ (140737488355328 : Nat) ∧ (List.length r ≤ (9223372036854775807 : Nat) → cnd (x_4 == (↑(List.length r) : Int)) ((List.length x_2 + List.length (x :: ([] : List Int))) * (8 : Nat) ≤ (140737488355328 : Nat) ∧ I (IntKind.wrap IntKind.i64 (x + (1 : Int))) (x_1 ++ x :: ([] : List Int)) (x_2 ++ x :: ([] : List Int)) ∧ μ (IntKind.wrap IntKind.i64 (x + (1 : Int))) (x_1 ++ x :: ([] : List Int)) (x_2 ++ x :: ([] : List Int)) < μ x x_1 x_2) (I (IntKind.wrap IntKind.i64 (x + (1 : Int))) (x_1 ++ x :: ([] : List Int)) x_2 ∧ μ (IntKind.wrap IntKind.i64 (x + (1 : Int))) (x_1 ++ x :: ([] : List Int)) x_2 < μ x x_1 x_2))) (List.length r ≤ (9223372036854775807 : Nat) → cnd (x_4 == (↑(List.length r) : Int)) ((List.length x_2 + List.length (x :: ([] : List Int))) * (8 : Nat) ≤ (140737488355328 : Nat) ∧ I (IntKind.wrap IntKind.i64 (x + (1 : Int))) x_1 (x_2 ++ x :: ([] : List Int)) ∧ μ (IntKind.wrap IntKind.i64 (x + (1 : Int))) x_1 (x_2 ++ x :: ([] : List Int)) < μ x x_1 x_2) (I (IntKind.wrap IntKind.i64 (x + (1 : Int))) x_1 x_2 ∧ μ (IntKind.wrap IntKind.i64 (x + (1 : Int))) x_1 x_2 < μ x x_1 x_2)))) (List.length r ≤ (9223372036854775807 : Nat) → cnd (decide ((↑(List.length r) : Int) > (0 : Int))) (List.length r ≤ (9223372036854775807 : Nat) → cnd (Prod.fst r_2 == (↑(List.length r) : Int)) ((0 : Int) ≤ (0 : Int) ∧ (0 : Int) < (↑(List.length r) : Int) ∧ f32_wp (Prod.fst (Prod.snd r_2), List.getD r (Int.toNat (0 : Int)) ([] : List Int), ()) () fun (r : Bool) ↦ cnd r (f32_wp (Prod.fst r_3, x_2, ()) () fun (r : Bool) ↦ cnd r (f32_wp (Prod.fst (Prod.snd r_3), x_1, ()) () fun (r : Bool) ↦ cnd r (f18_wp () () fun (r : Bool) ↦ Q r) (Q false)) (Q false)) (Q false)) (Q false)) (Q false))))))))
theorem v15 (g : List Int × List Int × List (Int × Int)) (fs : List (List Int)) (Q : Bool → Prop) : V15 g fs Q = vcFunc (S0 [(17, f17_ct), (18, f18_ct), (19, f19_ct), (20, f20_ct), (54, f54_ct), (60, f60_ct), (23, f23_ct), (24, f24_ct), (25, f25_ct), (61, f61_ct), (32, f32_ct)] []) f15_ct.own f15_ct.fresh f15_an Tryd.f15 (bodyOf Tryd.f15) f15_ct.A f15_ct.C f15_ct.R (g, fs, ()) () Q := by kernel_rfl

def V44 (g : List Int × List Int × List (Int × Int)) (fs : List (List Int)) (Q : (Int × Int) × Int × Bool × Unit → Prop) : Prop := f61_wp ((Prod.fst g, Prod.fst (Prod.snd g), Prod.snd (Prod.snd g)), fs, ()) () fun (r : List (List Int)) ↦ List.length r ≤ (9223372036854775807 : Nat) → ∃ (I : Int → Int × Int → Int → Prop), ∃ (μ : Int → Int × Int → Int → Nat), I (0 : Int) ((0 : Int), (0 : Int)) (↑(List.length r) : Int) ∧ ∀ (x : Int) (x_1 : Int × Int) (x_2 : Int), I x x_1 x_2 → List.length (Prod.fst g) ≤ (9223372036854775807 : Nat) → cnd (decide (x < (↑(List.length (Prod.fst g)) : Int))) (∃ (I_1 : Int → Int × Int → Int → Prop), ∃ (μ_1 : Int → Int × Int → Int → Nat), I_1 (0 : Int) (Prod.fst x_1, Prod.snd x_1) x_2 ∧ ∀ (x_3 : Int) (x_4 : Int × Int) (x_5 : Int), I_1 x_3 x_4 x_5 → List.length fs ≤ (9223372036854775807 : Nat) → cnd (decide (x_3 < (↑(List.length fs) : Int))) ((0 : Int) ≤ x_3 ∧ x_3 < (↑(List.length fs) : Int) ∧ (0 : Int) ≤ x ∧ x < (↑(List.length (List.getD fs (Int.toNat x_3) ([] : List Int))) : Int) ∧ (0 : Int) ≤ x ∧ x < (↑(List.length (Prod.fst g)) : Int) ∧ ∃ (I : Int → Int → Prop), ∃ (μ : Int → Int → Nat), I (IntKind.wrap IntKind.i64 (List.getD (List.getD fs (Int.toNat x_3) ([] : List Int)) (Int.toNat x) (0 : Int) - List.getD (Prod.fst g) (Int.toNat x) (0 : Int))) (0 : Int) ∧ ∀ (x_6 x_7 : Int), I x_6 x_7 → (0 : Int) ≤ x_3 ∧ x_3 < (↑(List.length fs) : Int) ∧ (0 : Int) ≤ x ∧ x < (↑(List.length (List.getD fs (Int.toNat x_3) ([] : List Int))) : Int) ∧ (0 : Int) ≤ x ∧ x < (↑(List.length (Prod.fst g)) : Int) ∧ cnd (decide (x_6 ≤ IntKind.wrap IntKind.i64 (List.getD (List.getD fs (Int.toNat x_3) ([] : List Int)) (Int.toNat x) (0 : Int) + List.getD (Prod.fst g) (Int.toNat x) (0 : Int)))) (∃ (I_2 : Int → Int → Prop), ∃ (μ_2 : Int → Int → Nat), I_2 (0 : Int) (0 : Int) ∧ ∀ (x_8 x_9 : Int), I_2 x_8 x_9 → List.length r ≤ (9223372036854775807 : Nat) → cnd (decide (x_8 < (↑(List.length r) : Int))) ((0 : Int) ≤ x_8 ∧ x_8 < (↑(List.length r) : Int) ∧ ∃ (r_1 : Int × Int), (f40_wp ((Prod.fst g, Prod.fst (Prod.snd g), Prod.snd (Prod.snd g)), fs, List.getD r (Int.toNat x_8) ([] : List Int), x, x_3, ()) () fun (r' : Int × Int) ↦ r' = r_1) ∧ f74_wp (x_6, Prod.fst r_1, Prod.snd r_1, ()) () fun (r : Bool) ↦ cnd r (I_2 (IntKind.wrap IntKind.i64 (x_8 + (1 : Int))) (IntKind.wrap IntKind.i64 (x_9 + (1 : Int))) ∧ μ_2 (IntKind.wrap IntKind.i64 (x_8 + (1 : Int))) (IntKind.wrap IntKind.i64 (x_9 + (1 : Int))) < μ_2 x_8 x_9) (I_2 (IntKind.wrap IntKind.i64 (x_8 + (1 : Int))) x_9 ∧ μ_2 (IntKind.wrap IntKind.i64 (x_8 + (1 : Int))) x_9 < μ_2 x_8 x_9)) (I (IntKind.wrap IntKind.i64 (x_6 + (1 : Int))) (mxI x_7 x_9) ∧ μ (IntKind.wrap IntKind.i64 (x_6 + (1 : Int))) (mxI x_7 x_9) < μ x_6 x_7)) (cnd (decide (x_7 < x_5)) (I_1 (IntKind.wrap IntKind.i64 (x_3 + (1 : Int))) (x, x_3) x_7 ∧ μ_1 (IntKind.wrap IntKind.i64 (x_3 + (1 : Int))) (x, x_3) x_7 < μ_1 x_3 x_4 x_5) (I_1 (IntKind.wrap IntKind.i64 (x_3 + (1 : Int))) (Prod.fst x_4, Prod.snd x_4) x_5 ∧ μ_1 (IntKind.wrap IntKind.i64 (x_3 + (1 : Int))) (Prod.fst x_4, Prod.snd x_4) x_5 < μ_1 x_3 x_4 x_5))) (I (IntKind.wrap IntKind.i64 (x + (1 : Int))) (Prod.fst x_4, Prod.snd x_4) x_5 ∧ μ (IntKind.wrap IntKind.i64 (x + (1 : Int))) (Prod.fst x_4, Prod.snd x_4) x_5 < μ x x_1 x_2)) (List.length r ≤ (9223372036854775807 : Nat) → Q ((Prod.fst x_1, Prod.snd x_1), x_2, decide (x_2 < (↑(List.length r) : Int)), ()))
theorem v44 (g : List Int × List Int × List (Int × Int)) (fs : List (List Int)) (Q : (Int × Int) × Int × Bool × Unit → Prop) : V44 g fs Q = vcFunc (S0 [(61, f61_ct), (40, f40_ct), (74, f74_ct)] []) f44_ct.own f44_ct.fresh f44_an Tryd.f44 (bodyOf Tryd.f44) f44_ct.A f44_ct.C f44_ct.R (g, fs, ()) () Q := by kernel_rfl

def V8 (g : List Int × List Int × List (Int × Int)) (fs : List (List Int)) (Q : Bool → Prop) : Prop := f17_wp ((Prod.fst g, Prod.fst (Prod.snd g), Prod.snd (Prod.snd g)), fs, ()) () fun (r : Bool) ↦ cnd r (f18_wp () () fun (r : Bool) ↦ Q r) (f19_wp (Prod.fst g, Prod.fst (Prod.snd g), Prod.snd (Prod.snd g)) () fun (r : List Int × List Int × List (Int × Int)) ↦ f20_wp fs () fun (r_1 : List (List Int)) ↦ f43_wp ((Prod.fst r, Prod.fst (Prod.snd r), Prod.snd (Prod.snd r)), r_1, ()) () fun (r_2 : (Int × Int) × Int × Int × Unit) ↦ f24_wp ((Prod.fst r, Prod.fst (Prod.snd r), Prod.snd (Prod.snd r)), (Prod.fst g, Prod.fst (Prod.snd g), Prod.snd (Prod.snd g)), ()) () fun (r : Bool) ↦ cnd (!r) (Q false) (f25_wp (r_1, fs, ()) () fun (r : Bool) ↦ cnd (!r) (Q false) (f23_wp ((Prod.fst g, Prod.fst (Prod.snd g), Prod.snd (Prod.snd g)), fs, ()) () fun (r : Int) ↦ cnd (r == (0 : Int)) (f44_wp ((Prod.fst g, Prod.fst (Prod.snd g), Prod.snd (Prod.snd g)), fs, ()) () fun (r : (Int × Int) × Int × Bool × Unit) ↦ cnd (Prod.fst (Prod.snd (Prod.snd r))) (cnd (Prod.fst (Prod.snd (Prod.snd r_2)) == (0 : Int)) (cnd (Prod.fst (Prod.fst r_2) == Prod.fst (Prod.fst r) && (Prod.snd (Prod.fst r_2) == Prod.snd (Prod.fst r) && true)) (cnd (Prod.fst (Prod.snd r_2) == Prod.fst (Prod.snd r)) (f18_wp () () fun (r : Bool) ↦ Q r) (Q false)) (Q false)) (Q false)) (cnd (Prod.fst (Prod.snd (Prod.snd r_2)) == (7 : Int)) (cnd (Prod.fst (Prod.fst r_2) == (0 : Int) && (Prod.snd (Prod.fst r_2) == (0 : Int) && true)) (cnd (Prod.fst (Prod.snd r_2) == (0 : Int)) (f18_wp () () fun (r : Bool) ↦ Q r) (Q false)) (Q false)) (Q false))) (cnd (Prod.fst (Prod.snd (Prod.snd r_2)) == r) (cnd (Prod.fst (Prod.fst r_2) == (0 : Int) && (Prod.snd (Prod.fst r_2) == (0 : Int) && true)) (cnd (Prod.fst (Prod.snd r_2) == (0 : Int)) (f18_wp () () fun (r : Bool) ↦ Q r) (Q false)) (Q false)) (Q false)))))
theorem v8 (g : List Int × List Int × List (Int × Int)) (fs : List (List Int)) (Q : Bool → Prop) : V8 g fs Q = vcFunc (S0 [(17, f17_ct), (18, f18_ct), (19, f19_ct), (20, f20_ct), (43, f43_ct), (24, f24_ct), (25, f25_ct), (23, f23_ct), (44, f44_ct)] []) f8_ct.own f8_ct.fresh no_an Tryd.f8 (bodyOf Tryd.f8) f8_ct.A f8_ct.C f8_ct.R (g, fs, ()) () Q := by kernel_rfl

end Go.Proofs.Tw
set_option linter.unusedVariables false
set_option maxRecDepth 100000
namespace Go.Proofs.Tw
open Go Go.GX Go.Proofs

def V102z (n : Int) (s : List Int) (Q : List (List Int) → Prop) : Prop := List.length s ≤ (9223372036854775807 : Nat) → cnd ((↑(List.length s) : Int) == n) (f91_wp (s, n, ()) () fun (r : Bool) ↦ cnd r (Q (s :: ([] : List (List Int)))) (Q ([] : List (List Int)))) (∃ (I : Int → List (List Int) → Prop), ∃ (μ : Int → List (List Int) → Nat), I (-1 : Int) ([] : List (List Int)) ∧ ∀ (x : Int) (x_1 : List (List Int)), I x x_1 → cnd (decide (x < n)) ((List.length ([] : List Int) + List.length s) * (8 : Nat) ≤ (140737488355328 : Nat) ∧ (List.length (([] : List Int) ++ s) + List.length (x :: ([] : List Int))) * (8 : Nat) ≤ (140737488355328 : Nat) ∧ False) (Q x_1))
theorem V102zE (n : Int) (s : List Int) (Q : List (List Int) → Prop) : V102z n s Q = (vcFunc (S0 [(91, f91_ct)] []) false false f102_an Tryd.f102 (bodyOf Tryd.f102) (arg2 kI kIs) .unit kIss (n, s, ()) () Q) := by kernel_rfl

def V102 (k : Nat) (n : Int) (s : List Int) (Q : List (List Int) → Prop) : Prop := List.length s ≤ (9223372036854775807 : Nat) → cnd ((↑(List.length s) : Int) == n) (f91_wp (s, n, ()) () fun (r : Bool) ↦ cnd r (Q (s :: ([] : List (List Int)))) (Q ([] : List (List Int)))) (∃ (I : Int → List (List Int) → Prop), ∃ (μ : Int → List (List Int) → Nat), I (-1 : Int) ([] : List (List Int)) ∧ ∀ (x : Int) (x_1 : List (List Int)), I x x_1 → cnd (decide (x < n)) ((List.length ([] : List Int) + List.length s) * (8 : Nat) ≤ (140737488355328 : Nat) ∧ (List.length (([] : List Int) ++ s) + List.length (x :: ([] : List Int))) * (8 : Nat) ≤ (140737488355328 : Nat) ∧ f102_wp k (n, ([] : List Int) ++ s ++ x :: ([] : List Int), ()) () fun (r : List (List Int)) ↦ (List.length x_1 + List.length r) * (24 : Nat) ≤ (140737488355328 : Nat) ∧ I (IntKind.wrap IntKind.i64 (x + (1 : Int))) (x_1 ++ r) ∧ μ (IntKind.wrap IntKind.i64 (x + (1 : Int))) (x_1 ++ r) < μ x x_1) (Q x_1))
theorem V102E (k : Nat) (n : Int) (s : List Int) (Q : List (List Int) → Prop) : V102 k n s Q = (vcFunc (S0 [(91, f91_ct), (102, f102_ct k)] []) false false f102_an Tryd.f102 (bodyOf Tryd.f102) (arg2 kI kIs) .unit kIss (n, s, ()) () Q) := by kernel_rfl

end Go.Proofs.Tw
set_option linter.unusedVariables false
namespace Go.Proofs.Tw
open Go Go.GX Go.Proofs
theorem flat_range {α : Type} (M : Nat) (G : Nat → α) : ∀ N, ((List.range N).flatMap fun j => (List.range M).map fun q => G (j * M + q)) = (List.range (N * M)).map G
  | 0 => by simp
  | N + 1 => by
    rw [List.range_succ, List.flatMap_append, flat_range M G N, Nat.succ_mul, List.range_add, List.map_append, List.map_map]
    simp [Function.comp_def]
theorem dig_lead (n : Nat) : ∀ (k j q : Nat), j < n + 1 → q < (n + 1) ^ k → digF n (k + 1) (j * (n + 1) ^ k + q) = ((j : Int) - 1) :: digF n k q
  | 0, j, q, hj, hq => by
    have : q = 0 := by simpa using hq
    subst this
    show digF n 0 _ ++ [(((j * (n + 1) ^ 0 + 0) % (n + 1) : Nat) : Int) - 1] = _
    rw [Nat.pow_zero, Nat.mul_one, Nat.add_zero, Nat.mod_eq_of_lt hj]; rfl
  | k + 1, j, q, hj, hq => by
    have e1 : (j * (n + 1) ^ (k + 1) + q) / (n + 1) = j * (n + 1) ^ k + q / (n + 1) := by
      rw [Nat.pow_succ, ← Nat.mul_assoc, Nat.add_comm, Nat.add_mul_div_right _ _ (Nat.succ_pos n), Nat.add_comm]
    have e2 : (j * (n + 1) ^ (k + 1) + q) % (n + 1) = q % (n + 1) := by
      rw [Nat.pow_succ, ← Nat.mul_assoc, Nat.add_comm, Nat.add_mul_mod_self_right]
    have hq2 : q / (n + 1) < (n + 1) ^ k := by
      rw [Nat.div_lt_iff_lt_mul (Nat.succ_pos n), ← Nat.pow_succ]; exact hq
    show digF n (k + 1) ((j * (n + 1) ^ (k + 1) + q) / (n + 1)) ++ [(((j * (n + 1) ^ (k + 1) + q) % (n + 1) : Nat) : Int) - 1] = _ :: (digF n k (q / (n + 1)) ++ [((q % (n + 1) : Nat) : Int) - 1])
    rw [e1, e2, dig_lead n k j (q / (n + 1)) hj hq2]; rfl
theorem dig_facts (n : Nat) : ∀ k q, (digF n k q).length = k ∧ (digF n k q).all (inB (-1) ((n : Int) - 1)) = true
  | 0, _ => ⟨rfl, rfl⟩
  | k + 1, q => by
    obtain ⟨h1, h2⟩ := dig_facts n k (q / (n + 1))
    have : q % (n + 1) < n + 1 := Nat.mod_lt _ (Nat.succ_pos n)
    refine ⟨?_, ?_⟩
    · show (digF n k (q / (n + 1)) ++ [((q % (n + 1) : Nat) : Int) - 1]).length = k + 1
      rw [List.length_append, h1]; rfl
    · show (digF n k (q / (n + 1)) ++ [((q % (n + 1) : Nat) : Int) - 1]).all _ = true
      rw [List.all_append, h2]
      simp only [List.all_cons, List.all_nil, Bool.and_true, Bool.true_and]
      unfold inB
      simp only [Bool.and_eq_true, decide_eq_true_eq]
      omega
theorem listR_eq (n : Nat) : ∀ k s, listR n k s = ((List.range ((n + 1) ^ k)).map fun q => s ++ digF n k q).filter fun t => famR t n
  | 0, s => by
    show (if famR s n then [s] else []) = _
    have e : ((List.range ((n + 1) ^ 0)).map fun q => s ++ digF n 0 q) = [s] := by
      rw [Nat.pow_zero]
      show [s ++ []] = [s]
      rw [List.append_nil]
    rw [e, List.filter_cons]; rfl
  | k + 1, s => by
    have e1 : listR n (k + 1) s = (List.range (n + 1)).flatMap fun j => (((List.range ((n + 1) ^ k)).map fun q => s ++ digF n (k + 1) (j * (n + 1) ^ k + q)).filter fun t => famR t n) := by
      show ((List.range (n + 1)).flatMap fun (j : Nat) => listR n k (s ++ [(j : Int) - 1])) = _
      refine flatMap_congr' _ fun j hj => ?_
      rw [listR_eq n k]
      congr 1
      refine List.map_congr_left fun q hq => ?_
      rw [dig_lead n k j q (List.mem_range.1 hj) (List.mem_range.1 hq), List.append_assoc]; rfl
    rw [e1, ← List.filter_flatMap, flat_range ((n + 1) ^ k) (fun q => s ++ digF n (k + 1) q) (n + 1), Nat.pow_succ, Nat.mul_comm]
theorem lists_eq (n : Nat) : listR n n [] = famsF n := by
  rw [listR_eq]
  unfold famsF
  have : ((List.range ((n + 1) ^ n)).map fun q => [] ++ digF n n q) = (List.range ((n + 1) ^ n)).map (digF n n) := rfl
  rw [this]
  refine List.filter_congr fun t ht => ?_
  obtain ⟨q, _, rfl⟩ := List.mem_map.1 ht
  obtain ⟨h1, h2⟩ := dig_facts n n q
  rw [fam_eq]
  unfold isFamF
  rw [decide_eq_true h1, h2]; rfl
theorem fams_fam {n : Nat} {f : Fam} (h : f ∈ famsF n) : isFamF f n = true := by
  unfold famsF at h
  obtain ⟨h1, h2⟩ := List.mem_filter.1 h
  obtain ⟨q, _, rfl⟩ := List.mem_map.1 h1
  obtain ⟨h3, h4⟩ := dig_facts n n q
  unfold isFamF
  rw [decide_eq_true h3, h4, h2]; rfl
theorem rights_eq {g : Gauge} {fs : Fans} (v : VB g fs) : rightsR g fs = (famsF fs.length).filter (rightF g fs) := by
  unfold rightsR
  rw [lists_eq]
  exact List.filter_congr fun f hf => right_eq v (fams_fam hf)

theorem numsF_count (p : Nat → Bool) : ∀ k, (numsF p k).length = (List.range k).countP p
  | 0 => rfl
  | k + 1 => by
    rw [numsF_succ, List.length_append, numsF_count p k, List.range_succ, List.countP_append]
    cases h : p k <;> simp [h]
theorem count_range (p : Int → Bool) : ∀ f : List Int, (List.range f.length).countP (fun i => p (f.getD i 0)) = f.countP p := by
  intro f
  have e : f = (List.range f.length).map fun i => f.getD i 0 := by
    refine List.ext_getElem (by simp) fun i h1 h2 => ?_
    rw [List.getElem_map, List.getElem_range, getD_lt h1]
  conv => rhs; rw [e, List.countP_map]
  rfl
theorem origs_len {n : Nat} {f : Fam} (h : isFamF f n = true) : (origsR f).length = origF f := by
  unfold isFamF at h
  simp only [Bool.and_eq_true, decide_eq_true_eq] at h
  obtain ⟨⟨hl, hb⟩, _⟩ := h
  unfold origsR origF
  rw [numsF_count, count_range (fun x => decide (x < 0))]
  refine List.countP_congr fun x hx => ?_
  have := List.all_eq_true.1 hb x hx
  unfold inB at this
  simp only [Bool.and_eq_true, decide_eq_true_eq] at this
  simp only [decide_eq_true_eq, beq_iff_eq]
  omega
def fewN (a : Nat) (l : List Fam) : Nat := l.foldl (fun a f => if origF f < a then origF f else a) a
theorem few_eq : ∀ (l : List Fam) (a : Nat), (∀ f, f ∈ l → (origsR f).length = origF f) → fewR a l = (fewN a l : Nat)
  | [], _, _ => rfl
  | f :: l, a, h => by
    show fewR (mnI a ((origsR f).length : Int)) l = (fewN (if origF f < a then origF f else a) l : Nat)
    rw [h f (List.mem_cons_self ..), ← few_eq l _ fun f hf => h f (List.mem_cons_of_mem _ hf)]
    congr 1
    unfold mnI
    split <;> split <;> omega
theorem fewN_le : ∀ (l : List Fam) (a : Nat), fewN a l ≤ a ∧ (∀ f, f ∈ l → fewN a l ≤ origF f) ∧ (fewN a l = a ∨ ∃ f, f ∈ l ∧ fewN a l = origF f)
  | [], a => ⟨Nat.le_refl _, fun _ h => (by cases h), .inl rfl⟩
  | f :: l, a => by
    have e : fewN a (f :: l) = fewN (if origF f < a then origF f else a) l := rfl
    rw [e]
    by_cases hc : origF f < a
    · rw [if_pos hc]
      obtain ⟨h1, h2, h3⟩ := fewN_le l (origF f)
      refine ⟨by omega, fun x hx => ?_, ?_⟩
      · rcases List.mem_cons.1 hx with rfl | hx
        · exact h1
        · exact h2 x hx
      · rcases h3 with h3 | ⟨x, hx, h3⟩
        · exact .inr ⟨f, List.mem_cons_self .., h3⟩
        · exact .inr ⟨x, List.mem_cons_of_mem _ hx, h3⟩
    · rw [if_neg hc]
      obtain ⟨h1, h2, h3⟩ := fewN_le l a
      refine ⟨h1, fun x hx => ?_, ?_⟩
      · rcases List.mem_cons.1 hx with rfl | hx
        · omega
        · exact h2 x hx
      · rcases h3 with h3 | ⟨x, hx, h3⟩
        · exact .inl h3
        · exact .inr ⟨x, List.mem_cons_of_mem _ hx, h3⟩
theorem fewN_snoc (l : List Fam) (f : Fam) (a : Nat) : fewN a (l ++ [f]) = if origF f < fewN a l then origF f else fewN a l := by
  unfold fewN; rw [List.foldl_append]; rfl
theorem can_fold (g : Gauge) (fs : Fans) (n : Nat) : ∀ (L P : List Fam), L.foldl (canStep g fs) (fewN n (P.filter (rightF g fs)), (P.filter (rightF g fs)).filter fun f => decide (origF f = fewN n (P.filter (rightF g fs)))) =
    (fewN n ((P ++ L).filter (rightF g fs)), ((P ++ L).filter (rightF g fs)).filter fun f => decide (origF f = fewN n ((P ++ L).filter (rightF g fs))))
  | [], P => by rw [List.append_nil]; rfl
  | f :: L, P => by
    have e : P ++ f :: L = (P ++ [f]) ++ L := by simp
    rw [e, ← can_fold g fs n L (P ++ [f]), List.foldl_cons]
    congr 1
    rw [List.filter_append]
    obtain ⟨b1, b2, b3⟩ := fewN_le (P.filter (rightF g fs)) n
    generalize hR : P.filter (rightF g fs) = R at *
    unfold canStep
    cases hr : rightF g fs f
    · simp [hr]
    · have e1 : [f].filter (rightF g fs) = [f] := by simp [hr]
      rw [e1, fewN_snoc]
      by_cases h1 : fewN n R < origF f
      · rw [if_pos (by simp [h1]), if_neg (by omega), List.filter_append]
        have : [f].filter (fun f => decide (origF f = fewN n R)) = [] := by simp; omega
        rw [this, List.append_nil]
      · rw [if_neg (by simp; omega)]
        by_cases h2 : origF f < fewN n R
        · simp only [if_pos h2]
          rw [List.filter_append]
          have e2 : R.filter (fun x => decide (origF x = origF f)) = [] := by
            rw [List.filter_eq_nil_iff]
            intro x hx
            have := b2 x hx
            simp; omega
          rw [e2]; simp
        · simp only [if_neg h2]
          rw [List.filter_append]
          have : [f].filter (fun x => decide (origF x = fewN n R)) = [f] := by simp; omega
          rw [this]
theorem can_is (g : Gauge) (fs : Fans) : canF g fs = ((famsF fs.length).filter (rightF g fs)).filter fun f => decide (origF f = fewN (fs.length + 1) ((famsF fs.length).filter (rightF g fs))) := by
  have := can_fold g fs (fs.length + 1) (famsF fs.length) []
  unfold canF
  have e : ((famsF fs.length).foldl (canStep g fs) (fs.length + 1, [])) = _ := this
  rw [e]; rfl
theorem families_eq {g : Gauge} {fs : Fans} (v : VB g fs) : familiesR g fs = canF g fs := by
  unfold familiesR
  rw [can_is, rights_eq v]
  have hf : ∀ f, f ∈ (famsF fs.length).filter (rightF g fs) → isFamF f fs.length = true := fun f h => fams_fam (List.mem_filter.1 h).1
  have hl : ∀ f, f ∈ (famsF fs.length).filter (rightF g fs) → (origsR f).length = origF f := fun f h => origs_len (hf f h)
  have ho : ∀ f, f ∈ (famsF fs.length).filter (rightF g fs) → origF f ≤ fs.length := fun f h => by
    have h1 := hf f h
    unfold isFamF at h1
    simp only [Bool.and_eq_true, decide_eq_true_eq] at h1
    have : origF f ≤ f.length := List.countP_le_length
    omega
  generalize (famsF fs.length).filter (rightF g fs) = R at *
  rw [few_eq R fs.length hl]
  refine List.filter_congr fun f hfR => ?_
  rw [hl f hfR]
  obtain ⟨a1, a2, a3⟩ := fewN_le R fs.length
  obtain ⟨b1, b2, b3⟩ := fewN_le R (fs.length + 1)
  have h1 := ho f hfR
  have h2 := b2 f hfR
  have h3 := a2 f hfR
  have : fewN fs.length R = fewN (fs.length + 1) R := by
    rcases b3 with b3 | ⟨y, hy, b3⟩
    · omega
    · have := a2 y hy
      rcases a3 with a3 | ⟨z, hz, a3⟩
      · have := ho y hy; omega
      · have := b2 z hz; omega
  rw [this, Bool.eq_iff_iff]
  simp only [decide_eq_true_eq]
  omega
end Go.Proofs.Tw
set_option linter.unusedVariables false
set_option maxRecDepth 100000
namespace Go.Proofs.Tw
open Go Go.GX Go.Proofs
theorem listR_len (n k : Nat) (s : List Int) : (listR n k s).length ≤ (n + 1) ^ k := by
  rw [listR_eq]
  refine Nat.le_trans (List.length_filter_le _ _) ?_
  rw [List.length_map, List.length_range]; exact Nat.le_refl _
theorem pow65 {n k : Nat} (hn : n ≤ 5) (hk : k ≤ 5) : (n + 1) ^ k ≤ 7776 :=
  Nat.le_trans (Nat.pow_le_pow_left (show n + 1 ≤ 6 by omega) k) (Nat.pow_le_pow_right (by omega) hk)
theorem p102z {n : Int} {s : List Int} {Q : List (List Int) → Prop} (h : f102_wp 0 (n, s, ()) () Q) : V102z n s Q := by
  obtain ⟨⟨h1, h2, h3⟩, h⟩ := h
  simp only at h1 h2 h3
  have h : Q (if famR s n.toNat then [s] else []) := h
  refine fun _ => cnd_t (by simp [h3]) ⟨⟨h1, by simp only; omega⟩, ?_⟩
  show cnd (famR s n.toNat) _ _
  cases hb : famR s n.toNat
  · rw [hb, if_neg (by simp)] at h; exact cnd_f rfl h
  · rw [hb, if_pos rfl] at h; exact cnd_t rfl h
theorem p102 {k : Nat} {n : Int} {s : List Int} {Q : List (List Int) → Prop} (h : f102_wp (k + 1) (n, s, ()) () Q) : V102 k n s Q := by
  obtain ⟨⟨h1, h2, h3⟩, h⟩ := h
  simp only at h1 h2 h3
  obtain ⟨N, rfl⟩ := Int.eq_ofNat_of_zero_le h1
  have h : Q (listR N (k + 1) s) := h
  have hN : N = s.length + (k + 1) := by omega
  have step : ∀ j, ((List.range (j + 1)).flatMap fun (j : Nat) => listR N k (s ++ [(j : Int) - 1])) = ((List.range j).flatMap fun (j : Nat) => listR N k (s ++ [(j : Int) - 1])) ++ listR N k (s ++ [(j : Int) - 1]) := fun j => by
    rw [List.range_succ, List.flatMap_append]; simp
  refine fun _ => cnd_f (by simp; omega) ⟨fun x l => ∃ j : Nat, j ≤ N + 1 ∧ x = (j : Int) - 1 ∧ l = (List.range j).flatMap fun (j : Nat) => listR N k (s ++ [(j : Int) - 1]), fun x _ => (N - x).toNat, ⟨0, by omega, rfl, rfl⟩, ?_⟩
  rintro x l ⟨j, hj, rfl, rfl⟩
  refine cnd_iff.2 ⟨fun hc => ?_, fun hc => ?_⟩
  · have hc : (j : Int) - 1 < N := of_decide_eq_true hc
    have hw : IntKind.wrap .i64 ((j : Int) - 1 + 1) = ((j + 1 : Nat) : Int) - 1 := by rw [wrapS (by omega) (by omega)]; omega
    refine ⟨by simp; omega, by simp; omega, ⟨by simp only; omega, by simp only; omega, by simp; omega⟩, ?_⟩
    simp only [Int.toNat_natCast, List.nil_append]
    have hl : (((List.range j).flatMap fun (j : Nat) => listR N k (s ++ [(j : Int) - 1])) ++ listR N k (s ++ [(j : Int) - 1])).length ≤ (j + 1) * 7776 := by
      rw [← step]
      have := flat_len (fun (j : Nat) => listR N k (s ++ [(j : Int) - 1])) 7776 (List.range (j + 1)) (fun n _ => Nat.le_trans (listR_len N k _) (pow65 (by omega) (by omega)))
      rwa [List.length_range] at this
    rw [List.length_append] at hl
    exact ⟨by omega, ⟨j + 1, by omega, hw, (step j).symm⟩, by rw [hw]; omega⟩
  · have hc : ¬ (j : Int) - 1 < N := of_decide_eq_false hc
    have : j = N + 1 := by omega
    subst this
    exact h
theorem p103 {f : List Int} {Q : List Int → Prop} (h : f103_wp f () Q) : V103 f Q := by
  obtain ⟨hl, h⟩ := h
  refine forUpL (n := f.length) (fun k => numsF (fun i => decide (f.getD i 0 < 0)) k) rfl (fun k hk I μ hI hw => ?_) h
  have hn := numsF_len (fun i => decide (f.getD i 0 < 0)) k
  rw [numsF_succ] at hI
  simp only [Int.toNat_natCast, hw]
  refine ⟨by omega, by omega, cnd_iff.2 ⟨fun h1 => ?_, fun h1 => ?_⟩⟩
  · rw [if_pos h1] at hI
    exact ⟨by simp only [List.length_cons, List.length_nil]; omega, hI⟩
  · rw [if_neg (by rw [h1]; simp), List.append_nil] at hI
    exact hI
theorem take_filter {α : Type} (p : α → Bool) (l : List α) {k : Nat} (hk : k < l.length) (d : α) : (l.take (k + 1)).filter p = (l.take k).filter p ++ if p (l.getD k d) then [l.getD k d] else [] := by
  rw [List.take_succ_eq_append_getElem hk, List.filter_append, getD_lt hk]
  congr 1
  rw [List.filter_cons]; rfl
theorem lists102 {n : Nat} (hn : n ≤ 5) {K : List (List Int) → Prop} (h : ∀ R, R = famsF n → K R) : f102a_wp ((n : Int), [], ()) () K :=
  ⟨n, ⟨by simp only; omega, by simp only; omega, by simp⟩, h _ (by simp only [Int.toNat_natCast]; exact lists_eq n)⟩
theorem p61 {g : Gauge} {fs : Fans} {Q : List (List Int) → Prop} (h : f61_wp (g, fs, ()) () Q) : V61 g fs Q := by
  obtain ⟨v, h⟩ := h
  simp only at v
  have h : Q (familiesR g fs) := h
  have f5 := v.f5
  intro _
  refine lists102 f5 fun R hR _ => ?_
  have hRl : R.length ≤ 7776 := by rw [hR, ← lists_eq]; exact Nat.le_trans (listR_len _ _ _) (pow65 f5 f5)
  have hRf : ∀ f, f ∈ R → isFamF f fs.length = true := fun f hf => fams_fam (hR ▸ hf)
  have hfl : ∀ f, f ∈ R → f.length = fs.length := fun f hf => (fam_of (hRf f hf)).1.len
  have h : Q ((R.filter (rightR g fs)).filter fun f => decide (((origsR f).length : Int) = fewR fs.length (R.filter (rightR g fs)))) := by
    have e : familiesR g fs = _ := rfl
    unfold familiesR rightsR at h
    rw [lists_eq, ← hR] at h
    exact h
  clear hR
  refine forUp2L (σ := List (List Int)) (τ := Int) (n := R.length) (fun k => (R.take k).filter (rightR g fs)) (fun k => fewR fs.length ((R.take k).filter (rightR g fs))) rfl rfl (fun k hk I μ hI hw => ?_) ?_
  · have hm := getD_mem (d := ([] : List Int)) hk
    have tl : ((R.take k).filter (rightR g fs)).length ≤ 7776 := by
      refine Nat.le_trans (List.length_filter_le _ _) ?_
      rw [List.length_take]; omega
    have tf := take_filter (rightR g fs) R hk []
    have l5 := hfl _ hm
    have fd := (fam_of (hRf _ hm)).1
    rw [tf] at hI
    simp only [Int.toNat_natCast, hw]
    refine ⟨by omega, by omega, rightR g fs (R.getD k []), ⟨⟨v, fd⟩, rfl⟩, cnd_iff.2 ⟨fun h1 => ?_, fun h1 => ?_⟩⟩
    · rw [if_pos h1] at hI
      refine ⟨by omega, by omega, by simp only [List.length_cons, List.length_nil]; omega, by omega, by omega, origsR (R.getD k []), ⟨by omega, rfl⟩, ?_⟩
      have e : fewR fs.length ((R.take k).filter (rightR g fs) ++ [R.getD k []]) = mnI (fewR fs.length ((R.take k).filter (rightR g fs))) ((origsR (R.getD k [])).length : Int) := by
        unfold fewR; rw [List.foldl_append]; rfl
      rw [e] at hI
      exact hI
    · rw [if_neg (by rw [h1]; simp), List.append_nil] at hI
      exact hI
  · rw [List.take_length]
    have hRl2 : (R.filter (rightR g fs)).length ≤ 7776 := Nat.le_trans (List.length_filter_le _ _) hRl
    have hfl2 : ∀ f, f ∈ R.filter (rightR g fs) → f.length = fs.length := fun f hf => hfl f (List.mem_filter.1 hf).1
    generalize R.filter (rightR g fs) = S at *
    refine forUpL (σ := List (List Int)) (n := S.length) (fun k => (S.take k).filter fun f => decide (((origsR f).length : Int) = fewR fs.length S)) rfl (fun k hk I μ hI hw => ?_) (by rw [List.take_length]; exact h)
    have hm := getD_mem (d := ([] : List Int)) hk
    have l5 := hfl2 _ hm
    have tl : ((S.take k).filter fun f => decide (((origsR f).length : Int) = fewR fs.length S)).length ≤ 7776 := by
      refine Nat.le_trans (List.length_filter_le _ _) ?_
      rw [List.length_take]; omega
    have tf := take_filter (fun f => decide (((origsR f).length : Int) = fewR fs.length S)) S hk []
    rw [tf] at hI
    simp only [Int.toNat_natCast, hw]
    refine ⟨by omega, by omega, ⟨by omega, fun _ => cnd_iff.2 ⟨fun h1 => ?_, fun h1 => ?_⟩⟩⟩
    · have h1 : ((origsR (S.getD k [])).length : Int) = fewR fs.length S := by simpa using h1
      rw [if_pos (decide_eq_true h1)] at hI
      exact ⟨by omega, by omega, by simp only [List.length_cons, List.length_nil]; omega, hI⟩
    · have h1 : ¬ ((origsR (S.getD k [])).length : Int) = fewR fs.length S := by simpa using h1
      rw [if_neg (by rw [decide_eq_true_eq]; exact h1), List.append_nil] at hI
      exact hI
end Go.Proofs.Tw
set_option maxRecDepth 100000
namespace Go.Proofs.Tw
open Go Go.GX Go.Proofs
theorem ok102 : ∀ k, CallsOK Tryd.prog (assoc glT) 102 (f102_ct k)
  | 0 => callsOK_mk [] st_ok mk_ok in_ok (AllOK.cons ok91 AllOK.nil) f102_an Tryd.func102 (by kernel_rfl) (by kernel_rfl) (f102_ct 0) fun ⟨n, s, _⟩ _ Q h => (V102zE n s Q).mp (p102z h)
  | k + 1 => callsOK_mk [] st_ok mk_ok in_ok (AllOK.cons ok91 (AllOK.cons (ok102 k) AllOK.nil)) f102_an Tryd.func102 (by kernel_rfl) (by kernel_rfl) (f102_ct (k + 1)) fun ⟨n, s, _⟩ _ Q h => (V102E k n s Q).mp (p102 h)
theorem ok102a : CallsOK Tryd.prog (assoc glT) 102 f102a_ct where
  enters := (ok102 0).enters
  calls := fun X W x y vs cs hX hg hv hc Q hQ => let ⟨k, hk⟩ := hQ; (ok102 k).calls X W x y vs cs hX hg hv hc Q hk
end Go.Proofs.Tw
set_option linter.unusedVariables false
set_option maxRecDepth 100000
namespace Go.Proofs.Tw
open Go Go.GX Go.Proofs
theorem fams61 {g : Gauge} {fs : Fans} (v : VB g fs) {K : List (List Int) → Prop} (h : ∀ R, R = canF g fs → K R) : f61_wp (g, fs, ()) () K := ⟨v, h _ (families_eq v)⟩
theorem can_fam {g : Gauge} {fs : Fans} {f : Fam} (h : f ∈ canF g fs) : isFamF f fs.length = true := fams_fam (canF_mem h).1
theorem fam_neg {n : Nat} {f : Fam} (h : isFamF f n = true) {k : Nat} (hk : k < n) : decide (f.getD k 0 < 0) = (f.getD k 0 == -1) := by
  unfold isFamF at h
  simp only [Bool.and_eq_true, decide_eq_true_eq] at h
  obtain ⟨⟨hl, hb⟩, _⟩ := h
  have := inB_rng hl hb k (by omega)
  rw [Bool.eq_iff_iff]
  simp only [decide_eq_true_eq, beq_iff_eq]
  omega
theorem count_may {g : Gauge} {fs : Fans} {k : Nat} (hk : k < fs.length) : mayF g fs k = decide (0 < (canF g fs).countP fun f => decide (f.getD k 0 < 0)) := by
  unfold mayF
  rw [Bool.eq_iff_iff, List.any_eq_true, decide_eq_true_eq, List.countP_pos_iff]
  constructor
  · rintro ⟨f, h1, h2⟩; exact ⟨f, h1, by rw [fam_neg (can_fam h1) hk]; exact h2⟩
  · rintro ⟨f, h1, h2⟩; exact ⟨f, h1, by rw [fam_neg (can_fam h1) hk] at h2; exact h2⟩
theorem count_sure {g : Gauge} {fs : Fans} {k : Nat} (hk : k < fs.length) : sureF g fs k = decide ((canF g fs).countP (fun f => decide (f.getD k 0 < 0)) = (canF g fs).length) := by
  unfold sureF
  rw [Bool.eq_iff_iff, List.all_eq_true, decide_eq_true_eq, List.countP_eq_length]
  constructor
  · intro h f h1; rw [fam_neg (can_fam h1) hk]; exact h f h1
  · intro h f h1; have := h f h1; rwa [fam_neg (can_fam h1) hk] at this
theorem take_count {α : Type} (p : α → Bool) (l : List α) {k : Nat} (hk : k < l.length) (d : α) : (l.take (k + 1)).countP p = (l.take k).countP p + if p (l.getD k d) then 1 else 0 := by
  rw [List.take_succ_eq_append_getElem hk, List.countP_append, getD_lt hk]
  congr 1
  rw [List.countP_cons]; simp
theorem p15 {g : Gauge} {fs : Fans} {Q : Bool → Prop} (h : f15_wp (g, fs, ()) () Q) : V15 g fs Q := by
  have h : Q true := h
  show cnd (largeF g fs) (Q true) _
  refine cnd_iff.2 ⟨fun _ => h, fun hl => ?_⟩
  obtain ⟨l1, l2, l3, l4, l5⟩ := large_no hl
  refine ⟨⟨by simp only; omega, by simp only; omega, by simp only; omega⟩, ⟨by omega, fun f hf => by have := l5 f hf; omega⟩, ?_⟩
  show cnd (!decide (g = g)) _ (cnd (!decide (fs = fs)) _ (cnd ((familiesFn g fs).2.2 != checkF g fs) _ (cnd ((originalsFn g fs).2.2 != checkF g fs) _ (cnd (checkF g fs != 0) (cnd ((familiesFn g fs).1 == 0) ((familiesFn g fs).2.1.length ≤ _ → (originalsFn g fs).1.length ≤ _ → (originalsFn g fs).2.1.length ≤ _ → cnd (IntKind.wrap .i64 (IntKind.wrap .i64 (((familiesFn g fs).2.1.length : Int) + ((originalsFn g fs).1.length : Int)) + ((originalsFn g fs).2.1.length : Int)) == 0) (Q true) _) _) (f61_wp (g, fs, ()) () _)))))
  refine cnd_f (by simp) (cnd_f (by simp) ?_)
  by_cases hc : checkF g fs = 0
  · have v := VB.of hc
    have e1 : familiesFn g fs = (((canF g fs).length : Int), (canF g fs).getD 0 [], 0) := by unfold familiesFn; rw [if_neg (by simp [hc])]
    have e2 : originalsFn g fs = (numsF (sureF g fs) fs.length, numsF (mayF g fs) fs.length, 0) := by unfold originalsFn; rw [if_neg (by simp [hc])]
    simp only [e1, e2]
    refine cnd_f (by simp [hc]) (cnd_f (by simp [hc]) (cnd_f (by simp [hc]) (fams61 v fun R hR => ?_)))
    have hRl : R.length ≤ 7776 := hR ▸ canF_len v
    have hne : 0 < R.length := List.length_pos_iff.2 (hR ▸ canF_ne v)
    have f5 := v.f5
    refine forUp2L (σ := List Int) (τ := List Int) (n := fs.length) (numsF (mayF g fs)) (numsF (sureF g fs)) rfl rfl (fun k hk I μ hI hw => ?_) ?_
    · have n1 := numsF_len (mayF g fs) k
      have n2 := numsF_len (sureF g fs) k
      rw [numsF_succ, numsF_succ, count_may hk, count_sure hk, ← hR] at hI
      refine forUpL (σ := Int) (n := R.length) (fun j => (((R.take j).countP fun f => decide (f.getD k 0 < 0) : Nat) : Int)) rfl (fun j hj I2 μ2 hI2 hw2 => ?_) ?_
      · have hm := getD_mem (d := ([] : List Int)) hj
        have hm' : R.getD j [] ∈ canF g fs := by rw [← hR]; exact hm
        have fl := (fam_of (can_fam hm')).1.len
        have tc := take_count (fun f : Fam => decide (f.getD k 0 < 0)) R hj []
        rw [tc] at hI2
        have cl : ((R.take j).countP fun f => decide (f.getD k 0 < 0)) ≤ j := Nat.le_trans List.countP_le_length (by rw [List.length_take]; omega)
        simp only [Int.toNat_natCast, hw2]
        refine ⟨by omega, by omega, by omega, by omega, cnd_iff.2 ⟨fun h1 => ?_, fun h1 => ?_⟩⟩
        · rw [if_pos h1] at hI2
          rw [wrapS (by omega) (by omega)]
          exact hI2
        · rw [if_neg (by rw [h1]; simp), Nat.add_zero] at hI2
          exact hI2
      · rw [List.take_length]
        generalize (R.countP fun f => decide (f.getD k 0 < 0)) = c at *
        simp only [hw]
        refine cnd_iff.2 ⟨fun h1 => ⟨by simp; omega, fun _ => cnd_iff.2 ⟨fun h2 => ?_, fun h2 => ?_⟩⟩, fun h1 _ => cnd_iff.2 ⟨fun h2 => ?_, fun h2 => ?_⟩⟩
        · have h1 := of_decide_eq_true h1
          have h2 : (c : Int) = R.length := by simpa using h2
          rw [if_pos (decide_eq_true (by omega)), if_pos (decide_eq_true (by omega))] at hI
          exact ⟨by simp; omega, hI⟩
        · have h1 := of_decide_eq_true h1
          have h2 : ¬ (c : Int) = R.length := by simpa using h2
          rw [if_pos (decide_eq_true (by omega)), if_neg (by rw [decide_eq_true_eq]; omega), List.append_nil] at hI
          exact hI
        · have h1 := of_decide_eq_false h1
          have h2 : (c : Int) = R.length := by simpa using h2
          omega
        · have h1 := of_decide_eq_false h1
          have h2 : ¬ (c : Int) = R.length := by simpa using h2
          rw [if_neg (by rw [decide_eq_true_eq]; omega), if_neg (by rw [decide_eq_true_eq]; omega), List.append_nil, List.append_nil] at hI
          exact hI
    · refine fun _ => cnd_t (decide_eq_true (by omega)) fun _ => cnd_t (by rw [hR]; simp) ⟨by omega, by omega, ?_⟩
      refine cnd_t (b := decide ((canF g fs).getD 0 [] = R.getD 0 [])) (by rw [hR]; simp) ?_
      exact cnd_t (b := decide (numsF (sureF g fs) fs.length = numsF (sureF g fs) fs.length)) (by simp) (cnd_t (b := decide (numsF (mayF g fs) fs.length = numsF (mayF g fs) fs.length)) (by simp) h)
  · have e1 : familiesFn g fs = (0, [], checkF g fs) := by unfold familiesFn; rw [if_pos hc]
    have e2 : originalsFn g fs = ([], [], checkF g fs) := by unfold originalsFn; rw [if_pos hc]
    rw [e1, e2]
    exact cnd_f (by simp) (cnd_f (by simp) (cnd_t (by simpa using hc) (cnd_t rfl fun _ _ _ => cnd_t (by simp only [List.length_nil]; rfl) h)))
end Go.Proofs.Tw
set_option linter.unusedVariables false
set_option maxRecDepth 100000
namespace Go.Proofs.Tw
open Go Go.GX Go.Proofs
theorem truth_can {g : Gauge} {fs : Fans} (v : VB g fs) {f : Fam} (h : f ∈ canF g fs) {m i : Nat} (hm : m < g.1.length) (hi : i < fs.length) : truthR g fs f m i = ((truthF g fs m f []).getD []).getD i (0, 0) := by
  obtain ⟨h1, h2⟩ := canF_mem h
  have hf := fams_fam h1
  have := truths_eq v hf (by rw [right_eq v hf]; exact h2) hi hm
  rw [← this]
  unfold truthsF
  rw [map_range_getD _ _ _ _ hi, map_range_getD _ _ _ _ hm]
theorem still_eq {g : Gauge} {fs : Fans} (v : VB g fs) {m i : Nat} (hm : m < g.1.length) (hi : i < fs.length) (x : Int) : stillR g fs (canF g fs) m i x = stillF (saysF g fs (canF g fs) m) i x := by
  unfold stillR stillF saysF
  rw [List.countP_map]
  refine List.countP_congr fun f hf => ?_
  rw [truth_can v hf hm hi]; rfl
theorem mostN_eq {g : Gauge} {fs : Fans} (v : VB g fs) {m i : Nat} (hm : m < g.1.length) (hi : i < fs.length) (low : Int) : ∀ k, mostRN g fs (canF g fs) m i low k = mostN (saysF g fs (canF g fs) m) i low k
  | 0 => rfl
  | k + 1 => by
    show mxI (mostRN g fs (canF g fs) m i low k) (stillR g fs (canF g fs) m i (low + k)) = mxI (mostN (saysF g fs (canF g fs) m) i low k) (stillF (saysF g fs (canF g fs) m) i (low + k))
    rw [mostN_eq v hm hi low k, still_eq v hm hi]
theorem mostAt_eq {g : Gauge} {fs : Fans} (v : VB g fs) {m i : Nat} (hm : m < g.1.length) (hi : i < fs.length) : mostRAt g fs (canF g fs) m i = mostAt g fs (canF g fs) m i := by
  unfold mostRAt mostAt
  rw [mostN_eq v hm hi]
  have : (2 * g.1.getD m 0 + 1).toNat = ((trulyF g fs m i).2 - (trulyF g fs m i).1 + 1).toNat := by
    unfold trulyF; simp only; congr 1; omega
  rw [this]; rfl
theorem foldl_congr' {α β : Type} {f h : β → α → β} : ∀ (l : List α) (b : β), (∀ b x, x ∈ l → f b x = h b x) → l.foldl f b = l.foldl h b
  | [], _, _ => rfl
  | x :: l, b, hh => by
    rw [List.foldl_cons, List.foldl_cons, hh b x (List.mem_cons_self ..)]
    exact foldl_congr' l _ fun b y hy => hh b y (List.mem_cons_of_mem _ hy)
theorem look_eq {g : Gauge} {fs : Fans} (v : VB g fs) : lookR g fs (canF g fs) = lookF g fs (canF g fs) := by
  unfold lookR lookF
  refine foldl_congr' _ _ fun s m hm => foldl_congr' _ _ fun s i hi => ?_
  unfold lookRStep lookStep
  rw [mostAt_eq v (List.mem_range.1 hm) (List.mem_range.1 hi)]
theorem foldl_le {α σ : Type} {f : σ → α → σ} (p : σ → Int) (h : ∀ s x, p (f s x) ≤ p s) : ∀ (l : List α) (s : σ), p (l.foldl f s) ≤ p s
  | [], _ => Int.le_refl _
  | x :: l, s => Int.le_trans (foldl_le p h l (f s x)) (h s x)
theorem look_le (g : Gauge) (fs : Fans) (l : List Fam) : (lookF g fs l).2 ≤ l.length := by
  unfold lookF
  refine foldl_le (fun s : Slip × Int => s.2) (fun s m => foldl_le (fun s : Slip × Int => s.2) (fun s i => ?_) _ s) _ _
  unfold lookStep
  split
  · rename_i h; exact Int.le_of_lt h
  · exact Int.le_refl _
theorem look44 {g : Gauge} {fs : Fans} (v : VB g fs) {K : Slip × Int × Bool × Unit → Prop} (h : K ((lookF g fs (canF g fs)).1, (lookF g fs (canF g fs)).2, decide ((lookF g fs (canF g fs)).2 < ((canF g fs).length : Int)), ())) : f44_wp (g, fs, ()) () K := by
  refine ⟨v, ?_⟩
  simp only [families_eq v, look_eq v]
  exact h
theorem p8 {g : Gauge} {fs : Fans} {Q : Bool → Prop} (h : f8_wp (g, fs, ()) () Q) : V8 g fs Q := by
  have h : Q true := h
  show cnd (largeF g fs) (Q true) _
  refine cnd_iff.2 ⟨fun _ => h, fun hl => ?_⟩
  obtain ⟨l1, l2, l3, l4, l5⟩ := large_no hl
  refine ⟨⟨by simp only; omega, by simp only; omega, by simp only; omega⟩, ⟨by omega, fun f hf => by have := l5 f hf; omega⟩, ?_⟩
  show cnd (!decide (g = g)) _ (cnd (!decide (fs = fs)) _ (cnd (checkF g fs == 0) (f44_wp (g, fs, ()) () _) (cnd ((lookFn g fs).2.2 == checkF g fs) (cnd ((lookFn g fs).1.1 == 0 && ((lookFn g fs).1.2 == 0 && true)) (cnd ((lookFn g fs).2.1 == 0) (Q true) _) _) _)))
  refine cnd_f (by simp) (cnd_f (by simp) ?_)
  by_cases hc : checkF g fs = 0
  · have v := VB.of hc
    refine cnd_t (by simp [hc]) (look44 v ?_)
    have hle := look_le g fs (canF g fs)
    show cnd (decide ((lookF g fs (canF g fs)).2 < ((canF g fs).length : Int))) (cnd ((lookFn g fs).2.2 == 0) (cnd ((lookFn g fs).1.1 == (lookF g fs (canF g fs)).1.1 && ((lookFn g fs).1.2 == (lookF g fs (canF g fs)).1.2 && true)) (cnd ((lookFn g fs).2.1 == (lookF g fs (canF g fs)).2) (Q true) _) _) _)
      (cnd ((lookFn g fs).2.2 == 7) (cnd ((lookFn g fs).1.1 == 0 && ((lookFn g fs).1.2 == 0 && true)) (cnd ((lookFn g fs).2.1 == 0) (Q true) _) _) _)
    refine cnd_iff.2 ⟨fun h1 => ?_, fun h1 => ?_⟩
    · have h1 := of_decide_eq_true h1
      have e : lookFn g fs = ((lookF g fs (canF g fs)).1, (lookF g fs (canF g fs)).2, 0) := by unfold lookFn; rw [if_neg (by simp [hc]), if_neg (by omega)]
      rw [e]
      exact cnd_t rfl (cnd_t (by simp) (cnd_t (by simp) h))
    · have h1 := of_decide_eq_false h1
      have e : lookFn g fs = ((0, 0), 0, 7) := by unfold lookFn; rw [if_neg (by simp [hc]), if_pos (by omega)]
      rw [e]
      exact cnd_t rfl (cnd_t rfl (cnd_t rfl h))
  · have e : lookFn g fs = ((0, 0), 0, checkF g fs) := by unfold lookFn; rw [if_pos hc]
    rw [e]
    exact cnd_f (by simpa using hc) (cnd_t (by simp) (cnd_t rfl (cnd_t rfl h)))
theorem p44 {g : Gauge} {fs : Fans} {Q : Slip × Int × Bool × Unit → Prop} (h : f44_wp (g, fs, ()) () Q) : V44 g fs Q := by
  obtain ⟨v, h⟩ := h
  simp only [families_eq v] at v h
  have f5 := v.f5
  have n4 := v.n4
  refine fams61 v fun R hR _ => ?_
  rw [← hR] at h
  have hRl : R.length ≤ 7776 := hR ▸ canF_len v
  have hfd : ∀ f, f ∈ R → FamD fs f := fun f hf => (fam_of (can_fam (hR ▸ hf))).1
  clear hR
  refine forUp2L (σ := Slip) (τ := Int) (n := g.1.length) (fun m => ((List.range m).foldl (fun s m => (List.range fs.length).foldl (lookRStep g fs R m) s) ((0, 0), (R.length : Int))).1) (fun m => ((List.range m).foldl (fun s m => (List.range fs.length).foldl (lookRStep g fs R m) s) ((0, 0), (R.length : Int))).2) rfl rfl (fun m hm I μ hI hw => ?_) (fun _ => h)
  rw [List.range_succ, List.foldl_append] at hI
  revert hI
  generalize (List.range m).foldl (fun s m => (List.range fs.length).foldl (lookRStep g fs R m) s) ((0, 0), (R.length : Int)) = A
  intro hI
  have hI : I (m + 1 : Int) ((List.range fs.length).foldl (lookRStep g fs R m) A).1 ((List.range fs.length).foldl (lookRStep g fs R m) A).2 ∧ μ (m + 1 : Int) ((List.range fs.length).foldl (lookRStep g fs R m) A).1 ((List.range fs.length).foldl (lookRStep g fs R m) A).2 < μ m A.1 A.2 := hI
  refine forUp2L (σ := Slip) (τ := Int) (n := fs.length) (fun i => ((List.range i).foldl (lookRStep g fs R m) A).1) (fun i => ((List.range i).foldl (lookRStep g fs R m) A).2) rfl rfl (fun i hi I2 μ2 hI2 hw2 => ?_) (by rw [hw]; exact hI)
  rw [List.range_succ, List.foldl_append] at hI2
  revert hI2
  generalize (List.range i).foldl (lookRStep g fs R m) A = B
  intro hI2
  have hI2 : I2 (i + 1 : Int) (lookRStep g fs R m B i).1 (lookRStep g fs R m B i).2 ∧ μ2 (i + 1 : Int) (lookRStep g fs R m B i).1 (lookRStep g fs R m B i).2 < μ2 i B.1 B.2 := hI2
  have b1 := v.fan_v hi hm
  have b2 := v.off_v hm
  have fl := v.fan hi
  simp only [Int.toNat_natCast, hw2]
  obtain ⟨low, hlow⟩ : ∃ low, low = (fs.getD i []).getD m 0 - g.1.getD m 0 := ⟨_, rfl⟩
  obtain ⟨N, hN⟩ : ∃ N, N = (2 * g.1.getD m 0 + 1).toNat := ⟨_, rfl⟩
  have w1 : IntKind.wrap .i64 ((fs.getD i []).getD m 0 - g.1.getD m 0) = low := by rw [hlow]; exact wrapS (by omega) (by omega)
  have w2 : IntKind.wrap .i64 ((fs.getD i []).getD m 0 + g.1.getD m 0) = low + N - 1 := by rw [wrapS (by omega) (by omega)]; omega
  have hmost : mostRAt g fs R m i = mostRN g fs R m i low N := by unfold mostRAt; rw [← hlow, ← hN]
  simp only [w1, w2]
  refine ⟨by omega, by omega, by omega, by omega, by omega, by omega, fun x y => ∃ q : Nat, q ≤ N ∧ x = low + q ∧ y = mostRN g fs R m i low q, fun x _ => (low + N - x).toNat, ⟨0, by omega, by simp, rfl⟩, ?_⟩
  rintro x y ⟨q, hq, rfl, rfl⟩
  refine ⟨by omega, by omega, by omega, by omega, by omega, by omega, cnd_iff.2 ⟨fun h1 => ?_, fun h1 => ?_⟩⟩
  · have h1 : low + (q : Int) ≤ low + N - 1 := of_decide_eq_true h1
    refine forUpL (σ := Int) (n := R.length) (fun j => (((R.take j).countP fun f => inB (truthR g fs f m i).1 (truthR g fs f m i).2 (low + q) : Nat) : Int)) rfl (fun j hj I3 μ3 hI3 hw3 => ?_) ?_
    · have hmem := getD_mem (d := ([] : List Int)) hj
      have tc := take_count (fun f : Fam => inB (truthR g fs f m i).1 (truthR g fs f m i).2 (low + q)) R hj []
      rw [tc] at hI3
      have cl : ((R.take j).countP fun f => inB (truthR g fs f m i).1 (truthR g fs f m i).2 (low + q)) ≤ j := Nat.le_trans List.countP_le_length (by rw [List.length_take]; omega)
      simp only [Int.toNat_natCast, hw3]
      refine ⟨by omega, by omega, truthR g fs (R.getD j []) m i, ⟨⟨v, hfd _ hmem, by simp only; omega, by simp only; omega, by simp only; omega, by simp only; omega⟩, by simp⟩, ?_⟩
      show cnd (inB (truthR g fs (R.getD j []) m i).1 (truthR g fs (R.getD j []) m i).2 (low + q)) _ _
      refine cnd_iff.2 ⟨fun h2 => ?_, fun h2 => ?_⟩
      · rw [if_pos h2] at hI3
        rw [wrapS (by omega) (by omega)]
        exact hI3
      · rw [if_neg (by rw [h2]; simp), Nat.add_zero] at hI3
        exact hI3
    · rw [List.take_length]
      have hw4 : IntKind.wrap .i64 (low + (q : Int) + 1) = low + ((q + 1 : Nat) : Int) := by rw [wrapS (by omega) (by omega)]; omega
      rw [hw4]
      exact ⟨⟨q + 1, by omega, rfl, rfl⟩, by show (low + N - (low + ((q + 1 : Nat) : Int))).toNat < (low + N - (low + (q : Int))).toNat; omega⟩
  · have h1 : ¬ low + (q : Int) ≤ low + N - 1 := of_decide_eq_false h1
    have : q = N := by omega
    subst this
    rw [← hmost]
    unfold lookRStep at hI2
    refine cnd_iff.2 ⟨fun h2 => ?_, fun h2 => ?_⟩
    · have h2 := of_decide_eq_true h2
      rw [if_pos h2] at hI2
      exact hI2
    · have h2 := of_decide_eq_false h2
      rw [if_neg h2] at hI2
      exact hI2
end Go.Proofs.Tw
set_option maxRecDepth 100000
namespace Go.Proofs.Tw
open Go Go.GX Go.Proofs

theorem ok103 : CallsOK Tryd.prog (assoc glT) 103 f103_ct :=
  callsOK_mk [] st_ok mk_ok in_ok AllOK.nil f103_an Tryd.func103 (by kernel_rfl) (by kernel_rfl) f103_ct fun f _ Q h => (v103 f Q).mp (p103 h)
theorem ok61 : CallsOK Tryd.prog (assoc glT) 61 f61_ct :=
  callsOK_mk [] st_ok mk_ok in_ok (AllOK.cons ok102a (AllOK.cons ok39 (AllOK.cons ok103 AllOK.nil))) f61_an Tryd.func61 (by kernel_rfl) (by kernel_rfl) f61_ct fun ⟨g, fs, _⟩ _ Q h => (v61 g fs Q).mp (p61 h)
theorem ok15 : CallsOK Tryd.prog (assoc glT) 15 f15_ct :=
  callsOK_mk [] st_ok mk_ok in_ok (AllOK.cons ok17 (AllOK.cons ok18 (AllOK.cons ok19 (AllOK.cons ok20 (AllOK.cons ok54 (AllOK.cons ok60 (AllOK.cons ok23 (AllOK.cons ok24 (AllOK.cons ok25 (AllOK.cons ok61 (AllOK.cons ok32 AllOK.nil))))))))))) f15_an Tryd.func15 (by kernel_rfl) (by kernel_rfl) f15_ct fun ⟨g, fs, _⟩ _ Q h => (v15 g fs Q).mp (p15 h)
theorem ok44 : CallsOK Tryd.prog (assoc glT) 44 f44_ct :=
  callsOK_mk [] st_ok mk_ok in_ok (AllOK.cons ok61 (AllOK.cons ok40 (AllOK.cons ok74 AllOK.nil))) f44_an Tryd.func44 (by kernel_rfl) (by kernel_rfl) f44_ct fun ⟨g, fs, _⟩ _ Q h => (v44 g fs Q).mp (p44 h)
theorem ok8 : CallsOK Tryd.prog (assoc glT) 8 f8_ct :=
  callsOK_mk [] st_ok mk_ok in_ok (AllOK.cons ok17 (AllOK.cons ok18 (AllOK.cons ok19 (AllOK.cons ok20 (AllOK.cons ok43 (AllOK.cons ok24 (AllOK.cons ok25 (AllOK.cons ok23 (AllOK.cons ok44 AllOK.nil))))))))) no_an Tryd.func8 (by kernel_rfl) (by kernel_rfl) f8_ct fun ⟨g, fs, _⟩ _ Q h => (v8 g fs Q).mp (p8 h)
end Go.Proofs.Tw
set_option linter.unusedVariables false
namespace Go.GX
open Go.RowKit Go.Shelf Go.Proofs

inductive Tgt where
  | ty (t : TypeId)
  | fs (l : List Field) (off : Nat)

def Tgt.one (P : Program) (n : Nat) : Tgt → Option TypeId
  | .ty t => some t
  | .fs [f] off => cond (Nat.beq f.offset off && Nat.beq (P.cellsOf f.type) n) (some f.type) none
  | .fs _ _ => none

def fitK (P : Program) : Kd → Tgt → Bool
  | .pair A B, .fs (f :: r) off => Nat.beq f.offset off && Nat.beq (P.cellsOf f.type) A.n && fitK P A (.ty f.type) && fitK P B (.fs r (off + A.n))
  | .pair _ _, _ => false
  | .unit, _ => false
  | .int k, s => match s.one P 1 with
    | some t => match P.underlying t with
      | some (.int k') => decide (k' = k)
      | _ => false
    | none => false
  | .bool, s => match s.one P 1 with
    | some t => match P.underlying t with
      | some .bool => true
      | _ => false
    | none => false
  | .sl e K, s => match s.one P 1 with
    | some t => match P.underlying t with
      | some (.slice e') => Nat.beq e' e && Nat.beq (P.cellsOf e) K.n && Nat.ble 1 K.n && fitK P K (.ty e)
      | _ => false
    | none => false
  | .agg K, s => match s.one P K.n with
    | some t => match P.underlying t with
      | some (.struct fs) => Nat.beq (P.cellsOf t) K.n && fitK P K (.fs fs.toList 0)
      | _ => false
    | none => false
  | _, _ => false

section
variable {H : Type} {enc : TypeId × Value → H} {P : Program} {W : World} {base : Nat} {spare : Nat → Bool} {held : Bool}

def Reads (enc : TypeId × Value → H) (P : Program) (W : World) (base : Nat) (spare : Nat → Bool) (held : Bool) : Tgt → List Value → Prop
  | .ty t, cs => ∃ fuel x, DataW.trod enc P W base spare held fuel t cs = some x
  | .fs l off, cs => ∀ (i : Nat) (f : Field), l[i]? = some f → ∃ fuel x, DataW.trod enc P W base spare held fuel f.type ((cs.drop f.offset).take (P.cellsOf f.type)) = some x

def Tgt.cut (n : Nat) : Tgt → List Value → List Value
  | .ty _, cs => cs
  | .fs _ off, cs => (cs.drop off).take n

theorem one_reads {n : Nat} {s : Tgt} {t : TypeId} {cs : List Value} (h : s.one P n = some t) (hr : Reads enc P W base spare held s cs) : ∃ fuel x, DataW.trod enc P W base spare held fuel t (s.cut n cs) = some x := by
  cases s with
  | ty t' => cases h; exact hr
  | fs l off =>
    match l, h with
    | [f], h =>
      simp only [Tgt.one] at h
      cases hb : Nat.beq f.offset off && Nat.beq (P.cellsOf f.type) n with
      | false => rw [hb] at h; cases h
      | true =>
        rw [hb] at h; cases h
        rw [Bool.and_eq_true] at hb
        have h1 := Nat.eq_of_beq_eq_true hb.1
        have h2 := Nat.eq_of_beq_eq_true hb.2
        obtain ⟨fuel, x, hx⟩ := hr 0 f rfl
        exact ⟨fuel, x, by rw [h1, h2] at hx; exact hx⟩

theorem cut0 {l : List Field} {n : Nat} {z : List Value} (h : z.length = n) : (Tgt.fs l 0).cut n z = z := by
  show (z.drop 0).take n = z
  rw [List.drop_zero]
  exact List.take_of_length_le (by omega)
theorem cells?_cell {a : Addr} {n : Nat} {cs : List Value} (h : W.cells? base a n = some cs) : ∀ (i : Nat) u, cs[i]? = some u → W.cell? (a.add i) = some u := by
  unfold World.cells? at h
  split at h
  · intro i u hu
    have hl := mapM_some_length h
    have hi : i < cs.length := (List.getElem?_eq_some_iff.1 hu).1
    have hln : cs.length = n := by simpa using hl
    have := mapM_some_get h i i (List.getElem?_range (by omega))
    rw [this, hu]
  · cases h

theorem fit_ok : ∀ (K : Kd) (s : Tgt) (cs : List Value), fitK P K s = true → Reads enc P W base spare held s cs → (∀ l off, s = .fs l off → off + K.n ≤ cs.length) → ∃ y : K.T, (K.sem P).cells (fun _ => False) W y (s.cut K.n cs) := by
  intro K
  induction K with
  | int k =>
    intro s cs h hr hl
    simp only [fitK] at h
    split at h
    · rename_i t ht
      obtain ⟨fuel, x, hx⟩ := one_reads ht hr
      split at h
      · rename_i k' hu
        have hk := of_decide_eq_true h
        subst hk
        obtain ⟨n, hn, _, _⟩ := DataW.trod_int hu hx
        exact ⟨n, _, hn, rfl, rfl⟩
      · cases h
    · cases h
  | bool =>
    intro s cs h hr hl
    simp only [fitK] at h
    split at h
    · rename_i t ht
      obtain ⟨fuel, x, hx⟩ := one_reads ht hr
      split at h
      · rename_i hu
        obtain ⟨b, hb, _⟩ := DataW.trod_bool hu hx
        exact ⟨b, _, hb, rfl, rfl⟩
      · cases h
    · cases h
  | sl e K ih =>
    intro s cs h hr hl
    simp only [fitK] at h
    split at h
    · rename_i t ht
      obtain ⟨fuel, x, hx⟩ := one_reads ht hr
      split at h
      · rename_i e' hu
        simp only [Bool.and_eq_true] at h
        obtain ⟨⟨⟨h1, h2⟩, hpos⟩, h3⟩ := h
        have hpos := Nat.le_of_ble_eq_true hpos
        obtain rfl := Nat.eq_of_beq_eq_true h1
        have hc := Nat.eq_of_beq_eq_true h2
        rcases DataW.trod_slice hu hx with ⟨hcs, _⟩ | ⟨a, len, cap, elems, rest, n, _, hcs, _, hb, hlc, hcap, hlen, hel, _, _⟩
        · exact ⟨([] : List K.T), _, hcs, rfl, none, 0, rfl, Nat.le_refl _, by unfold maxLen; omega, fun h => absurd rfl h⟩
        · have key : ∀ i : Nat, i < len → ∃ y : K.T, ∃ ecs : List Value, W.cells? base (a.add (i * K.n)) K.n = some ecs ∧ (K.sem P).cells (fun _ => False) W y ecs := by
            intro i hi
            have he := hel i hi
            rw [List.getElem?_eq_getElem (by omega)] at he
            obtain ⟨cs', g1, g2⟩ := Option.bind_eq_some_iff.1 he
            rw [hc] at g1
            obtain ⟨y, hy⟩ := ih (.ty e') cs' h3 ⟨_, _, g2⟩ (fun _ _ h => by cases h)
            exact ⟨y, cs', g1, hy⟩
          have all : ∀ k : Nat, k ≤ len → ∃ ys : List K.T, ys.length = k ∧ ∀ (i : Nat) y, ys[i]? = some y → ∃ ecs : List Value, W.cells? base (a.add (i * K.n)) K.n = some ecs ∧ (K.sem P).cells (fun _ => False) W y ecs := by
            intro k
            induction k with
            | zero => intro _; exact ⟨[], rfl, fun i y h => by simp at h⟩
            | succ k ihk =>
              intro hk
              obtain ⟨ys, hyl, hys⟩ := ihk (by omega)
              obtain ⟨y, ecs, g1, g2⟩ := key k (by omega)
              refine ⟨ys ++ [y], by simp [hyl], fun i z hz => ?_⟩
              by_cases hi : i < ys.length
              · rw [List.getElem?_append_left hi] at hz
                exact hys i z hz
              · have hi' : i = ys.length := by
                  have := (List.getElem?_eq_some_iff.1 hz).1
                  simp at this; omega
                subst hi'
                rw [List.getElem?_concat_length] at hz
                cases hz
                rw [hyl]
                exact ⟨ecs, g1, g2⟩
          obtain ⟨ys, hyl, hys⟩ := all len (Nat.le_refl _)
          refine ⟨ys, _, hcs, rfl, some a, cap, by rw [hyl], by rw [hyl]; exact hlc, hcap, fun hne => ⟨a, rfl, fun h => h, ?_, fun j y hy => ?_⟩⟩
          · obtain ⟨y0, hy0⟩ : ∃ y0, ys[0]? = some y0 := ⟨ys[0]'(List.length_pos_iff.2 hne), List.getElem?_eq_getElem _⟩
            obtain ⟨ecs, g1, g2⟩ := hys 0 y0 hy0
            rw [Nat.zero_mul] at g1
            have hn : 0 < ecs.length := by rw [Kd.cells_length P K g2]; exact hpos
            have := World.block_lt_of_cell? W _ (cells?_cell g1 0 (ecs[0]'hn) (List.getElem?_eq_getElem hn))
            simpa [add_block] using this
          · obtain ⟨ecs, g1, g2⟩ := hys j y hy
            refine ⟨ecs, g2, fun i u hu => ?_⟩
            have := cells?_cell g1 i u hu
            rwa [addAdd] at this
      · cases h
    · cases h
  | agg K ih =>
    intro s cs h hr hl
    simp only [fitK] at h
    split at h
    · rename_i t ht
      obtain ⟨fuel, x, hx⟩ := one_reads ht hr
      split at h
      · rename_i fs hu
        rw [Bool.and_eq_true] at h
        have hc := Nat.eq_of_beq_eq_true h.1
        obtain ⟨xs, n, _, _, hlen, hxl, hf⟩ := DataW.trod_struct hu hx
        obtain ⟨y, hy⟩ := ih (.fs fs.toList 0) (s.cut K.n cs) h.2 (fun i f hi => by
          have hi' : fs[i]? = some f := by simpa using hi
          have := hf i f hi'
          have hlt : i < xs.length := by rw [hxl]; exact (Array.getElem?_eq_some_iff.1 hi').1
          rw [List.getElem?_eq_getElem hlt] at this
          exact ⟨_, _, this⟩) (fun l off h => by cases h; rw [hlen, hc]; omega)
        refine ⟨y, ?_⟩
        have := cut0 (l := fs.toList) (n := K.n) (z := s.cut K.n cs) (by rw [hlen, hc])
        rw [this] at hy
        exact hy
      · cases h
    · cases h
  | pair A B ihA ihB =>
    intro s cs h hr hl
    match s, h with
    | .fs (f :: r) off, h =>
      simp only [fitK, Bool.and_eq_true] at h
      obtain ⟨⟨⟨h1, h2⟩, h3⟩, h4⟩ := h
      have h1 := Nat.eq_of_beq_eq_true h1
      have h2 := Nat.eq_of_beq_eq_true h2
      have hll := hl _ _ rfl
      simp only [Kd.n] at hll
      obtain ⟨fuel, x, hx⟩ := hr 0 f rfl
      obtain ⟨ya, hya⟩ := ihA (.ty f.type) _ h3 ⟨fuel, x, hx⟩ (fun _ _ h => by cases h)
      obtain ⟨yb, hyb⟩ := ihB (.fs r (off + A.n)) cs h4 (fun i f' hi => hr (i + 1) f' (by simpa using hi)) (fun l o h => by cases h; omega)
      refine ⟨(ya, yb), _, _, ?_, hya, hyb⟩
      simp only [Tgt.cut, h1, h2, Kd.n]
      rw [List.take_add, List.drop_drop]
  | _ =>
    intro s cs h hr hl
    first
      | (simp only [fitK] at h; done)
      | (unfold fitK at h; cases h)
      | cases h
end
end Go.GX
set_option maxRecDepth 100000
set_option linter.unusedVariables false
namespace Go.Proofs.Tw
open Go Go.GX Go.Proofs Go.ChangeShapes Go.WideShapes Go.ChangeAt Go.RowKit
open Go.Proofs.YtnhgfmegaoibeaaDoor

theorem own9 : ownKnob Tryd.prog.godebug = none := by kernel_rfl
theorem laidOut9 : laidOutB Tryd.prog = true := by kernel_rfl
theorem u38 : ∃ f0 f1 : Field, Tryd.prog.underlying 38 = some (.struct #[f0, f1]) ∧ f0.offset = 0 ∧ f1.offset = 1 ∧ f0.type = 3 ∧ f1.type = 3 := ⟨_, _, rfl, rfl, rfl, rfl, rfl⟩
theorem laid_glb {W : World} (h : laidMetH Tryd.prog [("panache/twin.anything", Rows.laid_panache_twin_anything)] W) : GlbOK Tryd.prog (assoc glT) (fun _ => False) W := by
  rw [MakeChecks.laidMetH_plain _ _ _ (by kernel_rfl)] at h
  obtain ⟨ps, ⟨g, t, cs, fuel, p, q, hg, ht, hv, hd, _, hps⟩, _, hcell⟩ := h
  obtain rfl := Option.some.inj ((show Tryd.prog.globalNamed "panache/twin.anything" = some 0 by kernel_rfl).symm.trans hg)
  obtain rfl := Option.some.inj ((show (Tryd.prog.globals[0]?).map (·.type) = some 38 by kernel_rfl).symm.trans ht)
  obtain ⟨f0, f1, hu, o0, o1, t0, t1⟩ := u38
  obtain ⟨xs, n, _, hx, hlen, hxl, hf⟩ := DataW.trod_struct hu hd
  have c38 : Tryd.prog.cellsOf 38 = 2 := by kernel_rfl
  have c3 : Tryd.prog.cellsOf 3 = 1 := by kernel_rfl
  have u3 : Tryd.prog.underlying 3 = some (.int .i64) := by kernel_rfl
  rw [c38] at hlen
  have h0 := hf 0 f0 rfl
  have h1 := hf 1 f1 rfl
  rw [o0, t0, c3] at h0
  rw [o1, t1, c3] at h1
  have hxl : xs.length = 2 := hxl
  rw [List.getElem?_eq_getElem (by omega)] at h0 h1
  obtain ⟨a, ha, hax, _⟩ := DataW.trod_int u3 h0
  obtain ⟨b, hb, hbx, _⟩ := DataW.trod_int u3 h1
  have hm : xs.map (·.1) = [.lit (.int .i64 (-1048576)), .lit (.int .i64 1048576)] := (DataW.agg.inj (Prod.mk.inj hx).1).symm
  have ea : (xs.map (·.1))[0]? = some (.lit (.int .i64 a)) := by rw [List.getElem?_map, List.getElem?_eq_getElem (by omega), hax]; rfl
  have eb : (xs.map (·.1))[1]? = some (.lit (.int .i64 b)) := by rw [List.getElem?_map, List.getElem?_eq_getElem (by omega), hbx]; rfl
  rw [hm] at ea eb
  have ea : a = -1048576 := by simpa using ea.symm
  have eb : b = 1048576 := by simpa using eb.symm
  have hcs : cs.toList = [.int .i64 a] ++ [.int .i64 b] := by
    rw [← ha, ← hb]
    match hh : cs.toList, hlen with
    | [u, v], _ => rfl
  intro g v hv'
  have hg0 : g = 0 := by
    unfold assoc glT at hv'
    cases hgb : Nat.beq 0 g with
    | true => exact (Nat.eq_of_beq_eq_true hgb).symm
    | false => simp [assoc, hgb] at hv'
  subst hg0
  have hv' : v = ⟨38, k38, ((-1048576 : Int), (1048576 : Int))⟩ := (Option.some.inj hv').symm
  subst hv'
  have hsz : cs.size = 2 := by rw [← Array.length_toList]; exact hlen
  have hmem : MemPlace.cell 0 0 ∈ ps := by
    rw [hps, hsz]
    refine List.mem_append.2 (.inl (List.mem_append.2 (.inl ?_)))
    simp [MemPlace.row]
  obtain ⟨⟨c, ty, hc⟩, _⟩ := hcell 0 0 hmem
  have hcc : c = cs := by
    have hg2 : Tryd.prog.globalNamed "panache/twin.anything" = some 0 := by kernel_rfl
    simp only [World.var?, hg2, Option.bind_some, hc] at hv
    exact Option.some.inj hv
  subst hcc
  refine ⟨ty, 0, c, rfl, fun h => h, hc, ?_⟩
  rw [hcs, ea, eb]
  exact ⟨[.int .i64 (-1048576)], [.int .i64 1048576], rfl, ⟨_, rfl, rfl, rfl⟩, ⟨_, rfl, rfl, rfl⟩⟩
section
variable {H : Type} {enc : TypeId × Value → H} {W : World} {base b0 : Nat} {spare : Nat → Bool} {held : Bool} {v : Value} {d : DataW H} {p : List MemPlace}
theorem arg_agg {K : Kd} {t : TypeId} {fs : Array Field} (hu : Tryd.prog.underlying t = some (.struct fs)) (hf : fitK Tryd.prog (.agg K) (.ty t) = true) (hv : Value.okWide Tryd.prog W .any b0 t v) (h : DataW.Trod enc Tryd.prog W base spare held t v d p) :
    ∃ x : K.T, ((Kd.agg K).sem Tryd.prog).val (fun _ => False) W x v := by
  obtain ⟨cs, rfl, _⟩ := okWide_struct hu hv
  obtain ⟨fuel, h⟩ := h
  obtain ⟨x, hx⟩ := fit_ok (.agg K) (.ty t) _ hf ⟨fuel, _, h⟩ (fun _ _ h => by cases h)
  exact ⟨x, cs.toList, by simp, hx⟩
theorem arg_sl {K : Kd} {e' : TypeId} {t e : TypeId} (hu : Tryd.prog.underlying t = some (.slice e)) (hf : fitK Tryd.prog (.sl e' K) (.ty t) = true) (hv : Value.okWide Tryd.prog W .any b0 t v) (h : DataW.Trod enc Tryd.prog W base spare held t v d p) :
    ∃ x : List K.T, ((Kd.sl e' K).sem Tryd.prog).val (fun _ => False) W x v := by
  obtain ⟨a, n, c, rfl⟩ := okWide_slice hu hv
  obtain ⟨fuel, h⟩ := h
  obtain ⟨x, v', he, _, hr⟩ := fit_ok (.sl e' K) (.ty t) _ hf ⟨fuel, _, h⟩ (fun _ _ h => by cases h)
  have he : [Value.slice a n c] = [v'] := he
  cases he
  exact ⟨x, hr⟩
end
theorem u25 : ∃ fs, Tryd.prog.underlying 25 = some (.struct fs) := ⟨_, rfl⟩
theorem u26 : Tryd.prog.underlying 26 = some (.slice 81) := by kernel_rfl
theorem fit25 : fitK Tryd.prog kG (.ty 25) = true := by kernel_rfl
theorem fit26 : fitK Tryd.prog kFs (.ty 26) = true := by kernel_rfl

theorem law2 {f : FuncId} {ct : Ct} (hA : ct = ⟨arg2 kG kFs, .unit, .bool, fun _ _ Q => Q true, false, false⟩) (ok : CallsOK Tryd.prog (assoc glT) f ct) {H : Type} {enc : TypeId × Value → H} {W : World} {base b0 b1 : Nat} {spare : Nat → Bool} {held : Bool} {v0 v1 : Value} {d0 d1 : DataW H} {p0 p1 : List MemPlace}
    (hl : laidMetH Tryd.prog [("panache/twin.anything", Rows.laid_panache_twin_anything)] W) (o0 : Value.okWide Tryd.prog W .any b0 25 v0) (h0 : DataW.Trod enc Tryd.prog W base spare held 25 v0 d0 p0) (o1 : Value.okWide Tryd.prog W .any b1 26 v1) (h1 : DataW.Trod enc Tryd.prog W base spare held 26 v1 d1 p1) :
    Calls Tryd.prog f #[v0, v1] W fun e W' => e = .returned (.bool true) ∧ Below W.heap.size W W' := by
  subst hA
  obtain ⟨fs, hu⟩ := u25
  obtain ⟨g, hg⟩ := arg_agg hu fit25 o0 h0
  obtain ⟨fans, hf⟩ := arg_sl u26 fit26 o1 h1
  have := ok.calls (fun _ => False) W (g, fans, ()) () [v0, v1] [] (fun _ h => h.elim) (laid_glb hl) ⟨v0, [v1], rfl, hg, v1, [], rfl, hf, rfl⟩ rfl (fun r => r = true) rfl
  refine this.mono fun e W' h => ?_
  obtain ⟨r, v, he, hv, hb, hr⟩ := h
  have hv : v = .bool r := hv
  subst hr
  exact ⟨by rw [he, hv], hb⟩
end Go.Proofs.Tw
