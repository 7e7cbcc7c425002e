/- Part 9 of the texts behind the proof: FaM3, FaM4, FaPd, FaO5. -/
import Derived.Test.YtacedikpdmdodaaG08
set_option linter.unusedSimpArgs false
set_option linter.unusedVariables false
set_option linter.unusedSectionVars false
set_option linter.unusedVariables false
namespace Go.Proofs.Fa
open Go Go.GX Go.Proofs

theorem ge0_iff {f s : FansT} : ge0 (GX.Fa.less f s) = true ↔ s.1 ≤ f.1 ∧ s.2.1 ≤ f.2.1 ∧ s.2.2.1 ≤ f.2.2.1 ∧ s.2.2.2 ≤ f.2.2.2 := by
  show (decide (0 ≤ f.1 - s.1) && decide (0 ≤ f.2.1 - s.2.1) && decide (0 ≤ f.2.2.1 - s.2.2.1) && decide (0 ≤ f.2.2.2 - s.2.2.2)) = true ↔ _
  simp only [Bool.and_eq_true, decide_eq_true_eq]
  constructor
  · rintro ⟨⟨⟨h1, h2⟩, h3⟩, h4⟩; exact ⟨by omega, by omega, by omega, by omega⟩
  · rintro ⟨h1, h2, h3, h4⟩; exact ⟨⟨⟨by omega, by omega⟩, by omega⟩, by omega⟩
theorem le4_of {f s : FansT} (hs : F5 s) (h : ge0 (GX.Fa.less f s) = true) : le4 s f := by
  obtain ⟨h1, h2, h3, h4⟩ := ge0_iff.1 h
  exact ⟨⟨hs.1.1, h1⟩, ⟨hs.2.1.1, h2⟩, ⟨hs.2.2.1.1, h3⟩, ⟨hs.2.2.2.1, h4⟩⟩
theorem le4_ge {f s : FansT} (h : le4 s f) : ge0 (GX.Fa.less f s) = true := ge0_iff.2 ⟨h.1.2, h.2.1.2, h.2.2.1.2, h.2.2.2.2⟩
theorem le4_F5 {s f : FansT} (h : le4 s f) (hf : F5 f) : F5 s ∧ F5 (GX.Fa.less f s) := by
  obtain ⟨⟨a1, a2⟩, ⟨b1, b2⟩, ⟨c1, c2⟩, ⟨d1, d2⟩⟩ := h
  obtain ⟨⟨a3, a4⟩, ⟨b3, b4⟩, ⟨c3, c4⟩, ⟨d3, d4⟩⟩ := hf
  refine ⟨⟨⟨by omega, by omega⟩, ⟨by omega, by omega⟩, ⟨by omega, by omega⟩, ⟨by omega, by omega⟩⟩, ⟨⟨?_, ?_⟩, ⟨?_, ?_⟩, ⟨?_, ?_⟩, ⟨?_, ?_⟩⟩⟩ <;> simp only [GX.Fa.less] <;> omega
theorem le4_idx {s f : FansT} (h : le4 s f) : idx5 s ≤ idx5 f := by
  obtain ⟨⟨a1, a2⟩, ⟨b1, b2⟩, ⟨c1, c2⟩, ⟨d1, d2⟩⟩ := h
  unfold idx5; omega

theorem lst_fold (b : BinT) (rest : FansT → Int) (f : FansT) : ∀ k : Nat,
    ((List.range k).foldl (fun best (n : Nat) => lstStep b rest f best (atF n)) (-1) = -1 ∧ ∀ m : Nat, m < k → ge0 (GX.Fa.less f (atF m)) = true → 0 ≤ rest (GX.Fa.less f (atF m)) → 0 ≤ costF b (atF m) → False) ∨
    ∃ n : Nat, n < k ∧ (ge0 (GX.Fa.less f (atF n)) = true ∧ 0 ≤ rest (GX.Fa.less f (atF n)) ∧ 0 ≤ costF b (atF n)) ∧ (List.range k).foldl (fun best (n : Nat) => lstStep b rest f best (atF n)) (-1) = costF b (atF n) + rest (GX.Fa.less f (atF n)) ∧
      ∀ m : Nat, m < k → ge0 (GX.Fa.less f (atF m)) = true → 0 ≤ rest (GX.Fa.less f (atF m)) → 0 ≤ costF b (atF m) → (List.range k).foldl (fun best (n : Nat) => lstStep b rest f best (atF n)) (-1) ≤ costF b (atF m) + rest (GX.Fa.less f (atF m))
  | 0 => .inl ⟨rfl, fun m hm => absurd hm (Nat.not_lt_zero _)⟩
  | k + 1 => by
    have ih := lst_fold b rest f k
    rw [foldl_succ]
    generalize (List.range k).foldl (fun best (n : Nat) => lstStep b rest f best (atF n)) (-1) = v at ih ⊢
    by_cases hC : ge0 (GX.Fa.less f (atF k)) = true ∧ 0 ≤ rest (GX.Fa.less f (atF k)) ∧ 0 ≤ costF b (atF k)
    · obtain ⟨c1, c2, c3⟩ := hC
      have e : lstStep b rest f v (atF k) = if decide (v < 0) || decide (costF b (atF k) + rest (GX.Fa.less f (atF k)) < v) then costF b (atF k) + rest (GX.Fa.less f (atF k)) else v := by
        unfold lstStep
        rw [c1, decide_eq_false (show ¬ rest (GX.Fa.less f (atF k)) < 0 by omega), decide_eq_true c3]
        simp
      rw [e]
      by_cases hb : v < 0 ∨ costF b (atF k) + rest (GX.Fa.less f (atF k)) < v
      · rw [if_pos (by simpa using hb)]
        refine .inr ⟨k, by omega, ⟨c1, c2, c3⟩, rfl, fun m hm h1 h2 h3 => ?_⟩
        rcases Nat.lt_succ_iff_lt_or_eq.1 hm with q | rfl
        · rcases ih with ⟨_, ih⟩ | ⟨n, _, ⟨_, g2, g3⟩, hv, ih⟩
          · exact (ih m q h1 h2 h3).elim
          · have := ih m q h1 h2 h3
            rcases hb with hb | hb
            · omega
            · omega
        · exact Int.le_refl _
      · rw [if_neg (by simpa using hb)]
        rcases ih with ⟨hv, ih⟩ | ⟨n, hn, g, hv, ih⟩
        · exact absurd (.inl (by omega)) hb
        · refine .inr ⟨n, by omega, g, hv, fun m hm h1 h2 h3 => ?_⟩
          rcases Nat.lt_succ_iff_lt_or_eq.1 hm with q | rfl
          · exact ih m q h1 h2 h3
          · omega
    · have e : lstStep b rest f v (atF k) = v := by
        unfold lstStep
        by_cases c1 : ge0 (GX.Fa.less f (atF k)) = true
        · by_cases c2 : 0 ≤ rest (GX.Fa.less f (atF k))
          · have c3 : ¬ 0 ≤ costF b (atF k) := fun c3 => hC ⟨c1, c2, c3⟩
            rw [decide_eq_false c3]
            simp
          · rw [decide_eq_true (show rest (GX.Fa.less f (atF k)) < 0 by omega)]; simp
        · rw [Bool.eq_false_iff.2 c1]; simp
      rw [e]
      rcases ih with ⟨hv, ih⟩ | ⟨n, hn, g, hv, ih⟩
      · refine .inl ⟨hv, fun m hm h1 h2 h3 => ?_⟩
        rcases Nat.lt_succ_iff_lt_or_eq.1 hm with q | rfl
        · exact ih m q h1 h2 h3
        · exact hC ⟨h1, h2, h3⟩
      · refine .inr ⟨n, by omega, g, hv, fun m hm h1 h2 h3 => ?_⟩
        rcases Nat.lt_succ_iff_lt_or_eq.1 hm with q | rfl
        · exact ih m q h1 h2 h3
        · exact absurd ⟨h1, h2, h3⟩ hC
theorem lstR_spec {b : BinT} {rest : FansT → Int} {f : FansT} (hf : F5 f) :
    (lstR b rest f = -1 ∧ ∀ s, le4 s f → 0 ≤ rest (GX.Fa.less f s) → 0 ≤ costF b s → False) ∨
    ∃ s, le4 s f ∧ 0 ≤ rest (GX.Fa.less f s) ∧ 0 ≤ costF b s ∧ lstR b rest f = costF b s + rest (GX.Fa.less f s) ∧ ∀ t, le4 t f → 0 ≤ rest (GX.Fa.less f t) → 0 ≤ costF b t → lstR b rest f ≤ costF b t + rest (GX.Fa.less f t) := by
  have hi := idx_bnd hf
  have to : ∀ s, le4 s f → (idx5 s).toNat < (idx5 f).toNat + 1 ∧ atF ((idx5 s).toNat : Nat) = s := fun s hs => by
    have h5 := (le4_F5 hs hf).1
    have := idx_bnd h5
    have := le4_idx hs
    refine ⟨by omega, ?_⟩
    rw [show (((idx5 s).toNat : Nat) : Int) = idx5 s by omega]
    exact at_idx h5
  rcases lst_fold b rest f ((idx5 f).toNat + 1) with ⟨h1, h2⟩ | ⟨n, hn, ⟨g1, g2, g3⟩, h1, h2⟩
  · refine .inl ⟨h1, fun s hs a1 a2 => ?_⟩
    obtain ⟨t1, t2⟩ := to s hs
    exact h2 _ t1 (by rw [t2]; exact le4_ge hs) (by rw [t2]; exact a1) (by rw [t2]; exact a2)
  · refine .inr ⟨atF n, le4_of (atF_bnd (by omega) (by omega)) g1, g2, g3, h1, fun s hs a1 a2 => ?_⟩
    obtain ⟨t1, t2⟩ := to s hs
    have := h2 _ t1 (by rw [t2]; exact le4_ge hs) (by rw [t2]; exact a1) (by rw [t2]; exact a2)
    rw [t2] at this
    exact this
theorem least_fold (b : BinT) (r : List BinT) (f : FansT) : ∀ (l : List FansT) (v : Int), l.foldl (leastStep b r f) v ≤ v ∧
    (∀ s, s ∈ l → GX.Fa.fitsB b s = true → l.foldl (leastStep b r f) v ≤ GX.Fa.lossV b s + GX.Fa.least r (GX.Fa.less f s)) ∧
    (l.foldl (leastStep b r f) v = v ∨ ∃ s, s ∈ l ∧ GX.Fa.fitsB b s = true ∧ l.foldl (leastStep b r f) v = GX.Fa.lossV b s + GX.Fa.least r (GX.Fa.less f s))
  | [], v => ⟨Int.le_refl _, fun s hs => by simp at hs, .inl rfl⟩
  | x :: l, v => by
    rw [List.foldl_cons]
    obtain ⟨h1, h2, h3⟩ := least_fold b r f l (leastStep b r f v x)
    have hx : leastStep b r f v x ≤ v ∧ (GX.Fa.fitsB b x = true → leastStep b r f v x ≤ GX.Fa.lossV b x + GX.Fa.least r (GX.Fa.less f x)) ∧ (leastStep b r f v x = v ∨ (GX.Fa.fitsB b x = true ∧ leastStep b r f v x = GX.Fa.lossV b x + GX.Fa.least r (GX.Fa.less f x))) := by
      unfold leastStep
      by_cases hf : GX.Fa.fitsB b x = true
      · rw [if_pos hf]
        split
        · exact ⟨by omega, fun _ => Int.le_refl _, .inr ⟨hf, rfl⟩⟩
        · exact ⟨Int.le_refl _, fun _ => by omega, .inl rfl⟩
      · rw [if_neg hf]
        exact ⟨Int.le_refl _, fun h => absurd h hf, .inl rfl⟩
    refine ⟨by omega, fun s hs hf => ?_, ?_⟩
    · rcases List.mem_cons.1 hs with rfl | hs
      · have := hx.2.1 hf; omega
      · exact h2 s hs hf
    · rcases h3 with h3 | ⟨s, hs, hf, h3⟩
      · rcases hx.2.2 with h4 | ⟨hf, h4⟩
        · exact .inl (h3.trans h4)
        · exact .inr ⟨x, by simp, hf, h3.trans h4⟩
      · exact .inr ⟨s, by simp [hs], hf, h3⟩

def supp (n : Nat) (f : FansT) : Prop := ∀ i, i < 4 → n ≤ i → at4 f i = 0
theorem at4_less (f s : FansT) : ∀ {i : Nat}, i < 4 → at4 (GX.Fa.less f s) i = at4 f i - at4 s i
  | 0, _ => rfl
  | 1, _ => rfl
  | 2, _ => rfl
  | 3, _ => rfl
  | k + 4, h => absurd h (by omega)
theorem le4_at {s f : FansT} (h : le4 s f) : ∀ {i : Nat}, i < 4 → 0 ≤ at4 s i ∧ at4 s i ≤ at4 f i
  | 0, _ => h.1
  | 1, _ => h.2.1
  | 2, _ => h.2.2.1
  | 3, _ => h.2.2.2
  | k + 4, h => absurd h (by omega)
theorem supp.le {n : Nat} {f s : FansT} (h : supp n f) (hs : le4 s f) : supp n s ∧ supp n (GX.Fa.less f s) := by
  refine ⟨fun i hi hn => ?_, fun i hi hn => ?_⟩
  · have := h i hi hn
    have := le4_at hs hi
    omega
  · have := h i hi hn
    have := le4_at hs hi
    rw [at4_less _ _ hi]; omega
def agree (n : Nat) (b b' : BinT) : Prop := ∀ s, F5 s → supp n s → GX.Fa.fitsB b s = GX.Fa.fitsB b' s ∧ (GX.Fa.fitsB b s = true → GX.Fa.lossV b s = GX.Fa.lossV b' s)
def agrees (n : Nat) : List BinT → List BinT → Prop
  | [], [] => True
  | b :: r, b' :: r' => agree n b b' ∧ agrees n r r'
  | _, _ => False
theorem cost_fit {b : BinT} {s : FansT} (hb : GX.Fa.fitsB b s = true → 0 ≤ GX.Fa.lossV b s) : 0 ≤ costF b s ↔ GX.Fa.fitsB b s = true := by
  unfold costF
  by_cases h : GX.Fa.fitsB b s = true
  · rw [if_pos h]; exact ⟨fun _ => h, fun _ => hb h⟩
  · rw [if_neg h]; exact ⟨fun h => by omega, fun h' => absurd h' h⟩
theorem cost_loss {b : BinT} {s : FansT} (h : GX.Fa.fitsB b s = true) : costF b s = GX.Fa.lossV b s := if_pos h
theorem tval_top {bs : List BinT} (h : Bins0 bs) {f : FansT} (hf : F5 f) : tval bs f < GX.Fa.NONE := by
  have h1 := (tval_bnd h f hf).2
  have := h.k
  unfold GX.Fa.NONE
  omega
theorem tval_least {n : Nat} : ∀ {bs bs' : List BinT}, agrees n bs bs' → Bins0 bs → ∀ {f : FansT}, F5 f → supp n f → GX.Fa.least bs' f = if tval bs f < 0 then GX.Fa.NONE else tval bs f
  | [], [], _, _, f, _, _ => by
    rw [GX.Fa.least]
    unfold tval
    by_cases h : GX.Fa.isNo f = true
    · rw [if_pos h, if_pos h]; rfl
    · rw [if_neg h, if_neg h]; rfl
  | [], _ :: _, h, _, _, _, _ => h.elim
  | _ :: _, [], h, _, _, _, _ => h.elim
  | b :: r, b' :: r', h, hb, f, hf, hs => by
    obtain ⟨ha, hr⟩ := h
    obtain ⟨b1, b2, b3⟩ := hb.cons
    have htop := tval_top hb hf
    obtain ⟨l1, l2, l3⟩ := least_fold b' r' f (GX.Fa.upTo f) GX.Fa.NONE
    rw [← least_cons] at l1 l2 l3
    have IH : ∀ s, le4 s f → GX.Fa.least r' (GX.Fa.less f s) = if tval r (GX.Fa.less f s) < 0 then GX.Fa.NONE else tval r (GX.Fa.less f s) := fun s h => tval_least hr b3 (le4_F5 h hf).2 (hs.le h).2
    have att : GX.Fa.least (b' :: r') f = GX.Fa.NONE ∨ ∃ s, le4 s f ∧ 0 ≤ costF b s ∧ 0 ≤ tval r (GX.Fa.less f s) ∧ GX.Fa.least (b' :: r') f = costF b s + tval r (GX.Fa.less f s) := by
      rcases l3 with l3 | ⟨s, hm, hfit, l3⟩
      · exact .inl l3
      · have hle := (mem_upTo hf.fok).1 hm
        have h5 := (le4_F5 hle hf).1
        have hsp := (hs.le hle).1
        obtain ⟨q1, q2⟩ := ha s h5 hsp
        rw [hfit] at q1
        have hc : 0 ≤ costF b s := (cost_fit (b2 s h5)).2 q1
        rw [IH s hle, ← q2 q1, ← cost_loss q1] at l3
        by_cases ht : tval r (GX.Fa.less f s) < 0
        · rw [if_pos ht] at l3; exact .inl (by omega)
        · rw [if_neg ht] at l3; exact .inr ⟨s, hle, hc, by omega, l3⟩
    have low : ∀ s, le4 s f → 0 ≤ tval r (GX.Fa.less f s) → 0 ≤ costF b s → GX.Fa.least (b' :: r') f ≤ costF b s + tval r (GX.Fa.less f s) := fun s hle ht hc => by
      have h5 := (le4_F5 hle hf).1
      have hfit := (cost_fit (b2 s h5)).1 hc
      obtain ⟨q1, q2⟩ := ha s h5 (hs.le hle).1
      have := l2 s ((mem_upTo hf.fok).2 hle) (q1 ▸ hfit)
      rw [IH s hle, if_neg (by omega), ← q2 hfit, ← cost_loss hfit] at this
      exact this
    have e : tval (b :: r) f = lstR b (tval r) f := rfl
    rw [e] at htop ⊢
    rcases lstR_spec (b := b) (rest := tval r) hf with ⟨v, hno⟩ | ⟨s, hle, ht, hc, v, hmin⟩
    · rw [v, if_pos (by omega)]
      rcases att with att | ⟨s, hle, hc, ht, _⟩
      · exact att
      · exact (hno s hle ht hc).elim
    · rw [if_neg (by omega)]
      have h1 := low s hle ht hc
      rcases att with att | ⟨s', hle', hc', ht', h'⟩
      · omega
      · have := hmin s' hle' ht' hc'
        omega
theorem can_tval {n : Nat} {bs bs' : List BinT} (h : agrees n bs bs') (hb : Bins0 bs) {f : FansT} (hf : F5 f) (hs : supp n f) : canF bs' f = decide (0 ≤ tval bs f) := by
  have h1 := tval_least h hb hf hs
  have h2 := tval_top hb hf
  unfold canF
  rw [h1, decide_eq_decide]
  split <;> omega

theorem leL_trans {a b c : List Int} (h1 : cmpL a b ≤ 0) (h2 : cmpL b c ≤ 0) : cmpL a c ≤ 0 := by
  by_cases e1 : cmpL a b = 0
  · rw [cmpL_zero e1]; exact h2
  · by_cases e2 : cmpL b c = 0
    · rw [← cmpL_zero e2]; exact h1
    · exact Int.le_of_lt (cmpL_trans (b := b) (by omega) (by omega))
theorem leL_anti {a b : List Int} (h1 : cmpL a b ≤ 0) (h2 : cmpL b a ≤ 0) : a = b := by
  rw [cmpL_neg a b] at h2
  exact cmpL_zero (by omega)

def smD (b : BinT) (r : List BinT) (f : FansT) (left : Int) (s : FansT) : Bool := GX.Fa.fitsB b s && decide (GX.Fa.lossV b s + GX.Fa.least r (GX.Fa.less f s) = left)
theorem pick_fold (b : BinT) (r : List BinT) (f : FansT) (left : Int) : ∀ (l : List FansT) (st : List Int × FansT × Bool), (st.2.2 = true → st.1 = listF st.2.1) →
    (l.foldl (smStep b r f left) st = st ∧ (∀ s, s ∈ l → smD b r f left s = true → st.2.2 = true ∧ cmpL st.1 (listF s) ≤ 0)) ∨
    ((l.foldl (smStep b r f left) st).2.2 = true ∧ (l.foldl (smStep b r f left) st).1 = listF (l.foldl (smStep b r f left) st).2.1 ∧ ((l.foldl (smStep b r f left) st).2.1 ∈ l ∧ smD b r f left (l.foldl (smStep b r f left) st).2.1 = true) ∧
      (∀ s, s ∈ l → smD b r f left s = true → cmpL (l.foldl (smStep b r f left) st).1 (listF s) ≤ 0) ∧ (st.2.2 = true → cmpL (l.foldl (smStep b r f left) st).1 st.1 ≤ 0))
  | [], st, h => .inl ⟨rfl, fun s hs => by simp at hs⟩
  | x :: l, st, h => by
    rw [List.foldl_cons]
    have hx : (smStep b r f left st x = st ∧ (smD b r f left x = true → st.2.2 = true ∧ cmpL st.1 (listF x) ≤ 0)) ∨ (smStep b r f left st x = (listF x, x, true) ∧ smD b r f left x = true ∧ (st.2.2 = true → cmpL (listF x) st.1 ≤ 0)) := by
      have e : smStep b r f left st x = if smD b r f left x then (if !st.2.2 || decide (cmpL (listF x) st.1 < 0) then (listF x, x, true) else st) else st := rfl
      rw [e]
      by_cases hd : smD b r f left x = true
      · rw [if_pos hd]
        by_cases hc : (!st.2.2 || decide (cmpL (listF x) st.1 < 0)) = true
        · rw [if_pos hc]
          refine .inr ⟨rfl, hd, fun ht => ?_⟩
          rw [ht] at hc
          have : cmpL (listF x) st.1 < 0 := by simpa using hc
          omega
        · rw [if_neg hc]
          refine .inl ⟨rfl, fun _ => ?_⟩
          simp only [Bool.or_eq_true, Bool.not_eq_true', decide_eq_true_eq, not_or] at hc
          refine ⟨by cases h : st.2.2 <;> simp_all, ?_⟩
          have := cmpL_neg (listF x) st.1
          omega
      · rw [if_neg hd]
        exact .inl ⟨rfl, fun h => absurd h hd⟩
    rcases hx with ⟨e, hx⟩ | ⟨e, hd, hx⟩
    · rw [e]
      rcases pick_fold b r f left l st h with ⟨g1, g2⟩ | ⟨g1, g2, ⟨g3, g4⟩, g5, g6⟩
      · refine .inl ⟨g1, fun s hs hd => ?_⟩
        rcases List.mem_cons.1 hs with rfl | hs
        · exact hx hd
        · exact g2 s hs hd
      · refine .inr ⟨g1, g2, ⟨by simp [g3], g4⟩, fun s hs hd => ?_, g6⟩
        rcases List.mem_cons.1 hs with rfl | hs
        · obtain ⟨q1, q2⟩ := hx hd
          exact leL_trans (g6 q1) q2
        · exact g5 s hs hd
    · rw [e]
      rcases pick_fold b r f left l (listF x, x, true) (fun _ => rfl) with ⟨g1, g2⟩ | ⟨g1, g2, ⟨g3, g4⟩, g5, g6⟩
      · rw [g1]
        refine .inr ⟨rfl, rfl, ⟨by simp, hd⟩, fun s hs hd => ?_, hx⟩
        rcases List.mem_cons.1 hs with rfl | hs
        · show cmpL (listF s) (listF s) ≤ 0
          rw [cmpL_self]; exact Int.le_refl _
        · exact (g2 s hs hd).2
      · refine .inr ⟨g1, g2, ⟨by simp [g3], g4⟩, fun s hs hd => ?_, fun ht => leL_trans (g6 rfl) (hx ht)⟩
        rcases List.mem_cons.1 hs with rfl | hs
        · exact g6 rfl
        · exact g5 s hs hd
theorem pick_spec {b : BinT} {r : List BinT} {f : FansT} {left : Int} (hf : FOK f) {s0 : FansT} (h0 : le4 s0 f) (hd : smD b r f left s0 = true) :
    (smPick b r f left).1 = listF (smPick b r f left).2.1 ∧ le4 (smPick b r f left).2.1 f ∧ smD b r f left (smPick b r f left).2.1 = true ∧ ∀ s, le4 s f → smD b r f left s = true → cmpL (smPick b r f left).1 (listF s) ≤ 0 := by
  rcases pick_fold b r f left (GX.Fa.upTo f) ([], NO4, false) (fun h => by cases h) with ⟨g1, g2⟩ | ⟨g1, g2, ⟨g3, g4⟩, g5, g6⟩
  · have := (g2 s0 ((mem_upTo hf).2 h0) hd).1
    cases this
  · exact ⟨g2, (mem_upTo hf).1 g3, g4, fun s hs hd => g5 s ((mem_upTo hf).2 hs) hd⟩
theorem sm_eq {n : Nat} : ∀ {bs bs' : List BinT}, agrees n bs bs' → Bins0 bs → ∀ {f : FansT}, F5 f → supp n f → 0 ≤ tval bs f → smR bs (tval bs f) f = smGo bs' (tval bs f) f
  | [], [], _, _, f, _, _, _ => rfl
  | [], _ :: _, h, _, _, _, _, _ => h.elim
  | _ :: _, [], h, _, _, _, _, _ => h.elim
  | b :: r, b' :: r', h, hb, f, hf, hs, h0 => by
    obtain ⟨ha, hr⟩ := h
    obtain ⟨b1, b2, b3⟩ := hb.cons
    have htop := tval_top hb hf
    have same : ∀ s, le4 s f → smOK b r (tval (b :: r) f) f (listF s) = smD b' r' f (tval (b :: r) f) s := fun s hle => by
      have h5 := le4_F5 hle hf
      obtain ⟨q1, q2⟩ := ha s h5.1 (hs.le hle).1
      unfold smOK smD
      rw [numF_list h5.1.fok, tval_least hr b3 h5.2 (hs.le hle).2]
      by_cases hfit : GX.Fa.fitsB b s = true
      · have hc := (cost_fit (b2 s h5.1)).2 hfit
        rw [← q1, hfit, ← q2 hfit, ← cost_loss hfit, decide_eq_true hc, Bool.true_and, Bool.true_and]
        by_cases ht : tval r (GX.Fa.less f s) < 0
        · rw [if_pos ht, decide_eq_false (show ¬ 0 ≤ tval r (GX.Fa.less f s) by omega), Bool.false_and]
          exact (decide_eq_false (by omega)).symm
        · rw [if_neg ht, decide_eq_true (show 0 ≤ tval r (GX.Fa.less f s) by omega), Bool.true_and]
      · have hc : ¬ 0 ≤ costF b s := fun hc => hfit ((cost_fit (b2 s h5.1)).1 hc)
        rw [← q1, Bool.eq_false_iff.2 hfit, decide_eq_false hc]; rfl
    obtain ⟨s0, hle0, hok0⟩ : ∃ s, le4 s f ∧ smOK b r (tval (b :: r) f) f (listF s) = true := by
      have e : tval (b :: r) f = lstR b (tval r) f := rfl
      rcases lstR_spec (b := b) (rest := tval r) hf with ⟨v, hno⟩ | ⟨s, hle, ht, hc, v, hmin⟩
      · rw [e, v] at h0; omega
      · refine ⟨s, hle, ?_⟩
        unfold smOK
        rw [numF_list (le4_F5 hle hf).1.fok, decide_eq_true hc, decide_eq_true ht, e, v]
        simp
    obtain ⟨p1, p2, p3, p4⟩ := pick_spec (b := b') (r := r') (left := tval (b :: r) f) hf.fok hle0 (by rw [← same s0 hle0]; exact hok0)
    simp only [smR, smGo]
    cases hfd : (allL f).find? (smOK b r (tval (b :: r) f) f) with
    | none =>
      have := List.find?_eq_none.1 hfd (listF s0) ((allL_mem hf).2 ⟨s0, hle0, rfl⟩)
      exact absurd hok0 this
    | some l =>
      obtain ⟨q1, i, hi, hil, q2⟩ := List.find?_eq_some_iff_getElem.1 hfd
      obtain ⟨s, hle, rfl⟩ := (allL_mem hf).1 (hil ▸ List.getElem_mem hi)
      have hfirst : ∀ t, le4 t f → smOK b r (tval (b :: r) f) f (listF t) = true → cmpL (listF s) (listF t) ≤ 0 := fun t ht hok => by
        obtain ⟨j, hj, hjl⟩ := List.mem_iff_getElem.1 ((allL_mem hf).2 ⟨t, ht, rfl⟩)
        by_cases hij : j < i
        · have := q2 j hij
          rw [hjl, hok] at this
          cases this
        · by_cases e : i = j
          · subst e
            rw [← hil, ← hjl, cmpL_self]; exact Int.le_refl _
          · have := (List.pairwise_iff_getElem.1 (allL_order hf)) i j hi hj (by omega)
            rw [hil, hjl] at this
            omega
      have e1 : listF s = (smPick b' r' f (tval (b :: r) f)).1 := by
        refine leL_anti ?_ ?_
        · rw [p1]
          exact hfirst _ p2 (by rw [same _ p2]; exact p3)
        · exact p4 s hle (by rw [← same s hle]; exact q1)
      have hsf := (le4_F5 hle hf)
      have e2 : (smPick b' r' f (tval (b :: r) f)).2.1 = s := by
        have := congrArg numF (e1.trans p1)
        rw [numF_list hsf.1.fok, numF_list (le4_F5 p2 hf).1.fok] at this
        exact this.symm
      simp only
      rw [numF_list hsf.1.fok, e2, ← e1]
      unfold smOK at q1
      rw [numF_list hsf.1.fok] at q1
      simp only [Bool.and_eq_true, decide_eq_true_eq] at q1
      obtain ⟨⟨c1, c2⟩, c3⟩ := q1
      have hfit := (cost_fit (b2 s hsf.1)).1 c1
      have hq := (ha s hsf.1 (hs.le hle).1).2 hfit
      have e3 : tval (b :: r) f - costF b s = tval r (GX.Fa.less f s) := by omega
      have e4 : tval (b :: r) f - GX.Fa.lossV b' s = tval r (GX.Fa.less f s) := by rw [← hq, ← cost_loss hfit]; omega
      rw [e3, e4, sm_eq hr b3 hsf.2 (hs.le hle).2 c2]
theorem small_eq {n : Nat} {bs bs' : List BinT} (h : agrees n bs bs') (hb : Bins0 bs) {f : FansT} (hf : F5 f) (hs : supp n f) : listedF bs' f = if (smallR bs f).2 then ((smallR bs f).1, 0) else ([], 9) := by
  have h1 := tval_least h hb hf hs
  have h2 := tval_top hb hf
  unfold listedF smallR
  rw [h1]
  by_cases h3 : tval bs f < 0
  · rw [if_pos h3, if_pos h3, if_pos (Int.le_refl _)]; rfl
  · rw [if_neg h3, if_neg h3, if_neg (by omega)]
    unfold smallF
    rw [h1, if_neg h3, if_neg (by omega), sm_eq h hb hf hs (by omega)]
    rfl
end Go.Proofs.Fa
set_option linter.unusedVariables false
namespace Go.Proofs.Fa
open Go Go.GX Go.Proofs

theorem dot_at (s t : FansT) : GX.Fa.dot s t = at4 s 0 * at4 t 0 + at4 s 1 * at4 t 1 + at4 s 2 * at4 t 2 + at4 s 3 * at4 t 3 := rfl
theorem dot_supp {s : FansT} {g g' : Nat → Int} (h : ∀ i, i < 4 → at4 s i = 0 ∨ g i = g' i) : GX.Fa.dot s (tup4 g) = GX.Fa.dot s (tup4 g') := by
  have key : ∀ i, i < 4 → at4 s i * at4 (tup4 g) i = at4 s i * at4 (tup4 g') i := fun i hi => by
    rw [at4_tup _ hi, at4_tup _ hi]
    rcases h i hi with h | h
    · rw [h, Int.zero_mul, Int.zero_mul]
    · rw [h]
  rw [dot_at, dot_at, key 0 (by omega), key 1 (by omega), key 2 (by omega), key 3 (by omega)]
theorem dot_ge {s : FansT} {g : Nat → Int} (hs : ∀ i, i < 4 → 0 ≤ at4 s i) (hg : ∀ i, i < 4 → 0 ≤ g i) {i : Nat} (hi : i < 4) : at4 s i * g i ≤ GX.Fa.dot s (tup4 g) := by
  have key : ∀ i, i < 4 → 0 ≤ at4 s i * g i := fun i hi => Int.mul_nonneg (hs i hi) (hg i hi)
  rw [dot_at, at4_tup _ (show 0 < 4 by omega), at4_tup _ (show 1 < 4 by omega), at4_tup _ (show 2 < 4 by omega), at4_tup _ (show 3 < 4 by omega)]
  have h0 := key 0 (by omega)
  have h1 := key 1 (by omega)
  have h2 := key 2 (by omega)
  have h3 := key 3 (by omega)
  match i, hi with
  | 0, _ => omega
  | 1, _ => omega
  | 2, _ => omega
  | 3, _ => omega
theorem leaf_agree {n : Nat} {seam p : Int} {c : FansT} {e fi : Int} : agree n (tup4 fun i => at4 c i + seam, tup4 fun _ => e, p + seam, fi) (tup4 fun i => if i < n then at4 c i + seam else 0, tup4 fun i => if i < n then e else 0, p + seam, fi) := by
  intro s h5 hs
  have h1 : GX.Fa.dot s (tup4 fun i => at4 c i + seam) = GX.Fa.dot s (tup4 fun i => if i < n then at4 c i + seam else 0) := dot_supp fun i hi => by
    by_cases hn : i < n
    · exact .inr (by rw [if_pos hn])
    · exact .inl (hs i hi (by omega))
  have h2 : GX.Fa.dot s (tup4 fun _ => e) = GX.Fa.dot s (tup4 fun i => if i < n then e else 0) := dot_supp fun i hi => by
    by_cases hn : i < n
    · exact .inr (by rw [if_pos hn])
    · exact .inl (hs i hi (by omega))
  refine ⟨?_, fun _ => ?_⟩
  · show decide (GX.Fa.dot s (tup4 fun i => at4 c i + seam) ≤ p + seam) = decide (GX.Fa.dot s (tup4 fun i => if i < n then at4 c i + seam else 0) ≤ p + seam)
    rw [h1]
  · show GX.Fa.dot s (tup4 fun _ => e) + (if GX.Fa.isNo s then 0 else fi) = GX.Fa.dot s (tup4 fun i => if i < n then e else 0) + (if GX.Fa.isNo s then 0 else fi)
    rw [h2]
theorem leaves_agree {n : Nat} {seam : Int} {c : FansT} {e fi : Int} : ∀ ls : List Int, agrees n (leavesR ls seam c e fi) (leavesF ls seam n c e fi)
  | [] => trivial
  | p :: r => ⟨leaf_agree, leaves_agree r⟩
theorem F5.at0 {s : FansT} (h : F5 s) : ∀ i, i < 4 → 0 ≤ at4 s i := fun i hi => (all4_at h hi).1
theorem lot_agree {f : List Spring} {c : FansT} {l : Lot} (hl : 0 ≤ l.2 ∧ l.2 ≤ 200) (hc : all4 (fun x => 0 ≤ x) c) : agree f.length (lotR f c l) (lotB f c l) := by
  intro s h5 hs
  by_cases hx : ∃ i, i < 4 ∧ i < f.length ∧ (f.getD i ((0, 0), 0, 0)).2.2 > l.1 ∧ 1 ≤ at4 s i
  · obtain ⟨i, hi, hn, hw, h1⟩ := hx
    have r1 : GX.Fa.fitsB (lotR f c l) s = false := by
      have h := dot_ge (s := s) (g := fun i => if i < f.length then (if (f.getD i ((0, 0), 0, 0)).2.2 > l.1 then 1000 else at4 c i) else 0) h5.at0 (fun j hj => by
        split
        · split
          · omega
          · exact all4_at hc hj
        · omega) hi
      simp only [if_pos hn, if_pos hw] at h
      refine decide_eq_false ?_
      show ¬ GX.Fa.dot s (tup4 fun i => if i < f.length then (if (f.getD i ((0, 0), 0, 0)).2.2 > l.1 then 1000 else at4 c i) else 0) ≤ l.2
      omega
    have r2 : GX.Fa.fitsB (lotB f c l) s = false := by
      have h := dot_ge (s := s) (g := fun i => if i < f.length then (if (f.getD i ((0, 0), 0, 0)).2.2 > l.1 then l.2 + 1 else at4 c i) else 0) h5.at0 (fun j hj => by
        split
        · split
          · omega
          · exact all4_at hc hj
        · omega) hi
      simp only [if_pos hn, if_pos hw] at h
      have h2 : 1 * (l.2 + 1) ≤ at4 s i * (l.2 + 1) := Int.mul_le_mul_of_nonneg_right h1 (by omega)
      refine decide_eq_false ?_
      show ¬ GX.Fa.dot s (tup4 fun i => if i < f.length then (if (f.getD i ((0, 0), 0, 0)).2.2 > l.1 then l.2 + 1 else at4 c i) else 0) ≤ l.2
      omega
    exact ⟨r1.trans r2.symm, fun h => by rw [r1] at h; cases h⟩
  · have hz : ∀ i, i < 4 → i < f.length → (f.getD i ((0, 0), 0, 0)).2.2 > l.1 → at4 s i = 0 := fun i hi hn hw => by
      have h0 := h5.at0 i hi
      have : ¬ 1 ≤ at4 s i := fun h => hx ⟨i, hi, hn, hw, h⟩
      omega
    have h1 : GX.Fa.dot s (lotR f c l).1 = GX.Fa.dot s (lotB f c l).1 := dot_supp fun i hi => by
      by_cases hn : i < f.length
      · by_cases hw : (f.getD i ((0, 0), 0, 0)).2.2 > l.1
        · exact .inl (hz i hi hn hw)
        · exact .inr (by rw [if_pos hn, if_pos hn, if_neg hw, if_neg hw])
      · exact .inl (hs i hi (by omega))
    have h2 : GX.Fa.dot s (lotR f c l).2.1 = GX.Fa.dot s (lotB f c l).2.1 := dot_supp fun i hi => by
      by_cases hn : i < f.length
      · by_cases hw : (f.getD i ((0, 0), 0, 0)).2.2 > l.1
        · exact .inl (hz i hi hn hw)
        · exact .inr (by rw [if_pos hn, if_pos hn, if_neg hw])
      · exact .inl (hs i hi (by omega))
    refine ⟨?_, fun _ => ?_⟩
    · show decide (GX.Fa.dot s (lotR f c l).1 ≤ l.2) = decide (GX.Fa.dot s (lotB f c l).1 ≤ l.2)
      rw [h1]
    · show GX.Fa.dot s (lotR f c l).2.1 + (if GX.Fa.isNo s then 0 else 0) = GX.Fa.dot s (lotB f c l).2.1 + (if GX.Fa.isNo s then 0 else 0)
      rw [h2]
theorem lots_agree {f : List Spring} {c : FansT} (hc : all4 (fun x => 0 ≤ x) c) : ∀ ls : List Lot, (∀ l, l ∈ ls → 0 ≤ l.2 ∧ l.2 ≤ 200) → agrees f.length (lotsR ls f c) (lotsF ls f c)
  | [], _ => trivial
  | l :: r, h => ⟨lot_agree (h l (by simp)) hc, lots_agree hc r fun x hx => h x (by simp [hx])⟩
theorem want_supp (f : List Spring) : supp f.length (wantF f) := fun i hi hn => by
  show at4 (tup4 _) i = 0
  rw [at4_tup _ hi]
  exact if_neg (by omega)
theorem VOK.lva {s : Store} {f : List Spring} (v : VOK s f) {c : FansT} {e fi : Int} : agrees f.length (Fa.lvR s c e fi) (lvs (s, f, c) e fi) := leaves_agree _
theorem VOK.lta {s : Store} {f : List Spring} (v : VOK s f) {c : FansT} (hc : all4 (fun x => 0 ≤ x ∧ x ≤ 40) c) : agrees f.length (Fa.ltR s f c) (lts (s, f, c)) := lots_agree (cnt0 hc) _ fun l hl => (v.lt l hl).2
theorem en_eq {s : Store} {f : List Spring} (v : VOK s f) {c n : FansT} (hc : all4 (fun x => 0 ≤ x ∧ x ≤ 40) c) (hn : F5 n) (hs : supp f.length n) : makesF (s, f, c) n = enR s f c n := by
  unfold makesF enR
  rw [can_tval v.lva (v.lvR hc) hn hs, can_tval (v.lta hc) (v.ltR hc) hn hs]

def keyF (s : FansT) : Int := sumF s * 625 + idx5 s
theorem key_inj {a b : FansT} (ha : F5 a) (hb : F5 b) (h : keyF a = keyF b) : a = b := by
  have h1 := idx_bnd ha
  have h2 := idx_bnd hb
  unfold keyF at h
  have : idx5 a = idx5 b := by omega
  rw [← at_idx ha, ← at_idx hb, this]
theorem lex_idx {a b : FansT} (ha : F5 a) (hb : F5 b) : cmpL (l4 a) (l4 b) ≤ 0 ↔ idx5 a ≤ idx5 b := by
  obtain ⟨⟨a1, a2⟩, ⟨b1, b2⟩, ⟨c1, c2⟩, ⟨d1, d2⟩⟩ := ha
  obtain ⟨⟨a3, a4⟩, ⟨b3, b4⟩, ⟨c3, c4⟩, ⟨d3, d4⟩⟩ := hb
  simp only [l4, cmpL, cmpI3, idx5]
  by_cases h1 : a.1 < b.1
  · simp only [h1, if_true]; simp; omega
  by_cases h1' : b.1 < a.1
  · simp only [h1, h1', if_true, if_false]; simp; omega
  simp only [h1, h1', if_false]
  by_cases h2 : a.2.1 < b.2.1
  · simp only [h2, if_true]; simp; omega
  by_cases h2' : b.2.1 < a.2.1
  · simp only [h2, h2', if_true, if_false]; simp; omega
  simp only [h2, h2', if_false]
  by_cases h3 : a.2.2.1 < b.2.2.1
  · simp only [h3, if_true]; simp; omega
  by_cases h3' : b.2.2.1 < a.2.2.1
  · simp only [h3, h3', if_true, if_false]; simp; omega
  simp only [h3, h3', if_false]
  by_cases h4 : a.2.2.2 < b.2.2.2
  · simp only [h4, if_true]; simp; omega
  by_cases h4' : b.2.2.2 < a.2.2.2
  · simp only [h4, h4', if_true, if_false]; simp; omega
  simp only [h4, h4', if_false]
  simp; omega
theorem NO4_5 : F5 NO4 := ⟨⟨by decide, by decide⟩, ⟨by decide, by decide⟩, ⟨by decide, by decide⟩, ⟨by decide, by decide⟩⟩
theorem mostF_fold (mk : FansT → Bool) : ∀ (l : List FansT) (b : FansT), F5 b → (∀ s, s ∈ l → F5 s) → (l.foldl (mostStep mk) b = b ∨ (l.foldl (mostStep mk) b ∈ l ∧ mk (l.foldl (mostStep mk) b) = true)) ∧ keyF b ≤ keyF (l.foldl (mostStep mk) b) ∧ ∀ s, s ∈ l → mk s = true → keyF s ≤ keyF (l.foldl (mostStep mk) b)
  | [], b, hb, _ => ⟨.inl rfl, Int.le_refl _, fun s hs => by simp at hs⟩
  | x :: l, b, hb, hl => by
    rw [List.foldl_cons]
    have hx := hl x (by simp)
    have i1 := idx_bnd hb
    have i2 := idx_bnd hx
    have hst : (mostStep mk b x = b ∧ (mk x = true → keyF x ≤ keyF b)) ∨ (mostStep mk b x = x ∧ mk x = true ∧ keyF b ≤ keyF x) := by
      unfold mostStep
      by_cases hc : (decide (sumF x < sumF b) || (sumF x == sumF b && decide (cmpL (l4 x) (l4 b) ≤ 0)) || !mk x) = true
      · rw [if_pos (by simpa using hc)]
        refine .inl ⟨rfl, fun hm => ?_⟩
        simp only [Bool.or_eq_true, Bool.and_eq_true, beq_iff_eq, decide_eq_true_eq, Bool.not_eq_true'] at hc
        rcases hc with (h | ⟨h1, h2⟩) | h
        · unfold keyF; omega
        · have := (lex_idx hx hb).1 h2
          unfold keyF; omega
        · rw [hm] at h; cases h
      · rw [if_neg (by simpa using hc)]
        simp only [Bool.or_eq_true, Bool.and_eq_true, beq_iff_eq, decide_eq_true_eq, Bool.not_eq_true', not_or] at hc
        obtain ⟨⟨h1, h2⟩, h3⟩ := hc
        refine .inr ⟨rfl, by simpa using h3, ?_⟩
        by_cases e : sumF x = sumF b
        · have h4 : ¬ cmpL (l4 x) (l4 b) ≤ 0 := fun h => h2 ⟨e, h⟩
          have h5 : ¬ idx5 x ≤ idx5 b := fun h => h4 ((lex_idx hx hb).2 h)
          unfold keyF; omega
        · unfold keyF; omega
    rcases hst with ⟨e, h1⟩ | ⟨e, h1, h2⟩
    · rw [e]
      obtain ⟨g1, g2, g3⟩ := mostF_fold mk l b hb fun s hs => hl s (by simp [hs])
      refine ⟨?_, g2, fun s hs hm => ?_⟩
      · rcases g1 with g1 | ⟨g1, g4⟩
        · exact .inl g1
        · exact .inr ⟨by simp [g1], g4⟩
      · rcases List.mem_cons.1 hs with rfl | hs
        · have := h1 hm; omega
        · exact g3 s hs hm
    · rw [e]
      obtain ⟨g1, g2, g3⟩ := mostF_fold mk l x hx fun s hs => hl s (by simp [hs])
      refine ⟨?_, by omega, fun s hs hm => ?_⟩
      · rcases g1 with g1 | ⟨g1, g4⟩
        · rw [g1]; exact .inr ⟨by simp, h1⟩
        · exact .inr ⟨by simp [g1], g4⟩
      · rcases List.mem_cons.1 hs with rfl | hs
        · exact g2
        · exact g3 s hs hm
theorem mostR_fold (s : Store) (f : List Spring) : ∀ k : Nat, k ≤ 625 →
    ((List.range k).foldl (fun b (n : Nat) => mostStR s f b (atF n)) NO4 = NO4 ∨ ∃ m : Nat, m < k ∧ (List.range k).foldl (fun b (n : Nat) => mostStR s f b (atF n)) NO4 = atF m ∧ enR s f (cH f) (atF m) = true ∧ ge0 (GX.Fa.less (wantF f) (atF m)) = true) ∧
    0 ≤ keyF ((List.range k).foldl (fun b (n : Nat) => mostStR s f b (atF n)) NO4) ∧
    ∀ m : Nat, m < k → enR s f (cH f) (atF m) = true → ge0 (GX.Fa.less (wantF f) (atF m)) = true → keyF (atF m) ≤ keyF ((List.range k).foldl (fun b (n : Nat) => mostStR s f b (atF n)) NO4)
  | 0, _ => ⟨.inl rfl, (by decide : (0 : Int) ≤ keyF NO4), fun m hm => absurd hm (Nat.not_lt_zero _)⟩
  | k + 1, h => by
    obtain ⟨g1, g0, g2⟩ := mostR_fold s f k (by omega)
    have g5 := most_F5 (s := s) (f := f) k (by omega)
    rw [foldl_succ]
    generalize (List.range k).foldl (fun b (n : Nat) => mostStR s f b (atF n)) NO4 = b at g1 g0 g2 g5 ⊢
    have hx : F5 (atF k) := atF_bnd (by omega) (by omega)
    have ix : idx5 (atF k) = k := idx_at (by omega) (by omega)
    have ib := idx_bnd g5
    have ib2 : idx5 b ≤ k := by
      rcases g1 with g1 | ⟨m, hm, g1, _⟩
      · rw [g1]; show (0 : Int) ≤ k; omega
      · rw [g1, idx_at (by omega) (by omega)]; omega
    have e : mostStR s f b (atF k) = if (enR s f (cH f) (atF k) && ge0 (GX.Fa.less (wantF f) (atF k)) && decide (0 ≤ sumF (atF k) - sumF b)) = true then atF k else b := rfl
    rw [e]
    by_cases hc : (enR s f (cH f) (atF k) && ge0 (GX.Fa.less (wantF f) (atF k)) && decide (0 ≤ sumF (atF k) - sumF b)) = true
    · rw [if_pos hc]
      simp only [Bool.and_eq_true, decide_eq_true_eq] at hc
      obtain ⟨⟨c1, c2⟩, c3⟩ := hc
      have hk : keyF b ≤ keyF (atF k) := by unfold keyF; omega
      refine ⟨.inr ⟨k, by omega, rfl, c1, c2⟩, by omega, fun m hm h1 h2 => ?_⟩
      rcases Nat.lt_succ_iff_lt_or_eq.1 hm with q | rfl
      · have := g2 m q h1 h2; omega
      · exact Int.le_refl _
    · rw [if_neg hc]
      refine ⟨?_, g0, fun m hm h1 h2 => ?_⟩
      · rcases g1 with g1 | ⟨m, hm, g1, g3⟩
        · exact .inl g1
        · exact .inr ⟨m, by omega, g1, g3⟩
      rcases Nat.lt_succ_iff_lt_or_eq.1 hm with q | rfl
      · exact g2 m q h1 h2
      · rw [h1, h2] at hc
        have : ¬ 0 ≤ sumF (atF m) - sumF b := by simpa using hc
        unfold keyF; omega
theorem most_eq {s : Store} {f : List Spring} (v : VOK s f) : mostF (makesF (s, f, cH f)) (wantF f) = mostR s f := by
  have hw : F5 (wantF f) := v.want4
  have hm : ∀ x, x ∈ GX.Fa.upTo (wantF f) → F5 x := fun x hx => (le4_F5 ((mem_upTo hw.fok).1 hx) hw).1
  have hmk : ∀ x, le4 x (wantF f) → makesF (s, f, cH f) x = enR s f (cH f) x := fun x hx => en_eq v v.cH (le4_F5 hx hw).1 ((want_supp f).le hx).1
  obtain ⟨a1, a2, a3⟩ := mostF_fold (makesF (s, f, cH f)) (GX.Fa.upTo (wantF f)) NO4 NO4_5 hm
  obtain ⟨b1, b2, b3⟩ := mostR_fold s f 625 (by omega)
  have b5 := most_F5 (s := s) (f := f) 625 (by omega)
  have e1 : (GX.Fa.upTo (wantF f)).foldl (mostStep (makesF (s, f, cH f))) NO4 = mostF (makesF (s, f, cH f)) (wantF f) := rfl
  have e2 : (List.range 625).foldl (fun b (n : Nat) => mostStR s f b (atF n)) NO4 = mostR s f := rfl
  rw [e1] at a1 a2 a3
  rw [e2] at b1 b2 b3 b5
  generalize mostF (makesF (s, f, cH f)) (wantF f) = A at a1 a2 a3 ⊢
  generalize mostR s f = B at b1 b2 b3 b5 ⊢
  have a5 : F5 A := by
    rcases a1 with a1 | ⟨a1, _⟩
    · rw [a1]; exact NO4_5
    · exact hm _ a1
  refine key_inj a5 b5 (Int.le_antisymm ?_ ?_)
  · rcases a1 with a1 | ⟨a1, a4⟩
    · rw [a1]; exact b2
    · have hle := (mem_upTo hw.fok).1 a1
      have hi := idx_bnd a5
      have hA : atF (((idx5 A).toNat : Nat) : Int) = A := by rw [show (((idx5 A).toNat : Nat) : Int) = idx5 A by omega]; exact at_idx a5
      have := b3 (idx5 A).toNat (by omega) (by rw [hA, ← hmk A hle]; exact a4) (by rw [hA]; exact le4_ge hle)
      rw [hA] at this
      exact this
  · rcases b1 with b1 | ⟨m, hm', b1, c1, c2⟩
    · rw [b1]; exact a2
    · have hle := le4_of (atF_bnd (n := (m : Int)) (by omega) (by omega)) c2
      rw [b1]
      exact a3 _ ((mem_upTo hw.fok).2 hle) (by rw [hmk _ hle]; exact c1)

end Go.Proofs.Fa
set_option linter.unusedVariables false
namespace Go.Proofs.Fa
open Go Go.GX Go.Proofs

theorem cndEB {a b : Bool} {p q : Prop} (h : a = b) (hp : p) : cnd (a == b) p q := by
  have : (a == b) = true := by simp [h]
  rw [this]; exact hp

theorem tail_list {l due : List (List Int)} {ok : Bool} {e : Int} {Q : Bool → Prop} (h : Q true) (he : (l, e) = if ok then (due, 0) else ([], 9)) :
    cnd ok (cnd (e == 0) (cnd (decide (l = due)) (f17_wp () () fun r => Q r) (Q false)) (Q false)) (cnd (e == 9) (l.length ≤ 9223372036854775807 → cnd ((l.length : Int) == 0) (f17_wp () () fun r => Q r) (Q false)) (Q false)) := by
  cases ok with
  | true =>
    obtain ⟨rfl, rfl⟩ := Prod.mk.inj he
    exact cndT (cndE rfl (cndD (c := l = l) rfl (known h)))
  | false =>
    obtain ⟨rfl, rfl⟩ := Prod.mk.inj he
    exact cndF (cndE rfl fun _ => cndE rfl (known h))
theorem p3 {s : Store} {f : List Spring} {Q : Bool → Prop} (h : fL2_wp (s, f, ()) () Q) : V3 s f Q := by
  have h : Q true := h
  refine large_iff (s := s) (f := f) h fun n1 n2 n3 => ⟨⟨n1, n2⟩, n3, ?_⟩
  refine same_iff (s := s) (f := f) (cndN rfl ?_)
  by_cases hc : checkF s f = 0
  · have v : VOK s f := vok_of hc
    have hb : Bins0 (Fa.lvR s (cH f) 0 1) := leavesR_ok (by have := v.n6; omega) v.lv4 v.sm4 (cnt400 v.cH) ⟨by omega, by omega⟩ ⟨by omega, by omega⟩ (by omega) (by omega)
    have e : resLeaves s f = if (smallR (Fa.lvR s (cH f) 0 1) (wantF f)).2 then ((smallR (Fa.lvR s (cH f) 0 1) (wantF f)).1, 0) else ([], 9) := by
      unfold resLeaves
      rw [if_neg (by simp [hc])]
      exact small_eq v.lva hb v.want4 (want_supp f)
    exact cndE hc ⟨_, ⟨v.f4, rfl⟩, _, ⟨⟨v.n500, v.lv4, v.sm4, cnt400 v.cH⟩, rfl⟩, _, ⟨v.f4, rfl⟩, _, ⟨⟨hb, v.want4⟩, rfl⟩, tail_list h e⟩
  · have e : resLeaves s f = ([], checkF s f) := by unfold resLeaves; rw [if_pos hc]
    refine cndEe hc ?_
    show cnd ((resLeaves s f).2 == checkF s f) ((resLeaves s f).1.length ≤ _ → cnd (((resLeaves s f).1.length : Int) == 0) _ _) _
    rw [e]
    exact cndE rfl fun _ => cndE rfl (known h)
theorem p4 {s : Store} {f : List Spring} {Q : Bool → Prop} (h : fL2_wp (s, f, ()) () Q) : V4 s f Q := by
  have h : Q true := h
  refine large_iff (s := s) (f := f) h fun n1 n2 n3 => ⟨⟨n1, n2⟩, n3, ?_⟩
  refine same_iff (s := s) (f := f) ?_
  by_cases hc : checkF s f = 0
  · have v : VOK s f := vok_of hc
    have hb := v.ltR v.cH
    have e : resLots s f = if (smallR (Fa.ltR s f (cH f)) (wantF f)).2 then ((smallR (Fa.ltR s f (cH f)) (wantF f)).1, 0) else ([], 9) := by
      unfold resLots
      rw [if_neg (by simp [hc])]
      exact small_eq (v.lta v.cH) hb v.want4 (want_supp f)
    exact cndE hc ⟨_, ⟨v.f4, rfl⟩, _, ⟨⟨v.m500, v.f4, v.lt4, v.sp4, cnt400 v.cH⟩, rfl⟩, _, ⟨v.f4, rfl⟩, _, ⟨⟨hb, v.want4⟩, rfl⟩, tail_list h e⟩
  · have e : resLots s f = ([], checkF s f) := by unfold resLots; rw [if_pos hc]
    refine cndEe hc ?_
    show cnd ((resLots s f).2 == checkF s f) ((resLots s f).1.length ≤ _ → cnd (((resLots s f).1.length : Int) == 0) _ _) _
    rw [e]
    exact cndE rfl fun _ => cndE rfl (known h)
theorem p12 {s : Store} {f : List Spring} {Q : Bool → Prop} (h : fL2_wp (s, f, ()) () Q) : V12 s f Q := by
  have h : Q true := h
  refine large_iff (s := s) (f := f) h fun n1 n2 n3 => ⟨⟨n1, n2⟩, n3, ?_⟩
  show cnd (!(decide (s = s ∧ f = f))) _ (cnd ((resEnough s f).2.2 != checkF s f) _ (cnd ((resMost s f).2 != checkF s f) _ (cnd (checkF s f != 0) (cnd (!(resEnough s f).1) (cnd (!(resEnough s f).2.1) (_ → cnd (((resMost s f).1.length : Int) == 0) _ _) _) _) (∃ r, (f26_wp (f, true, ()) () fun r' => r' = r) ∧ ∃ r5, (f27_wp f () fun r' => r' = r5) ∧ ∃ r6, (f51_wp (s, f, r, r5, ()) () fun r' => r' = r6) ∧ cnd ((resEnough s f).1 == r6) (∃ r, (f26_wp (f, false, ()) () fun r' => r' = r) ∧ ∃ r7, (f27_wp f () fun r' => r' = r7) ∧ ∃ r8, (f51_wp (s, f, r, r7, ()) () fun r' => r' = r8) ∧ cnd ((resEnough s f).2.1 == r8) (∃ r, (f52_wp (s, f, ()) () fun r' => r' = r) ∧ ∃ r9, (f38_wp ((resMost s f).1, r, ()) () fun r' => r' = r9) ∧ cnd r9 _ _) _) _))))
  refine same_iff ?_
  by_cases hc : checkF s f = 0
  · have v : VOK s f := vok_of hc
    have e1 : resEnough s f = (enR s f (cH f) (wantF f), enR s f (cL f) (wantF f), 0) := by
      unfold resEnough; rw [if_neg (by simp [hc]), en_eq v v.cH v.want4 (want_supp f), en_eq v v.cL v.want4 (want_supp f)]
    have e2 : resMost s f = ((l4 (mostR s f)).take f.length, 0) := by
      unfold resMost; rw [if_neg (by simp [hc]), most_eq v]
    rw [e1, e2]
    refine cndN hc.symm (cndN hc.symm (cndN hc ⟨_, ⟨v.f4, rfl⟩, _, ⟨v.f4, rfl⟩, _, ⟨⟨hc, v.cH, v.want4⟩, rfl⟩, cndEB rfl ⟨_, ⟨v.f4, rfl⟩, _, ⟨v.f4, rfl⟩, _, ⟨⟨hc, v.cL, v.want4⟩, rfl⟩, cndEB rfl ⟨_, ⟨hc, rfl⟩, _, rfl, cndD rfl ⟨_, rfl, h⟩⟩⟩⟩))
  · have e1 : resEnough s f = (false, false, checkF s f) := by unfold resEnough; rw [if_pos hc]
    have e2 : resMost s f = ([], checkF s f) := by unfold resMost; rw [if_pos hc]
    rw [e1, e2]
    exact cndN rfl (cndN rfl (cndNe hc (cndT (cndT fun _ => cndE rfl (known h)))))
end Go.Proofs.Fa
set_option maxRecDepth 100000
set_option maxHeartbeats 0
namespace Go.Proofs.Fa
open Go Go.GX Go.Proofs
variable [Inhabited BaseD]
theorem ok12 : CallsOK Try.prog (assoc glT) 12 f12_ct :=
  callsOK_mkM [] st_ok mp_ok it_ok mk_ok in_ok (AllOK.cons ok16 (AllOK.cons ok17 (AllOK.cons ok18 (AllOK.cons ok19 (AllOK.cons ok49 (AllOK.cons ok50 (AllOK.cons ok22 (AllOK.cons ok23 (AllOK.cons ok26 (AllOK.cons ok27 (AllOK.cons ok51 (AllOK.cons ok52 (AllOK.cons ok38 AllOK.nil))))))))))))) no_an Try.func12 (by kernel_rfl) (by kernel_rfl) f12_ct fun ⟨s, f, _⟩ _ Q h => (v12 s f Q).mp (p12 h)
end Go.Proofs.Fa
