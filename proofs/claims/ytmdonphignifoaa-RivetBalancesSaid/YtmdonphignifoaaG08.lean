/- Part 8 of the texts behind the proof: RvP6, RvP7, RvO2, RvV5, RvP8, RvV6, RvP9, RvO3, RvM3, RvPa, RvO4. -/
import Derived.Test.YtmdonphignifoaaG07
import Derived.Test.YtmdonphignifoaaProg
set_option linter.unusedSimpArgs false
set_option linter.unusedVariables false
set_option linter.unusedSectionVars false
set_option linter.unusedVariables false
set_option maxRecDepth 100000
namespace Go.Proofs.Rv
open Go Go.GX Go.Proofs

theorem upTo2 {σ τ : Type} {n : Nat} (hn : n ≤ 9223372036854775807) (F : Nat → σ) (G : Nat → τ) {s0 : σ} {t0 : τ} (h0 : s0 = F 0) (h0' : t0 = G 0) {P : (Int → σ → τ → Prop) → (Int → σ → τ → Nat) → Int → σ → τ → Prop}
    (hb : ∀ k : Nat, k ≤ n → ∀ (I : Int → σ → τ → Prop) (μ : Int → σ → τ → Nat), (k < n → IntKind.wrap .i64 ((k : Int) + 1) = k + 1 ∧ I (k + 1 : Int) (F (k + 1)) (G (k + 1)) ∧ μ (k + 1 : Int) (F (k + 1)) (G (k + 1)) < μ k (F k) (G k)) → P I μ k (F k) (G k)) :
    ∃ (I : Int → σ → τ → Prop) (μ : Int → σ → τ → Nat), I 0 s0 t0 ∧ ∀ x s t, I x s t → P I μ x s t := by
  refine ⟨fun x s t => ∃ k : Nat, k ≤ n ∧ x = k ∧ s = F k ∧ t = G k, fun x _ _ => (n - x).toNat, ⟨0, Nat.zero_le _, rfl, h0, h0'⟩, ?_⟩
  rintro x s t ⟨k, hk, rfl, rfl, rfl⟩
  exact hb k hk _ _ fun h => ⟨wrapS (by omega) (by omega), ⟨k + 1, by omega, by push_cast; rfl, rfl, rfl⟩, by omega⟩

def goodR (r : Ratio) : Prop := (0 ≤ r.1 ∧ r.1 ≤ 600000000) ∧ 1 ≤ r.2 ∧ r.2 ≤ 120000
theorem cen_good {l : List Stick} (h : SticksOK l) (h0 : l.length ≠ 0) {e : Nat → Span → Int} (he : ∀ i s, e i s = s.1 ∨ e i s = s.2) : goodR (cenK l e l.length) := by
  have hr : ∀ i s, s ∈ l → 1 ≤ e i s.1 ∧ e i s.1 ≤ 10000 := fun i s hs => by
    have := h.s s hs
    rcases he i s.1 with h | h <;> rw [h] <;> omega
  have h1 := cen_le (l := l) (e := e) (fun i s hs => by have := hr i s hs; have := h.s s hs; omega) l.length (Nat.le_refl _)
  have h2 := cen_pos (l := l) (e := e) (fun i s hs => (hr i s hs).1) l.length (Nat.le_refl _)
  have := h.n
  unfold goodR; omega
theorem end_two {first : Int} {p q : Span → Int} (hp : IsEnd p) (hq : IsEnd q) (i : Nat) (s : Span) : endF first p q i s = s.1 ∨ endF first p q i s = s.2 := by
  unfold endF
  split
  · rcases hp with h | h
    · exact .inl (h s)
    · exact .inr (h s)
  · rcases hq with h | h
    · exact .inl (h s)
    · exact .inr (h s)
theorem sort_perm (l : List Stick) : (sortP l).Perm l := insSort_perm _ _
theorem sort_ok {l : List Stick} (h : SticksOK l) : SticksOK (sortP l) :=
  ⟨by rw [(sort_perm l).length_eq]; exact h.n, fun s hs => h.s s ((sort_perm l).mem_iff.1 hs)⟩
theorem hi_end : IsEnd hiE := .inr fun _ => rfl
theorem lo_end : IsEnd loE := .inl fun _ => rfl
theorem near_good {s : List Stick} (h : SticksOK s) (h0 : s.length ≠ 0) (i : Nat) : goodR (nearC s i) := cen_good h h0 (end_two hi_end lo_end)
theorem far_good {s : List Stick} (h : SticksOK s) (h0 : s.length ≠ 0) (i : Nat) : goodR (farC s i) := cen_good h h0 (end_two lo_end hi_end)
theorem balK_succ (s : List Stick) (k : Nat) : balK s (k + 1) = (if (nearC s k).1 * (balK s k).1.2 < (balK s k).1.1 * (nearC s k).2 then nearC s k else (balK s k).1, if (farC s k).1 * (balK s k).2.2 > (balK s k).2.1 * (farC s k).2 then farC s k else (balK s k).2) := by
  unfold balK; rw [foldl_succ]
theorem balK_good {s : List Stick} (h : SticksOK s) (h0 : s.length ≠ 0) : ∀ k, goodR (balK s k).1 ∧ goodR (balK s k).2
  | 0 => ⟨near_good h h0 0, near_good h h0 0⟩
  | k + 1 => by
    obtain ⟨h1, h2⟩ := balK_good h h0 k
    rw [balK_succ]
    dsimp only
    constructor
    · split
      · exact near_good h h0 k
      · exact h1
    · split
      · exact far_good h h0 k
      · exact h2
theorem good_mul {a b : Ratio} (ha : goodR a) (hb : goodR b) : IntKind.wrap .i64 (a.1 * b.2) = a.1 * b.2 := by
  have := mulB ha.1.1 ha.1.2 (by have := hb.2.1; omega) hb.2.2
  exact wrapS (by omega) (by omega)
theorem good_low {r : Ratio} (h : goodR r) : 0 ≤ r.1 ∧ r.1 ≤ 1000000000000 ∧ 1 ≤ r.2 ∧ r.2 ≤ 1000000000000 := by
  unfold goodR at h; omega
theorem p17 {l : List Stick} {Q : Ratio × Ratio × Int × Unit → Prop} (h : f17_wp l () Q) : V17 l Q := by
  have h : Q (balanceF l) := h
  unfold balanceF at h
  by_cases e : closedE l = 0
  rotate_left
  · rw [if_pos e] at h
    have e2 : closedF l = ((0, 0), (0, 0), closedE l, ()) := by unfold closedF; rw [if_pos e]
    show cnd ((closedF l).2.2.1 != 0) (Q ((0, 0), (0, 0), (closedF l).2.2.1, ())) _
    rw [e2]
    exact cnd_iff.2 ⟨fun _ => h, fun c => absurd (bne0.2.1 c) e⟩
  rw [if_neg (by omega)] at h
  have e2 : closedF l = (sumW l l.length, sumT l l.length, 0, ()) := by unfold closedF; rw [if_neg (by omega)]
  have ho := closedE_ok.1 e
  have hn := ho.n
  show cnd ((closedF l).2.2.1 != 0) (Q ((0, 0), (0, 0), (closedF l).2.2.1, ())) _
  rw [e2]
  refine cndF fun hl => ?_
  refine cnd_iff.2 ⟨fun c => ?_, fun c => ?_⟩
  · have c : (l.length : Int) = 0 := by simpa using c
    rw [if_pos (by omega)] at h; exact h
  have c : ¬ l.length = 0 := by
    intro hh
    rw [hh] at c
    simp at c
  rw [if_neg c] at h
  have hlen : (sortP l).length = l.length := (sort_perm l).length_eq
  have so := sort_ok ho
  have s0' : (sortP l).length ≠ 0 := by omega
  have hw : IntKind.wrap .i64 ((l.length : Int) + 1) = ((l.length + 1 : Nat) : Int) := by rw [wrapS (by omega) (by omega)]; push_cast; rfl
  have cw : ∀ (i : Nat) (a b : Span → Int), IsEnd a → IsEnd b → ∀ (f g : Span → (Int → Prop) → Prop), SaysA f a → SaysA g b → ∀ R : Int × Int × Unit → Prop, R ((cenK (sortP l) (endF i a b) (sortP l).length).1, (cenK (sortP l) (endF i a b) (sortP l).length).2, ()) → f46_wp (sortP l, (i : Int), f, g, ()) () R := fun i a b ha hb f g hf hg R hR =>
    ⟨a, b, ⟨hf, hg, ha, hb, by show (sortP l).length ≤ 12; omega, fun s hs => by
      have := so.s s hs
      unfold inR; omega⟩, hR⟩
  refine ⟨fun a b => a.2.2 - b.2.2, fun x hx y hy R hR => ⟨⟨by have := ho.s x hx; show inR 0 5000 x.2.2; unfold inR; omega, by have := ho.s y hy; show inR 0 5000 y.2.2; unfold inR; omega⟩, hR⟩, by omega, ?_⟩
  refine cw 0 hiE loE hi_end lo_end _ _ (fun x R hR => hR) (fun x R hR => hR) _ ?_
  intro _
  rw [hw]
  refine forUp2 (by omega) (fun k => (balK (sortP l) k).1) (fun k => (balK (sortP l) k).2) rfl rfl (fun k hk I μ hI hw => ?_) ?_
  · have g1 := balK_good so s0' k
    have g2 := near_good so s0' k
    have g3 := far_good so s0' k
    rw [balK_succ] at hI
    dsimp only at hI
    rw [← hw] at hI
    refine cw k hiE loE hi_end lo_end _ _ (fun x R hR => hR) (fun x R hR => hR) _ ?_
    change cnd (decide (IntKind.wrap .i64 ((nearC (sortP l) k).1 * (balK (sortP l) k).1.2) < IntKind.wrap .i64 ((balK (sortP l) k).1.1 * (nearC (sortP l) k).2))) _ _
    rw [good_mul g2 g1.1, good_mul g1.1 g2]
    refine cnd_iff.2 ⟨fun c1 => ?_, fun c1 => ?_⟩
    · rw [if_pos (of_decide_eq_true c1)] at hI
      refine cw k loE hiE lo_end hi_end _ _ (fun x R hR => hR) (fun x R hR => hR) _ ?_
      change cnd (decide (IntKind.wrap .i64 ((farC (sortP l) k).1 * (balK (sortP l) k).2.2) > IntKind.wrap .i64 ((balK (sortP l) k).2.1 * (farC (sortP l) k).2))) _ _
      rw [good_mul g3 g1.2, good_mul g1.2 g3]
      refine cnd_iff.2 ⟨fun c2 => ?_, fun c2 => ?_⟩
      · rw [if_pos (of_decide_eq_true c2)] at hI; exact hI
      · rw [if_neg (of_decide_eq_false c2)] at hI; exact hI
    · rw [if_neg (of_decide_eq_false c1)] at hI
      refine cw k loE hiE lo_end hi_end _ _ (fun x R hR => hR) (fun x R hR => hR) _ ?_
      change cnd (decide (IntKind.wrap .i64 ((farC (sortP l) k).1 * (balK (sortP l) k).2.2) > IntKind.wrap .i64 ((balK (sortP l) k).2.1 * (farC (sortP l) k).2))) _ _
      rw [good_mul g3 g1.2, good_mul g1.2 g3]
      refine cnd_iff.2 ⟨fun c2 => ?_, fun c2 => ?_⟩
      · rw [if_pos (of_decide_eq_true c2)] at hI; exact hI
      · rw [if_neg (of_decide_eq_false c2)] at hI; exact hI
  · have g1 := balK_good so s0' (l.length + 1)
    exact ⟨_, ⟨good_low g1.1, rfl⟩, _, ⟨good_low g1.2, rfl⟩, h⟩

theorem p50 {n lo hi : Int} {Q : Bool → Prop} (h : f50_wp (n, lo, hi, ()) () Q) : V50 n lo hi Q := by
  have h : Q (inB lo hi n) := h
  unfold inB at h
  show cnd (decide (n ≥ lo)) (Q (decide (n ≤ hi))) (Q false)
  refine cnd_iff.2 ⟨fun c => ?_, fun c => ?_⟩
  · rw [show decide (lo ≤ n) = true from c] at h; exact h
  · rw [show decide (lo ≤ n) = false from c] at h; exact h
theorem p36 {s : Span} {lo hi : Int} {Q : Bool → Prop} (h : f36_wp (s, lo, hi, ()) () Q) : V36 s lo hi Q := by
  have h : Q (isSpanF s lo hi) := h
  show cnd (inB lo s.2 s.1) (Q (decide (s.2 ≤ hi))) (Q false)
  have e : isSpanF s lo hi = (inB lo s.2 s.1 && decide (s.2 ≤ hi)) := by
    rw [Bool.eq_iff_iff, isSpan_iff]
    simp only [inB, Bool.and_eq_true, decide_eq_true_eq]; omega
  rw [e] at h
  refine cnd_iff.2 ⟨fun c => ?_, fun c => ?_⟩
  · rw [c] at h; exact h
  · rw [c] at h; exact h
theorem not_all_at {α : Type} {p : α → Bool} {l : List α} {d : α} {k : Nat} (hk : k < l.length) (h : p (l.getD k d) = false) : l.all p = false := by
  cases h2 : l.all p with
  | false => rfl
  | true => rw [List.all_eq_true.1 h2 _ (getD_mem hk)] at h; cases h
theorem all_at {α : Type} {p : α → Bool} {l : List α} {d : α} (h : ∀ k, k < l.length → p (l.getD k d) = true) : l.all p = true := by
  refine List.all_eq_true.2 fun x hx => ?_
  obtain ⟨k, hk, rfl⟩ := List.mem_iff_getElem.1 hx
  have := h k hk
  rwa [getD_lt hk] at this
theorem p19 {l : List Stick} {Q : Int → Prop} (h : f19_wp l () Q) : V19 l Q := by
  have h : Q (closedE l) := h
  unfold closedE at h
  intro hl
  refine cnd_iff.2 ⟨fun h4 => ?_, fun h4 => ?_⟩
  · have h4 : (l.length : Int) > 12 := of_decide_eq_true h4
    rw [if_pos (by omega)] at h; exact h
  have h4 : ¬ (l.length : Int) > 12 := of_decide_eq_false h4
  rw [if_neg (by omega)] at h
  refine forUpGL (fun k => ∀ j, j < k → isStickF (l.getD j s0) = true) (fun j hj => absurd hj (Nat.not_lt_zero _)) (fun k hk hg _ I μ hI hw => ?_) (fun hg => ?_)
  · refine ⟨by omega, by omega, ?_⟩
    change cnd (!isSpanF (l.getD k s0).1 1 10000) (Q 2) (0 ≤ (k : Int) ∧ (k : Int) < (l.length : Int) ∧ cnd (!isSpanF (l.getD k s0).2.1 1 100) (Q 2) (0 ≤ (k : Int) ∧ (k : Int) < (l.length : Int) ∧ cnd (!inB 0 5000 (l.getD k s0).2.2) (Q 2) _))
    have no : isStickF (l.getD k s0) = false → Q 2 := fun hh => by
      rw [if_pos (not_all_at hk hh)] at h; exact h
    refine cnd_iff.2 ⟨fun c1 => no ?_, fun c1 => ⟨by omega, by omega, cnd_iff.2 ⟨fun c2 => no ?_, fun c2 => ⟨by omega, by omega, cnd_iff.2 ⟨fun c3 => no ?_, fun c3 => ?_⟩⟩⟩⟩⟩
    · have c1 : isSpanF (l.getD k s0).1 1 10000 = false := by simpa using c1
      unfold isStickF; rw [c1]; rfl
    · have c2 : isSpanF (l.getD k s0).2.1 1 100 = false := by simpa using c2
      unfold isStickF; rw [c2, Bool.and_false, Bool.false_and]
    · have c3 : inB 0 5000 (l.getD k s0).2.2 = false := by simpa using c3
      unfold isStickF; rw [c3, Bool.and_false]
    · have c1 : isSpanF (l.getD k s0).1 1 10000 = true := by simpa using c1
      have c2 : isSpanF (l.getD k s0).2.1 1 100 = true := by simpa using c2
      have c3 : inB 0 5000 (l.getD k s0).2.2 = true := by simpa using c3
      rw [hw]
      refine hI fun j hj => ?_
      rcases Nat.lt_succ_iff_lt_or_eq.1 hj with h5 | rfl
      · exact hg j h5
      · unfold isStickF; rw [c1, c2, c3]; rfl
  · rw [if_neg (by rw [all_at hg]; simp)] at h; exact h

theorem list_eq_iff {α : Type} (d : α) {a b : List α} (hl : a.length = b.length) (h : ∀ k, k < a.length → a.getD k d = b.getD k d) : a = b := by
  refine List.ext_getElem hl fun k h1 h2 => ?_
  have := h k h1
  rwa [getD_lt h1, getD_lt h2] at this
theorem eq_loop {α : Type} [DecidableEq α] {a b : List α} {d : α} {eqb : α → α → Bool} (he : ∀ x y, eqb x y = true ↔ x = y) {Q : Bool → Prop} (hbl : a.length = b.length) (h : Q (decide (a = b))) :
    ∃ (I : Int → Prop) (μ : Int → Nat), I 0 ∧ ∀ x, I x → a.length ≤ 9223372036854775807 → cnd (decide (x < (a.length : Int))) (0 ≤ x ∧ x < (a.length : Int) ∧ 0 ≤ x ∧ x < (b.length : Int) ∧ cnd (!eqb (a.getD x.toNat d) (b.getD x.toNat d)) (Q false) (I (IntKind.wrap .i64 (x + 1)) ∧ μ (IntKind.wrap .i64 (x + 1)) < μ x)) (Q true) := by
  refine forUpGL (fun k => ∀ j, j < k → a.getD j d = b.getD j d) (fun j hj => absurd hj (Nat.not_lt_zero _)) (body := fun I μ x => 0 ≤ x ∧ x < (a.length : Int) ∧ 0 ≤ x ∧ x < (b.length : Int) ∧ cnd (!eqb (a.getD x.toNat d) (b.getD x.toNat d)) (Q false) (I (IntKind.wrap .i64 (x + 1)) ∧ μ (IntKind.wrap .i64 (x + 1)) < μ x)) (e := fun _ => Q true) (fun k hk hg _ I μ hI hw => ?_) (fun hg => ?_)
  · refine ⟨by omega, by omega, by omega, by omega, ?_⟩
    change cnd (!eqb (a.getD k d) (b.getD k d)) _ _
    rw [hw]
    refine cnd_iff.2 ⟨fun c => ?_, fun c => hI fun j hj => ?_⟩
    · have hne : a ≠ b := fun hh => by
        rw [hh, (he _ _).2 rfl] at c; cases c
      rw [decide_eq_false hne] at h; exact h
    · rcases Nat.lt_succ_iff_lt_or_eq.1 hj with h5 | rfl
      · exact hg j h5
      · refine (he _ _).1 ?_
        simpa using c
  · rw [decide_eq_true (list_eq_iff d hbl hg)] at h; exact h
theorem eq_list {α : Type} [DecidableEq α] {a b : List α} {d : α} {eqb : α → α → Bool} (he : ∀ x y, eqb x y = true ↔ x = y) {Q : Bool → Prop} (h : Q (decide (a = b))) :
    a.length ≤ 9223372036854775807 → b.length ≤ 9223372036854775807 → cnd ((a.length : Int) != (b.length : Int)) (Q false) (∃ (I : Int → Prop) (μ : Int → Nat), I 0 ∧ ∀ x, I x → a.length ≤ 9223372036854775807 → cnd (decide (x < (a.length : Int))) (0 ≤ x ∧ x < (a.length : Int) ∧ 0 ≤ x ∧ x < (b.length : Int) ∧ cnd (!eqb (a.getD x.toNat d) (b.getD x.toNat d)) (Q false) (I (IntKind.wrap .i64 (x + 1)) ∧ μ (IntKind.wrap .i64 (x + 1)) < μ x)) (Q true)) := by
  intro _ _
  refine cnd_iff.2 ⟨fun c => ?_, fun c => ?_⟩
  · have c : (a.length : Int) ≠ (b.length : Int) := by simpa using c
    rw [decide_eq_false (fun hh => c (by rw [hh]))] at h; exact h
  · have c : (a.length : Int) = (b.length : Int) := by simpa using c
    exact eq_loop he (by omega) h
theorem eqb_int (x y : Int) : (!(x != y)) = true ↔ x = y := by simp
theorem p40 {a b : List Int} {Q : Bool → Prop} (h : f40_wp (a, b, ()) () Q) : V40 a b Q := by
  have := eq_list (a := a) (b := b) (d := 0) (eqb := fun x y => !(x != y)) eqb_int h
  simp only [Bool.not_not] at this
  exact this
theorem p41 {a b : List Int} {Q : Bool → Prop} (h : f41_wp (a, b, ()) () Q) : V41 a b Q := p40 h
theorem p18 {a b : List Stick} {Q : Bool → Prop} (h : f18_wp (a, b, ()) () Q) : V18 a b Q :=
  eq_list (a := a) (b := b) (d := s0) (eqb := fun x y => x.1.1 == y.1.1 && (x.1.2 == y.1.2 && (x.2.1.1 == y.2.1.1 && (x.2.1.2 == y.2.1.2 && (x.2.2 == y.2.2 && true))))) (fun x y => by
    obtain ⟨⟨_, _⟩, ⟨_, _⟩, _⟩ := x
    obtain ⟨⟨_, _⟩, ⟨_, _⟩, _⟩ := y
    simp [and_assoc]) h
theorem p51 {num den : Int} {Q : Ratio → Prop} (h : f51_wp (num, den, ()) () Q) : V51 num den Q := V49_of h
end Go.Proofs.Rv
set_option linter.unusedVariables false
set_option maxRecDepth 100000
namespace Go.Proofs.Rv
open Go Go.GX Go.Proofs

theorem and_one (n : Nat) (hn : n < 2 ^ 63) : (IntKind.wrap .i64 ((BitVec.toNat (BitVec.ofInt (IntKind.bits .i64) (n : Int) &&& BitVec.ofInt (IntKind.bits .i64) 1) : Nat) : Int) == 1) = decide (n % 2 = 1) := by
  have e : BitVec.toNat (BitVec.ofInt (IntKind.bits .i64) (n : Int) &&& BitVec.ofInt (IntKind.bits .i64) 1) = n % 2 := by
    rw [BitVec.toNat_and]
    have e1 : (BitVec.ofInt (IntKind.bits .i64) (n : Int)).toNat = n := by
      rw [BitVec.toNat_ofInt]
      show ((n : Int) % 18446744073709551616).toNat = n
      omega
    have e2 : (BitVec.ofInt (IntKind.bits .i64) 1).toNat = 1 := rfl
    rw [e1, e2, Nat.and_one_is_mod]
  rw [e, wrapS (by omega) (by omega), Bool.eq_iff_iff, beq_iff_eq, decide_eq_true_iff]
  omega
theorem shr_bit {x i : Nat} (hx : x < 2 ^ 62) (hi : i < 64) : (IntKind.wrap .i64 ((BitVec.toNat (BitVec.ofInt (IntKind.bits .i64) (Int.fdiv (x : Int) ((2 : Int) ^ min (Int.toNat (IntKind.wrap .u64 (i : Int))) (IntKind.bits .i64))) &&& BitVec.ofInt (IntKind.bits .i64) 1) : Nat) : Int) == 1) = x.testBit i := by
  have w : IntKind.wrap .u64 (i : Int) = i := by
    have hb : (2 : Int) ^ IntKind.u64.bits = 18446744073709551616 := rfl
    have hs : IntKind.u64.signed = false := rfl
    unfold IntKind.wrap
    simp only [hb, hs, Bool.false_and]
    rw [if_neg (by simp)]
    omega
  have e : Int.fdiv (x : Int) ((2 : Int) ^ min (Int.toNat (IntKind.wrap .u64 (i : Int))) (IntKind.bits .i64)) = ((x / 2 ^ i : Nat) : Int) := by
    rw [w]
    have : min (Int.toNat (i : Int)) (IntKind.bits .i64) = i := by
      show min (Int.toNat (i : Int)) 64 = i
      omega
    have e2 : (2 : Int) ^ i = ((2 ^ i : Nat) : Int) := by simp
    rw [this, e2, Int.fdiv_eq_ediv_of_nonneg _ (Int.natCast_nonneg _)]
    rfl
  rw [e, and_one _ (by have := Nat.div_le_self x (2 ^ i); omega), Nat.testBit_eq_decide_div_mod_eq]
theorem up_bound {n : Nat} (hn : n ≤ 12) : IntKind.wrap .i64 (1 * 2 ^ min (Int.toNat (IntKind.wrap .u64 (n : Int))) (IntKind.bits .i64)) = ((2 ^ n : Nat) : Int) ∧ 0 ≤ IntKind.wrap .u64 (n : Int) ∧ 2 ^ n ≤ 4096 := by
  have : n = 0 ∨ n = 1 ∨ n = 2 ∨ n = 3 ∨ n = 4 ∨ n = 5 ∨ n = 6 ∨ n = 7 ∨ n = 8 ∨ n = 9 ∨ n = 10 ∨ n = 11 ∨ n = 12 := by omega
  rcases this with rfl | rfl | rfl | rfl | rfl | rfl | rfl | rfl | rfl | rfl | rfl | rfl | rfl <;> decide
theorem u64_nonneg {i : Nat} (hi : i < 64) : 0 ≤ IntKind.wrap .u64 (i : Int) := by
  have hb : (2 : Int) ^ IntKind.u64.bits = 18446744073709551616 := rfl
  have hs : IntKind.u64.signed = false := rfl
  unfold IntKind.wrap
  simp only [hb, hs, Bool.false_and]
  rw [if_neg (by simp)]
  omega
theorem bit_two (set i : Nat) (s : Span) : bitE set i s = s.1 ∨ bitE set i s = s.2 := by
  unfold bitE
  split
  · exact .inr rfl
  · exact .inl rfl
theorem set_good {l : List Stick} (h : SticksOK l) (h0 : l.length ≠ 0) (set : Nat) : goodR (setC l set) := cen_good h h0 (bit_two set)
theorem refBalK_succ (l : List Stick) (k : Nat) : refBalK l (k + 1) = (if k = 0 ∨ (setC l k).1 * (refBalK l k).1.2 < (refBalK l k).1.1 * (setC l k).2 then setC l k else (refBalK l k).1, if k = 0 ∨ (setC l k).1 * (refBalK l k).2.2 > (refBalK l k).2.1 * (setC l k).2 then setC l k else (refBalK l k).2) := by
  unfold refBalK; rw [foldl_succ]
theorem refBalK_good {l : List Stick} (h : SticksOK l) (h0 : l.length ≠ 0) : ∀ k, goodR (refBalK l (k + 1)).1 ∧ goodR (refBalK l (k + 1)).2
  | 0 => by
    rw [refBalK_succ, if_pos (.inl rfl), if_pos (.inl rfl)]
    exact ⟨set_good h h0 0, set_good h h0 0⟩
  | k + 1 => by
    obtain ⟨h1, h2⟩ := refBalK_good h h0 k
    rw [refBalK_succ]
    dsimp only
    constructor
    · split
      · exact set_good h h0 _
      · exact h1
    · split
      · exact set_good h h0 _
      · exact h2
theorem p20 {l : List Stick} {Q : Ratio × Ratio × Unit → Prop} (h : f20_wp l () Q) : V20 l Q := by
  obtain ⟨⟨ho, h0⟩, h⟩ := h
  have ho : SticksOK l := ho
  have h0 : l.length ≠ 0 := h0
  have h : Q (lowF (refBalK l (2 ^ l.length)).1, lowF (refBalK l (2 ^ l.length)).2, ()) := h
  have hn := ho.n
  obtain ⟨u1, u2, u3⟩ := up_bound hn
  refine upTo2 (n := 2 ^ l.length) (by omega) (fun k => (refBalK l k).1) (fun k => (refBalK l k).2) rfl rfl (fun k hk I μ hI => ?_)
  intro hl
  refine ⟨u2, ?_⟩
  rw [u1]
  refine cnd_iff.2 ⟨fun c => ?_, fun c => ?_⟩
  rotate_left
  · have c : ¬ (k : Int) < ((2 ^ l.length : Nat) : Int) := of_decide_eq_false c
    have hk : k = 2 ^ l.length := by omega
    rw [← hk] at h
    have hk1 : 1 ≤ k := by rw [hk]; exact Nat.one_le_two_pow
    obtain ⟨k', rfl⟩ : ∃ k', k = k' + 1 := ⟨k - 1, by omega⟩
    have g := refBalK_good ho h0 k'
    exact ⟨_, ⟨good_low g.1, rfl⟩, _, ⟨good_low g.2, rfl⟩, h⟩
  have c : (k : Int) < ((2 ^ l.length : Nat) : Int) := of_decide_eq_true c
  obtain ⟨hw, hI⟩ := hI (by omega)
  rw [hw]
  rw [refBalK_succ] at hI
  refine forUp2L (fun i => (cenK l (bitE k) i).1) (fun i => (cenK l (bitE k) i).2) rfl rfl (fun i hi J ν hJ hw2 => ?_) ?_
  · refine ⟨by omega, by omega, u64_nonneg (by omega), ?_⟩
    rw [shr_bit (by omega) (by omega), hw2]
    have b1 := cen_le (l := l) (e := bitE k) (fun i s hs => by have := ho.s s hs; rcases bit_two k i s.1 with hb | hb <;> rw [hb] <;> omega) i (by omega)
    have hs := ho.s _ (getD_mem (d := s0) hi)
    rw [cenK_succ] at hJ
    have fin : ∀ v : Int, bitE k i (l.getD i s0).1 = v → 1 ≤ v → v ≤ 10000 → J (i + 1) (IntKind.wrap .i64 ((cenK l (bitE k) i).1 + IntKind.wrap .i64 (v * (l.getD i s0).2.2))) (IntKind.wrap .i64 ((cenK l (bitE k) i).2 + v)) ∧ ν (i + 1) (IntKind.wrap .i64 ((cenK l (bitE k) i).1 + IntKind.wrap .i64 (v * (l.getD i s0).2.2))) (IntKind.wrap .i64 ((cenK l (bitE k) i).2 + v)) < ν i (cenK l (bitE k) i).1 (cenK l (bitE k) i).2 := by
      intro v hv h1 h2
      rw [hv] at hJ
      have b3 := mulB (show 0 ≤ v by omega) h2 hs.2.2.1 hs.2.2.2
      rw [wrapS (x := v * (l.getD i s0).2.2) (by omega) (by omega), wrapS (x := (cenK l (bitE k) i).1 + v * (l.getD i s0).2.2) (by omega) (by omega), wrapS (x := (cenK l (bitE k) i).2 + v) (by omega) (by omega)]
      exact hJ
    refine cnd_iff.2 ⟨fun d => ⟨by omega, by omega, by omega, by omega, fin _ ?_ (by show 1 ≤ (l.getD i s0).1.2; omega) (by show (l.getD i s0).1.2 ≤ 10000; omega)⟩, fun d => ⟨by omega, by omega, fin _ ?_ (by show 1 ≤ (l.getD i s0).1.1; omega) (by show (l.getD i s0).1.1 ≤ 10000; omega)⟩⟩
    · unfold bitE; rw [if_pos d]; rfl
    · unfold bitE; rw [if_neg (by rw [d]; simp)]; rfl
  change cnd ((k : Int) == 0) (cnd ((k : Int) == 0) _ _) (cnd (decide (IntKind.wrap .i64 ((setC l k).1 * (refBalK l k).1.2) < IntKind.wrap .i64 ((refBalK l k).1.1 * (setC l k).2))) (cnd ((k : Int) == 0) _ (cnd (decide (IntKind.wrap .i64 ((setC l k).1 * (refBalK l k).2.2) > IntKind.wrap .i64 ((refBalK l k).2.1 * (setC l k).2))) _ _)) (cnd ((k : Int) == 0) _ (cnd (decide (IntKind.wrap .i64 ((setC l k).1 * (refBalK l k).2.2) > IntKind.wrap .i64 ((refBalK l k).2.1 * (setC l k).2))) _ _)))
  by_cases hk0 : k = 0
  · subst hk0
    rw [if_pos (.inl rfl), if_pos (.inl rfl)] at hI
    exact cndT (cndT hI)
  have hb : ((k : Int) == 0) = false := by simpa using hk0
  rw [hb]
  obtain ⟨k', rfl⟩ : ∃ k', k = k' + 1 := ⟨k - 1, by omega⟩
  have g := refBalK_good ho h0 k'
  have gs := set_good ho h0 (k' + 1)
  rw [good_mul gs g.1, good_mul g.1 gs, good_mul gs g.2, good_mul g.2 gs]
  refine cndF (cnd_iff.2 ⟨fun c1 => cndF (cnd_iff.2 ⟨fun c2 => ?_, fun c2 => ?_⟩), fun c1 => cndF (cnd_iff.2 ⟨fun c2 => ?_, fun c2 => ?_⟩)⟩)
  · rw [if_pos (.inr (of_decide_eq_true c1)), if_pos (.inr (of_decide_eq_true c2))] at hI; exact hI
  · rw [if_pos (.inr (of_decide_eq_true c1)), if_neg (fun hh => hh.elim hk0 (of_decide_eq_false c2))] at hI; exact hI
  · rw [if_neg (fun hh => hh.elim hk0 (of_decide_eq_false c1)), if_pos (.inr (of_decide_eq_true c2))] at hI; exact hI
  · rw [if_neg (fun hh => hh.elim hk0 (of_decide_eq_false c1)), if_neg (fun hh => hh.elim hk0 (of_decide_eq_false c2))] at hI; exact hI
end Go.Proofs.Rv
set_option maxRecDepth 100000
namespace Go.Proofs.Rv
open Go Go.GX Go.Proofs
variable [Inhabited BaseD]
theorem ok62 : CallsOK Try.prog (assoc glT) 62 f62_ct :=
  callsOK_E (env (ct := []) (ios := []) (hos := []) (lits := []) AllOK.nil AllW.nil AllH.nil) f62_an Try.func62 (by kernel_rfl) (by kernel_rfl) f62_ct fun ⟨f, s, _⟩ _ Q h => (v62 f s Q).mp (p62 h)
theorem ok32 : CallsOK Try.prog (assoc glT) 32 f32_ct :=
  callsOK_E (env (ct := [(42, f42_ct), (72, f72_ct), (71, f71_ct), (54, f54_ct)]) (ios := []) (hos := []) (lits := []) (AllOK.cons ok42 (AllOK.cons ok72 (AllOK.cons ok71 (AllOK.cons ok54 AllOK.nil)))) AllW.nil AllH.nil) f32_an Try.func32 (by kernel_rfl) (by kernel_rfl) f32_ct fun ⟨f, more, _⟩ _ Q h => (v32 f more Q).mp (p32 h)
theorem ok55 : CallsOK Try.prog (assoc glT) 55 f55_ct :=
  callsOK_E (env (ct := [(56, f56_ct), (57, f57_ct)]) (ios := []) (hos := []) (lits := []) (AllOK.cons ok56 (AllOK.cons ok57 AllOK.nil)) AllW.nil AllH.nil) no_an Try.func55 (by kernel_rfl) (by kernel_rfl) f55_ct fun i ⟨f, _⟩ Q h => (v55 i f Q).mp (p55 h)
theorem ok59 : CallsOK Try.prog (assoc glT) 59 f59_ct :=
  callsOK_E (env (ct := [(60, f60_ct)]) (ios := []) (hos := []) (lits := []) (AllOK.cons ok60 AllOK.nil) AllW.nil AllH.nil) no_an Try.func59 (by kernel_rfl) (by kernel_rfl) f59_ct fun ik ⟨g, _⟩ Q h => (v59 ik g Q).mp (p59 h)
theorem ok63 : CallsOK Try.prog (assoc glT) 63 f63_ct :=
  callsOK_E (env (ct := [(64, f64_ct)]) (ios := []) (hos := []) (lits := []) (AllOK.cons ok64 AllOK.nil) AllW.nil AllH.nil) no_an Try.func63 (by kernel_rfl) (by kernel_rfl) f63_ct fun i ⟨set, _⟩ Q h => (v63 i set Q).mp (p63 h)
theorem ok61 : CallsOK Try.prog (assoc glT) 61 f61_ct :=
  callsOK_E (env (ct := [(62, f62_ct), (63, f63_ct), (54, f54_ct)]) (ios := []) (hos := []) (lits := []) (AllOK.cons ok62 (AllOK.cons ok63 (AllOK.cons ok54 AllOK.nil))) AllW.nil AllH.nil) no_an Try.func61 (by kernel_rfl) (by kernel_rfl) f61_ct fun set ⟨f, seen, _⟩ Q h => (v61 set f seen Q).mp (p61 h)
theorem ok67 : CallsOK Try.prog (assoc glT) 67 f67_ct :=
  callsOK_E (env (ct := []) (ios := []) (hos := []) (lits := []) AllOK.nil AllW.nil AllH.nil) no_an Try.func67 (by kernel_rfl) (by kernel_rfl) f67_ct fun k ⟨i, _⟩ Q h => (v67 k i Q).mp (p67 h)
theorem ok25 : CallsOK Try.prog (assoc glT) 25 f25_ct :=
  callsOK_E (env (ct := [(42, f42_ct), (53, f53_ct), (54, f54_ct), (55, f55_ct), (59, f59_ct), (61, f61_ct), (66, f66_ct), (67, f67_ct), (68, f68_ct)]) (ios := [(58, f58_ct)]) (hos := [(65, f65_ct)]) (lits := [1200,1300,2500,2303,8003112]) (AllOK.cons ok42 (AllOK.cons ok53 (AllOK.cons ok54 (AllOK.cons ok55 (AllOK.cons ok59 (AllOK.cons ok61 (AllOK.cons ok66 (AllOK.cons ok67 (AllOK.cons ok68 AllOK.nil))))))))) (AllW.cons ok58 AllW.nil) (AllH.cons ok65 AllH.nil)) f25_an Try.func25 (by kernel_rfl) (by kernel_rfl) f25_ct fun ⟨f, seen, _⟩ _ Q h => (v25 f seen Q).mp (p25 h)
theorem ok30 : CallsOK Try.prog (assoc glT) 30 f30_ct :=
  callsOK_E (env (ct := [(42, f42_ct), (53, f53_ct), (69, f69_ct), (54, f54_ct)]) (ios := []) (hos := []) (lits := []) (AllOK.cons ok42 (AllOK.cons ok53 (AllOK.cons ok69 (AllOK.cons ok54 AllOK.nil)))) AllW.nil AllH.nil) f30_an Try.func30 (by kernel_rfl) (by kernel_rfl) f30_ct fun ⟨f, d, _⟩ _ Q h => (v30 f d Q).mp (p30 h)
theorem ok70 : CallsOK Try.prog (assoc glT) 70 f70_ct :=
  callsOK_E (env (ct := [(71, f71_ct), (54, f54_ct)]) (ios := []) (hos := []) (lits := []) (AllOK.cons ok71 (AllOK.cons ok54 AllOK.nil)) AllW.nil AllH.nil) f70_an Try.func70 (by kernel_rfl) (by kernel_rfl) f70_ct fun a ⟨f, d, _⟩ Q h => (v70 a f d Q).mp (p70 h)
theorem ok31 : CallsOK Try.prog (assoc glT) 31 f31_ct :=
  callsOK_E (env (ct := [(42, f42_ct), (53, f53_ct), (70, f70_ct)]) (ios := []) (hos := []) (lits := []) (AllOK.cons ok42 (AllOK.cons ok53 (AllOK.cons ok70 AllOK.nil))) AllW.nil AllH.nil) f31_an Try.func31 (by kernel_rfl) (by kernel_rfl) f31_ct fun ⟨f, d, _⟩ _ Q h => (v31 f d Q).mp (p31 h)
theorem ok75 : CallsOK Try.prog (assoc glT) 75 f75_ct :=
  callsOK_E (env (ct := [(77, f77_ct), (72, f72_ct)]) (ios := []) (hos := []) (lits := []) (AllOK.cons ok77 (AllOK.cons ok72 AllOK.nil)) AllW.nil AllH.nil) no_an Try.func75 (by kernel_rfl) (by kernel_rfl) f75_ct fun s _ Q h => (v75 s Q).mp (p75 h)
theorem ok74 : CallsOK Try.prog (assoc glT) 74 f74_ct :=
  callsOK_E (env (ct := [(75, f75_ct)]) (ios := []) (hos := []) (lits := []) (AllOK.cons ok75 AllOK.nil) AllW.nil AllH.nil) no_an Try.func74 (by kernel_rfl) (by kernel_rfl) f74_ct fun s _ Q h => (v74 s Q).mp (p74 h)
theorem ok76 : CallsOK Try.prog (assoc glT) 76 f76_ct :=
  callsOK_E (env (ct := []) (ios := []) (hos := []) (lits := []) AllOK.nil AllW.nil AllH.nil) no_an Try.func76 (by kernel_rfl) (by kernel_rfl) f76_ct fun ⟨a, b, _⟩ _ Q h => (v76 a b Q).mp (p76 h)
theorem ok33 : CallsOK Try.prog (assoc glT) 33 f33_ct :=
  callsOK_E (env (ct := [(73, f73_ct), (74, f74_ct), (76, f76_ct)]) (ios := []) (hos := []) (lits := []) (AllOK.cons ok73 (AllOK.cons ok74 (AllOK.cons ok76 AllOK.nil))) AllW.nil AllH.nil) f33_an Try.func33 (by kernel_rfl) (by kernel_rfl) f33_ct fun l _ Q h => (v33 l Q).mp (p33 h)
theorem ok46 : CallsOK Try.prog (assoc glT) 46 f46_ct :=
  callsOK_E (env (ct := []) (ios := []) (hos := []) (lits := []) AllOK.nil AllW.nil AllH.nil) f46_an Try.func46 (by kernel_rfl) (by kernel_rfl) f46_ct fun ⟨l, first, p, q, _⟩ _ Q h => (v46 l first p q Q).mp (p46 h)
theorem ok49 : CallsOK Try.prog (assoc glT) 49 f49_ct :=
  callsOK_E (env (ct := []) (ios := []) (hos := []) (lits := []) AllOK.nil AllW.nil AllH.nil) f49_an Try.func49 (by kernel_rfl) (by kernel_rfl) f49_ct fun ⟨num, den, _⟩ _ Q h => (v49 num den Q).mp (p49 h)
theorem ok45 : CallsOK Try.prog (assoc glT) 45 f45_ct :=
  callsOK_E (env (ct := []) (ios := []) (hos := []) (lits := []) AllOK.nil AllW.nil AllH.nil) no_an Try.func45 (by kernel_rfl) (by kernel_rfl) f45_ct fun ab _ Q h => (v45 ab Q).mp (p45 h)
theorem ok17 : CallsOK Try.prog (assoc glT) 17 f17_ct :=
  callsOK_E (env (ct := [(33, f33_ct), (44, f44_ct), (43, f43_ct), (45, f45_ct), (46, f46_ct), (47, f47_ct), (48, f48_ct), (49, f49_ct)]) (ios := []) (hos := []) (lits := []) (AllOK.cons ok33 (AllOK.cons ok44 (AllOK.cons ok43 (AllOK.cons ok45 (AllOK.cons ok46 (AllOK.cons ok47 (AllOK.cons ok48 (AllOK.cons ok49 AllOK.nil)))))))) AllW.nil AllH.nil) f17_an Try.func17 (by kernel_rfl) (by kernel_rfl) f17_ct fun l _ Q h => (v17 l Q).mp (p17 h)
theorem ok50 : CallsOK Try.prog (assoc glT) 50 f50_ct :=
  callsOK_E (env (ct := []) (ios := []) (hos := []) (lits := []) AllOK.nil AllW.nil AllH.nil) no_an Try.func50 (by kernel_rfl) (by kernel_rfl) f50_ct fun ⟨n, lo, hi, _⟩ _ Q h => (v50 n lo hi Q).mp (p50 h)
theorem ok36 : CallsOK Try.prog (assoc glT) 36 f36_ct :=
  callsOK_E (env (ct := [(50, f50_ct)]) (ios := []) (hos := []) (lits := []) (AllOK.cons ok50 AllOK.nil) AllW.nil AllH.nil) no_an Try.func36 (by kernel_rfl) (by kernel_rfl) f36_ct fun ⟨s, lo, hi, _⟩ _ Q h => (v36 s lo hi Q).mp (p36 h)
theorem ok40 : CallsOK Try.prog (assoc glT) 40 f40_ct :=
  callsOK_E (env (ct := []) (ios := []) (hos := []) (lits := []) AllOK.nil AllW.nil AllH.nil) cmp_an Try.func40 (by kernel_rfl) (by kernel_rfl) f40_ct fun ⟨a, b, _⟩ _ Q h => (v40 a b Q).mp (p40 h)
theorem ok41 : CallsOK Try.prog (assoc glT) 41 f41_ct :=
  callsOK_E (env (ct := []) (ios := []) (hos := []) (lits := []) AllOK.nil AllW.nil AllH.nil) cmp_an Try.func41 (by kernel_rfl) (by kernel_rfl) f41_ct fun ⟨a, b, _⟩ _ Q h => (v41 a b Q).mp (p41 h)
theorem ok18 : CallsOK Try.prog (assoc glT) 18 f18_ct :=
  callsOK_E (env (ct := []) (ios := []) (hos := []) (lits := []) AllOK.nil AllW.nil AllH.nil) cmp_an Try.func18 (by kernel_rfl) (by kernel_rfl) f18_ct fun ⟨a, b, _⟩ _ Q h => (v18 a b Q).mp (p18 h)
theorem ok19 : CallsOK Try.prog (assoc glT) 19 f19_ct :=
  callsOK_E (env (ct := [(36, f36_ct), (50, f50_ct)]) (ios := []) (hos := []) (lits := []) (AllOK.cons ok36 (AllOK.cons ok50 AllOK.nil)) AllW.nil AllH.nil) f19_an Try.func19 (by kernel_rfl) (by kernel_rfl) f19_ct fun l _ Q h => (v19 l Q).mp (p19 h)
theorem ok51 : CallsOK Try.prog (assoc glT) 51 f51_ct :=
  callsOK_E (env (ct := []) (ios := []) (hos := []) (lits := []) AllOK.nil AllW.nil AllH.nil) f51_an Try.func51 (by kernel_rfl) (by kernel_rfl) f51_ct fun ⟨num, den, _⟩ _ Q h => (v51 num den Q).mp (p51 h)
theorem ok20 : CallsOK Try.prog (assoc glT) 20 f20_ct :=
  callsOK_E (env (ct := [(51, f51_ct)]) (ios := []) (hos := []) (lits := []) (AllOK.cons ok51 AllOK.nil) AllW.nil AllH.nil) f20_an Try.func20 (by kernel_rfl) (by kernel_rfl) f20_ct fun l _ Q h => (v20 l Q).mp (p20 h)
end Go.Proofs.Rv
set_option linter.unusedVariables false
set_option maxRecDepth 100000
namespace Go.Proofs.Rv
open Go Go.GX Go.Proofs

def V27 (a : Int) (b : Int) (Q : Int × Int → Prop) : Prop :=
  Q (a, b)
theorem v27 (a : Int) (b : Int) (Q : Int × Int → Prop) : V27 a b Q = vcFunc (S1 [] [] [] []) f27_ct.own f27_ct.fresh no_an Try.f27 (bodyOf Try.f27) f27_ct.A f27_ct.C f27_ct.R (a, b, ()) () Q := by kernel_rfl

def V16 (l : List ((Int × Int) × (Int × Int) × Int)) (Q : List ((Int × Int) × (Int × Int) × Int) → Prop) : Prop :=
  (List.length ([] : List ((Int × Int) × (Int × Int) × Int)) + List.length l) * (40 : Nat) ≤ (140737488355328 : Nat) ∧
    Q (([] : List ((Int × Int) × (Int × Int) × Int)) ++ l)
theorem v16 (l : List ((Int × Int) × (Int × Int) × Int)) (Q : List ((Int × Int) × (Int × Int) × Int) → Prop) : V16 l Q = vcFunc (S1 [] [] [] []) f16_ct.own f16_ct.fresh no_an Try.f16 (bodyOf Try.f16) f16_ct.A f16_ct.C f16_ct.R l () Q := by kernel_rfl

def V39 (Q : (Int × Int) × (Int × Int) × List ((Int × Int) × Int × Int) → Prop) : Prop :=
  f27_wp ((900 : Int), (1000 : Int), ()) () fun (r : Int × Int) ↦
    f27_wp ((40 : Int), (50 : Int), ()) () fun (r_1 : Int × Int) ↦
      f27_wp ((200 : Int), (210 : Int), ()) () fun (r_2 : Int × Int) ↦
        f27_wp ((12 : Int), (12 : Int), ()) () fun (r_3 : Int × Int) ↦
          f27_wp ((100 : Int), (100 : Int), ()) () fun (r_4 : Int × Int) ↦
            f27_wp ((4 : Int), (5 : Int), ()) () fun (r_5 : Int × Int) ↦
              Q
                ((Prod.fst r, Prod.snd r), (Prod.fst r_1, Prod.snd r_1),
                  ((Prod.fst r_2, Prod.snd r_2), Prod.fst r_3, Prod.snd r_3) ::
                    ((Prod.fst r_4, Prod.snd r_4), Prod.fst r_5, Prod.snd r_5) :: ([] : List ((Int × Int) × Int × Int)))
theorem v39 (Q : (Int × Int) × (Int × Int) × List ((Int × Int) × Int × Int) → Prop) : V39 Q = vcFunc (S1 [(27, f27_ct)] [] [] [108]) f39_ct.own f39_ct.fresh no_an Try.f39 (bodyOf Try.f39) f39_ct.A f39_ct.C f39_ct.R () () Q := by kernel_rfl

end Go.Proofs.Rv
set_option linter.unusedVariables false
set_option maxRecDepth 100000
namespace Go.Proofs.Rv
open Go Go.GX Go.Proofs

theorem p27 {a b : Int} {Q : Span → Prop} (h : f27_wp (a, b, ()) () Q) : V27 a b Q := h
theorem p16 {l : List Stick} {Q : List Stick → Prop} (h : f16_wp l () Q) : V16 l Q := by
  obtain ⟨h1, h⟩ := h
  refine ⟨by simp only [List.length_nil]; omega, ?_⟩
  rw [List.nil_append]; exact h
theorem p39 {Q : Fan → Prop} (h : f39_wp () () Q) : V39 Q := h
end Go.Proofs.Rv
set_option linter.unusedVariables false
set_option maxRecDepth 100000
namespace Go.Proofs.Rv
open Go Go.GX Go.Proofs

def V10 (Q : Bool → Prop) : Prop :=
  f39_wp () () fun (r : (Int × Int) × (Int × Int) × List ((Int × Int) × Int × Int)) ↦
    f28_wp ((Prod.fst (Prod.fst r), Prod.snd (Prod.fst r)), (Prod.fst (Prod.fst (Prod.snd r)), Prod.snd (Prod.fst (Prod.snd r))), Prod.snd (Prod.snd r))
      () fun (r : (Int × Int) × Int × Unit) ↦
      f39_wp () () fun (r_1 : (Int × Int) × (Int × Int) × List ((Int × Int) × Int × Int)) ↦
        f12_wp
          ((Prod.fst (Prod.fst r_1), Prod.snd (Prod.fst r_1)), (Prod.fst (Prod.fst (Prod.snd r_1)), Prod.snd (Prod.fst (Prod.snd r_1))),
            Prod.snd (Prod.snd r_1))
          () fun (r_2 : List Int × Int × Unit) ↦
          f39_wp () () fun (r_3 : (Int × Int) × (Int × Int) × List ((Int × Int) × Int × Int)) ↦
            f32_wp
              (((Prod.fst (Prod.fst r_3), Prod.snd (Prod.fst r_3)), (Prod.fst (Prod.fst (Prod.snd r_3)), Prod.snd (Prod.fst (Prod.snd r_3))),
                  Prod.snd (Prod.snd r_3)),
                (100 : Int), ())
              () fun (r_4 : Int × Int × Int × Unit) ↦
              f39_wp () () fun (r_5 : (Int × Int) × (Int × Int) × List ((Int × Int) × Int × Int)) ↦
                f27_wp ((10 : Int), (14 : Int), ()) () fun (r_6 : Int × Int) ↦
                  f25_wp
                    (((Prod.fst (Prod.fst r_5), Prod.snd (Prod.fst r_5)), (Prod.fst (Prod.fst (Prod.snd r_5)), Prod.snd (Prod.fst (Prod.snd r_5))),
                        Prod.snd (Prod.snd r_5)),
                      (Prod.fst r_6, Prod.snd r_6), ())
                    () fun (r_7 : List Int × Int × Unit) ↦
                    f39_wp () () fun (r_8 : (Int × Int) × (Int × Int) × List ((Int × Int) × Int × Int)) ↦
                      f30_wp
                        (((Prod.fst (Prod.fst r_8), Prod.snd (Prod.fst r_8)), (Prod.fst (Prod.fst (Prod.snd r_8)), Prod.snd (Prod.fst (Prod.snd r_8))),
                            Prod.snd (Prod.snd r_8)),
                          (45 : Int), ())
                        () fun (r_9 : Int × Int × Unit) ↦
                        f39_wp () () fun (r_10 : (Int × Int) × (Int × Int) × List ((Int × Int) × Int × Int)) ↦
                          f31_wp
                            (((Prod.fst (Prod.fst r_10), Prod.snd (Prod.fst r_10)),
                                (Prod.fst (Prod.fst (Prod.snd r_10)), Prod.snd (Prod.fst (Prod.snd r_10))), Prod.snd (Prod.snd r_10)),
                              (18 : Int), ())
                            () fun (r_11 : Int × Int × Unit) ↦
                            f27_wp ((100 : Int), (120 : Int), ()) () fun (r_12 : Int × Int) ↦
                              f27_wp ((1 : Int), (1 : Int), ()) () fun (r_13 : Int × Int) ↦
                                f27_wp ((30 : Int), (40 : Int), ()) () fun (r_14 : Int × Int) ↦
                                  f27_wp ((1 : Int), (1 : Int), ()) () fun (r_15 : Int × Int) ↦
                                    f17_wp
                                      (((Prod.fst r_12, Prod.snd r_12), (Prod.fst r_13, Prod.snd r_13), (50 : Int)) ::
                                        ((Prod.fst r_14, Prod.snd r_14), (Prod.fst r_15, Prod.snd r_15), (200 : Int)) ::
                                          ([] : List ((Int × Int) × (Int × Int) × Int)))
                                      () fun (r_16 : (Int × Int) × (Int × Int) × Int × Unit) ↦
                                      cnd (Prod.fst (Prod.snd r) != (0 : Int)) (Q false)
                                        (cnd (Prod.fst (Prod.snd r_2) != (0 : Int)) (Q false)
                                          (cnd (Prod.fst (Prod.snd (Prod.snd r_4)) != (0 : Int)) (Q false)
                                            (cnd (Prod.fst (Prod.snd r_7) != (0 : Int)) (Q false)
                                              (cnd (Prod.fst (Prod.snd r_9) != (0 : Int)) (Q false)
                                                (cnd (Prod.fst (Prod.snd r_11) != (0 : Int)) (Q false)
                                                  (cnd (Prod.fst (Prod.snd (Prod.snd r_16)) != (0 : Int)) (Q false)
                                                    (∃ (r_17 : Int × Int),
                                                      (f27_wp ((16 : Int), (19 : Int), ()) () fun (r' : Int × Int) ↦ r' = r_17) ∧
                                                        cnd (Prod.fst (Prod.fst r) == Prod.fst r_17 && (Prod.snd (Prod.fst r) == Prod.snd r_17 && true))
                                                          (∃ (r : Bool),
                                                            (f40_wp (Prod.fst r_2, (1 : Int) :: (3 : Int) :: ([] : List Int), ()) () fun (r' : Bool) ↦
                                                                r' = r) ∧
                                                              cnd r
                                                                (cnd (Prod.fst r_4 == (0 : Int))
                                                                  (cnd (Prod.fst (Prod.snd r_4) == (18 : Int))
                                                                    (∃ (r : Bool),
                                                                      (f40_wp (Prod.fst r_7, (0 : Int) :: ([] : List Int), ()) () fun (r' : Bool) ↦
                                                                          r' = r) ∧
                                                                        cnd r
                                                                          (cnd (Prod.fst r_9 == (5 : Int))
                                                                            (cnd (Prod.fst r_11 == (235 : Int))
                                                                              (cnd
                                                                                (Prod.fst (Prod.fst r_16) == (80 : Int) &&
                                                                                  (Prod.snd (Prod.fst r_16) == (1 : Int) && true))
                                                                                (Q
                                                                                  (Prod.fst (Prod.fst (Prod.snd r_16)) == (650 : Int) &&
                                                                                    (Prod.snd (Prod.fst (Prod.snd r_16)) == (7 : Int) && true)))
                                                                                (Q false))
                                                                              (Q false))
                                                                            (Q false))
                                                                          (Q false))
                                                                    (Q false))
                                                                  (Q false))
                                                                (Q false))
                                                          (Q false))))))))
theorem v10 (Q : Bool → Prop) : V10 Q = vcFunc (S1 [(39, f39_ct), (28, f28_ct), (12, f12_ct), (32, f32_ct), (27, f27_ct), (25, f25_ct), (30, f30_ct), (31, f31_ct), (17, f17_ct), (40, f40_ct), (41, f41_ct)] [] [] []) f10_ct.own f10_ct.fresh no_an Try.f10 (bodyOf Try.f10) f10_ct.A f10_ct.C f10_ct.R () () Q := by kernel_rfl

def V3 (f : (Int × Int) × (Int × Int) × List ((Int × Int) × Int × Int)) (Q : Bool → Prop) : Prop :=
  List.length (Prod.snd (Prod.snd f)) ≤ (9223372036854775807 : Nat) →
    cnd (decide ((↑(List.length (Prod.snd (Prod.snd f))) : Int) > (50 : Int))) (f10_wp () () fun (r : Bool) ↦ Q r)
      (f11_wp
        ((Prod.fst (Prod.fst f), Prod.snd (Prod.fst f)), (Prod.fst (Prod.fst (Prod.snd f)), Prod.snd (Prod.fst (Prod.snd f))), Prod.snd (Prod.snd f)) ()
        fun (r : (Int × Int) × (Int × Int) × List ((Int × Int) × Int × Int)) ↦
        f12_wp
          ((Prod.fst (Prod.fst r), Prod.snd (Prod.fst r)), (Prod.fst (Prod.fst (Prod.snd r)), Prod.snd (Prod.fst (Prod.snd r))), Prod.snd (Prod.snd r))
          () fun (r_1 : List Int × Int × Unit) ↦
          f13_wp
            (((Prod.fst (Prod.fst r), Prod.snd (Prod.fst r)), (Prod.fst (Prod.fst (Prod.snd r)), Prod.snd (Prod.fst (Prod.snd r))),
                Prod.snd (Prod.snd r)),
              ((Prod.fst (Prod.fst f), Prod.snd (Prod.fst f)), (Prod.fst (Prod.fst (Prod.snd f)), Prod.snd (Prod.fst (Prod.snd f))),
                Prod.snd (Prod.snd f)),
              ())
            () fun (r : Bool) ↦
            cnd (!r) (Q false)
              (f14_wp
                ((Prod.fst (Prod.fst f), Prod.snd (Prod.fst f)), (Prod.fst (Prod.fst (Prod.snd f)), Prod.snd (Prod.fst (Prod.snd f))),
                  Prod.snd (Prod.snd f))
                () fun (r : Int) ↦
                cnd (r != (0 : Int))
                  (cnd (Prod.fst (Prod.snd r_1) == r)
                    (List.length (Prod.fst r_1) ≤ (9223372036854775807 : Nat) →
                      cnd ((↑(List.length (Prod.fst r_1)) : Int) == (0 : Int)) (f10_wp () () fun (r : Bool) ↦ Q r) (Q false))
                    (Q false))
                  (cnd (Prod.fst (Prod.snd r_1) != (0 : Int)) (Q false)
                    (List.length (Prod.fst r_1) ≤ (9223372036854775807 : Nat) →
                      List.length (Prod.snd (Prod.snd f)) ≤ (9223372036854775807 : Nat) →
                        cnd ((↑(List.length (Prod.fst r_1)) : Int) != (↑(List.length (Prod.snd (Prod.snd f))) : Int)) (Q false)
                          (∃ (I : Int → Prop),
                            ∃ (μ : Int → Nat),
                              I (0 : Int) ∧
                                ∀ (x : Int),
                                  I x →
                                    List.length (Prod.fst r_1) ≤ (9223372036854775807 : Nat) →
                                      cnd (decide (x < (↑(List.length (Prod.fst r_1)) : Int)))
                                        ((0 : Int) ≤ x ∧
                                          x < (↑(List.length (Prod.fst r_1)) : Int) ∧
                                            (0 : Int) ≤ x ∧
                                              x < (↑(List.length (Prod.snd (Prod.snd f))) : Int) ∧
                                                ∃ (r : Int),
                                                  (f15_wp
                                                      (((Prod.fst (Prod.fst f), Prod.snd (Prod.fst f)),
                                                          (Prod.fst (Prod.fst (Prod.snd f)), Prod.snd (Prod.fst (Prod.snd f))), Prod.snd (Prod.snd f)),
                                                        ((Prod.fst
                                                              (Prod.fst
                                                                (List.getD (Prod.snd (Prod.snd f)) (Int.toNat x)
                                                                  (((0 : Int), (0 : Int)), (0 : Int), (0 : Int)))),
                                                            Prod.snd
                                                              (Prod.fst
                                                                (List.getD (Prod.snd (Prod.snd f)) (Int.toNat x)
                                                                  (((0 : Int), (0 : Int)), (0 : Int), (0 : Int))))),
                                                          Prod.fst
                                                            (Prod.snd
                                                              (List.getD (Prod.snd (Prod.snd f)) (Int.toNat x)
                                                                (((0 : Int), (0 : Int)), (0 : Int), (0 : Int)))),
                                                          Prod.snd
                                                            (Prod.snd
                                                              (List.getD (Prod.snd (Prod.snd f)) (Int.toNat x)
                                                                (((0 : Int), (0 : Int)), (0 : Int), (0 : Int))))),
                                                        ())
                                                      () fun (r' : Int) ↦ r' = r) ∧
                                                    cnd (List.getD (Prod.fst r_1) (Int.toNat x) (0 : Int) != r) (Q false)
                                                      (I (IntKind.wrap IntKind.i64 (x + (1 : Int))) ∧
                                                        μ (IntKind.wrap IntKind.i64 (x + (1 : Int))) < μ x))
                                        (f10_wp () () fun (r : Bool) ↦ Q r))))))
theorem v3 (f : (Int × Int) × (Int × Int) × List ((Int × Int) × Int × Int)) (Q : Bool → Prop) : V3 f Q = vcFunc (S1 [(10, f10_ct), (11, f11_ct), (12, f12_ct), (13, f13_ct), (14, f14_ct), (15, f15_ct)] [] [] []) f3_ct.own f3_ct.fresh f3_an Try.f3 (bodyOf Try.f3) f3_ct.A f3_ct.C f3_ct.R f () Q := by kernel_rfl

def V4 (l : List ((Int × Int) × (Int × Int) × Int)) (Q : Bool → Prop) : Prop :=
  List.length l ≤ (9223372036854775807 : Nat) →
    cnd (decide ((↑(List.length l) : Int) > (20 : Int))) (f10_wp () () fun (r : Bool) ↦ Q r)
      (f16_wp l () fun (r : List ((Int × Int) × (Int × Int) × Int)) ↦
        f17_wp r () fun (r_1 : (Int × Int) × (Int × Int) × Int × Unit) ↦
          f18_wp (r, l, ()) () fun (r : Bool) ↦
            cnd (!r) (Q false)
              (f19_wp l () fun (r : Int) ↦
                ∃ (I : Bool → Prop),
                  cnd (r == (0 : Int)) (List.length l ≤ (9223372036854775807 : Nat) → I ((↑(List.length l) : Int) == (0 : Int))) (I false) ∧
                    ∀ (x : Bool),
                      I x →
                        ∃ (I : Int → Prop),
                          cnd x (I (7 : Int)) (I r) ∧
                            ∀ (x : Int),
                              I x →
                                cnd (x != (0 : Int))
                                  (cnd (Prod.fst (Prod.snd (Prod.snd r_1)) == x)
                                    (cnd (Prod.fst (Prod.fst r_1) == (0 : Int) && (Prod.snd (Prod.fst r_1) == (0 : Int) && true))
                                      (cnd
                                        (Prod.fst (Prod.fst (Prod.snd r_1)) == (0 : Int) && (Prod.snd (Prod.fst (Prod.snd r_1)) == (0 : Int) && true))
                                        (f10_wp () () fun (r : Bool) ↦ Q r) (Q false))
                                      (Q false))
                                    (Q false))
                                  (f20_wp l () fun (r : (Int × Int) × (Int × Int) × Unit) ↦
                                    cnd (Prod.fst (Prod.snd (Prod.snd r_1)) == (0 : Int))
                                      (cnd
                                        (Prod.fst (Prod.fst r_1) == Prod.fst (Prod.fst r) && (Prod.snd (Prod.fst r_1) == Prod.snd (Prod.fst r) && true))
                                        (cnd
                                          (Prod.fst (Prod.fst (Prod.snd r_1)) == Prod.fst (Prod.fst (Prod.snd r)) &&
                                            (Prod.snd (Prod.fst (Prod.snd r_1)) == Prod.snd (Prod.fst (Prod.snd r)) && true))
                                          (f10_wp () () fun (r : Bool) ↦ Q r) (Q false))
                                        (Q false))
                                      (Q false))))
theorem v4 (l : List ((Int × Int) × (Int × Int) × Int)) (Q : Bool → Prop) : V4 l Q = vcFunc (S1 [(10, f10_ct), (16, f16_ct), (17, f17_ct), (18, f18_ct), (19, f19_ct), (20, f20_ct)] [] [] []) f4_ct.own f4_ct.fresh f4_an Try.f4 (bodyOf Try.f4) f4_ct.A f4_ct.C f4_ct.R l () Q := by kernel_rfl

end Go.Proofs.Rv
set_option linter.unusedVariables false
set_option maxRecDepth 100000
namespace Go.Proofs.Rv
open Go Go.GX Go.Proofs

theorem w28 {K : Span × Int × Unit → Prop} (h : K ((16, 19), 0, ())) : f28_wp fan0 () K := by
  have e : (if checkF fan0 = 0 then (opensF fan0, 0, ()) else ((0, 0), checkF fan0, ()) : Span × Int × Unit) = ((16, 19), 0, ()) := by decide +kernel
  show K _
  rw [e]; exact h
theorem w12 {K : List Int × Int × Unit → Prop} (h : K ([1, 3], 0, ())) : f12_wp fan0 () K := by
  have e : (if checkF fan0 = 0 then (fan0.2.2.map (stopF fan0.1 fan0.2.1), 0, ()) else ([], checkF fan0, ()) : List Int × Int × Unit) = ([1, 3], 0, ()) := by decide +kernel
  show K _
  rw [e]; exact h
theorem w32 {K : Int × Int × Int × Unit → Prop} (h : K (0, 18, 0, ())) : f32_wp (fan0, 100, ()) () K := by
  have e : widenF fan0 100 = (0, 18, 0, ()) := by decide +kernel
  show K (widenF fan0 100)
  rw [e]; exact h
theorem w25 {K : List Int × Int × Unit → Prop} (h : K ([0], 0, ())) : f25_wp (fan0, (10, 14), ()) () K := by
  have e : wrongF fan0 (10, 14) = ([0], 0, ()) := by decide +kernel
  refine ⟨fun _ _ _ _ => by show 2 ≤ 12; omega, ?_⟩
  show K (wrongF fan0 (10, 14))
  rw [e]; exact h
theorem w30 {K : Int × Int × Unit → Prop} (h : K (5, 0, ())) : f30_wp (fan0, 45, ()) () K := by
  have e : sticksF fan0 45 = (5, 0, ()) := by decide +kernel
  show K (sticksF fan0 45)
  rw [e]; exact h
theorem w31 {K : Int × Int × Unit → Prop} (h : K (235, 0, ())) : f31_wp (fan0, 18, ()) () K := by
  have e : pleatF fan0 18 = (235, 0, ()) := by decide +kernel
  show K (pleatF fan0 18)
  rw [e]; exact h
theorem w17 {K : Ratio × Ratio × Int × Unit → Prop} (h : K ((80, 1), (650, 7), 0, ())) : f17_wp [((100, 120), (1, 1), 50), ((30, 40), (1, 1), 200)] () K := by
  have e : balanceF [((100, 120), (1, 1), 50), ((30, 40), (1, 1), 200)] = ((80, 1), (650, 7), 0, ()) := by decide +kernel
  show K (balanceF _)
  rw [e]; exact h
theorem p10 {Q : Bool → Prop} (h : f10_wp () () Q) : V10 Q := by
  unfold V10 f39_wp f27_wp
  refine w28 ?_
  refine w12 ?_
  refine w32 ?_
  refine w25 ?_
  refine w30 ?_
  refine w31 ?_
  refine w17 ?_
  refine cndF (cndF (cndF (cndF (cndF (cndF (cndF ⟨_, rfl, cndT ⟨_, rfl, cndT (cndT (cndT ⟨_, rfl, cndT (cndT (cndT (cndT h)))⟩))⟩⟩))))))
theorem cnd_of {c : Bool} {p q : Prop} (hc : c = true) (h : p) : cnd c p q := by rw [hc]; exact h
theorem cnd_not {c : Bool} {p q : Prop} (hc : c = false) (h : q) : cnd c p q := by rw [hc]; exact h
theorem p3 {f : Fan} {Q : Bool → Prop} (h : f3_wp f () Q) : V3 f Q := by
  have h : Q true := h
  intro hl
  refine cnd_iff.2 ⟨fun c => h, fun c => ?_⟩
  have c : ¬ (f.2.2.length : Int) > 50 := of_decide_eq_false c
  refine ⟨by show f.2.2.length ≤ 1000000; omega, ?_⟩
  show cnd (!decide (f = f)) (Q false) (cnd (checkF f != 0) _ _)
  refine cnd_not (by simp) ?_
  refine cnd_iff.2 ⟨fun d => ?_, fun d => ?_⟩
  · have d := bne0.1.1 d
    have e : (if checkF f = 0 then (f.2.2.map (stopF f.1 f.2.1), 0, ()) else ([], checkF f, ()) : List Int × Int × Unit) = ([], checkF f, ()) := if_neg d
    show cnd ((if checkF f = 0 then (f.2.2.map (stopF f.1 f.2.1), 0, ()) else ([], checkF f, ()) : List Int × Int × Unit).2.1 == checkF f) ((if checkF f = 0 then (f.2.2.map (stopF f.1 f.2.1), 0, ()) else ([], checkF f, ()) : List Int × Int × Unit).1.length ≤ _ → cnd (((if checkF f = 0 then (f.2.2.map (stopF f.1 f.2.1), 0, ()) else ([], checkF f, ()) : List Int × Int × Unit).1.length : Int) == 0) _ _) _
    rw [e]
    exact cnd_of (by simp) fun _ => cnd_of rfl h
  · have d := bne0.2.1 d
    have ho := checkF_ok.1 d
    have e : (if checkF f = 0 then (f.2.2.map (stopF f.1 f.2.1), 0, ()) else ([], checkF f, ()) : List Int × Int × Unit) = (f.2.2.map (stopF f.1 f.2.1), 0, ()) := if_pos d
    have key : ∀ z : List Int × Int × Unit, z = (f.2.2.map (stopF f.1 f.2.1), 0, ()) → cnd (z.2.1 != 0) (Q false) (z.1.length ≤ 9223372036854775807 → f.2.2.length ≤ 9223372036854775807 → cnd ((z.1.length : Int) != (f.2.2.length : Int)) (Q false) (∃ (I : Int → Prop) (μ : Int → Nat), I 0 ∧ ∀ x, I x → z.1.length ≤ 9223372036854775807 → cnd (decide (x < (z.1.length : Int))) (0 ≤ x ∧ x < (z.1.length : Int) ∧ 0 ≤ x ∧ x < (f.2.2.length : Int) ∧ ∃ r : Int, (f15_wp (f, f.2.2.getD x.toNat g0, ()) () fun r' => r' = r) ∧ cnd (z.1.getD x.toNat 0 != r) (Q false) (I (IntKind.wrap .i64 (x + 1)) ∧ μ (IntKind.wrap .i64 (x + 1)) < μ x)) (f10_wp () () fun r => Q r))) := by
      rintro z rfl
      refine cndF fun _ _ => ?_
      have hlen : (f.2.2.map (stopF f.1 f.2.1)).length = f.2.2.length := by simp
      refine cnd_not (by simp) ?_
      refine forUpGL (n := (f.2.2.map (stopF f.1 f.2.1)).length) (fun _ => True) trivial (body := fun I μ x => 0 ≤ x ∧ x < ((f.2.2.map (stopF f.1 f.2.1)).length : Int) ∧ 0 ≤ x ∧ x < (f.2.2.length : Int) ∧ ∃ r : Int, (f15_wp (f, f.2.2.getD x.toNat g0, ()) () fun r' => r' = r) ∧ cnd ((f.2.2.map (stopF f.1 f.2.1)).getD x.toNat 0 != r) (Q false) (I (IntKind.wrap .i64 (x + 1)) ∧ μ (IntKind.wrap .i64 (x + 1)) < μ x)) (e := fun _ => f10_wp () () fun r => Q r) (fun k hk _ _ I μ hI hw => ?_) (fun _ => h)
      have hk' : k < f.2.2.length := by omega
      have hg : gapOK (f.2.2.getD k g0) = true := by
        have := ho.g _ (getD_mem (d := g0) hk')
        unfold gapOK
        rw [Bool.and_eq_true, isSpan_iff, isSpan_iff]; omega
      refine ⟨by omega, by omega, by omega, by omega, _, ⟨⟨ho, hg⟩, rfl⟩, ?_⟩
      rw [hw]
      refine cnd_not ?_ (hI trivial)
      show ((f.2.2.map (stopF f.1 f.2.1)).getD k 0 != stopF f.1 f.2.1 (f.2.2.getD k g0)) = false
      rw [getD_lt hk, getD_lt hk']
      simp
    exact key _ e
end Go.Proofs.Rv
set_option maxRecDepth 100000
namespace Go.Proofs.Rv
open Go Go.GX Go.Proofs
variable [Inhabited BaseD]
theorem ok27 : CallsOK Try.prog (assoc glT) 27 f27_ct :=
  callsOK_E (env (ct := []) (ios := []) (hos := []) (lits := []) AllOK.nil AllW.nil AllH.nil) no_an Try.func27 (by kernel_rfl) (by kernel_rfl) f27_ct fun ⟨a, b, _⟩ _ Q h => (v27 a b Q).mp (p27 h)
theorem ok16 : CallsOK Try.prog (assoc glT) 16 f16_ct :=
  callsOK_E (env (ct := []) (ios := []) (hos := []) (lits := []) AllOK.nil AllW.nil AllH.nil) no_an Try.func16 (by kernel_rfl) (by kernel_rfl) f16_ct fun l _ Q h => (v16 l Q).mp (p16 h)
theorem ok39 : CallsOK Try.prog (assoc glT) 39 f39_ct :=
  callsOK_E (env (ct := [(27, f27_ct)]) (ios := []) (hos := []) (lits := [108]) (AllOK.cons ok27 AllOK.nil) AllW.nil AllH.nil) no_an Try.func39 (by kernel_rfl) (by kernel_rfl) f39_ct fun () _ Q h => (v39  Q).mp (p39 h)
set_option maxHeartbeats 2000000 in
theorem ok10 : CallsOK Try.prog (assoc glT) 10 f10_ct :=
  callsOK_E (env (ct := [(39, f39_ct), (28, f28_ct), (12, f12_ct), (32, f32_ct), (27, f27_ct), (25, f25_ct), (30, f30_ct), (31, f31_ct), (17, f17_ct), (40, f40_ct), (41, f41_ct)]) (ios := []) (hos := []) (lits := []) (AllOK.cons ok39 (AllOK.cons ok28 (AllOK.cons ok12 (AllOK.cons ok32 (AllOK.cons ok27 (AllOK.cons ok25 (AllOK.cons ok30 (AllOK.cons ok31 (AllOK.cons ok17 (AllOK.cons ok40 (AllOK.cons ok41 AllOK.nil))))))))))) AllW.nil AllH.nil) no_an Try.func10 (by kernel_rfl) (by kernel_rfl) f10_ct fun () () Q h => (v10 Q).mp (p10 (Q := Q) h)
end Go.Proofs.Rv
set_option linter.unusedVariables false
set_option maxRecDepth 100000
namespace Go.Proofs.Rv
open Go Go.GX Go.Proofs

def leR (a b : Ratio) : Prop := a.1 * b.2 ≤ b.1 * a.2
theorem leR_refl (a : Ratio) : leR a a := Int.le_refl _
theorem leR_trans {a b c : Ratio} (ha : 1 ≤ a.2) (hb : 1 ≤ b.2) (hc : 1 ≤ c.2) (h1 : leR a b) (h2 : leR b c) : leR a c := by
  unfold leR at *
  have e1 := Int.mul_le_mul_of_nonneg_right h1 (show 0 ≤ c.2 by omega)
  have e2 := Int.mul_le_mul_of_nonneg_right h2 (show 0 ≤ a.2 by omega)
  have a1 : a.1 * b.2 * c.2 = a.1 * c.2 * b.2 := by rw [Int.mul_assoc, Int.mul_comm b.2 c.2, ← Int.mul_assoc]
  have a2 : b.1 * a.2 * c.2 = b.1 * c.2 * a.2 := by rw [Int.mul_assoc, Int.mul_comm a.2 c.2, ← Int.mul_assoc]
  have a3 : c.1 * b.2 * a.2 = c.1 * a.2 * b.2 := by rw [Int.mul_assoc, Int.mul_comm b.2 a.2, ← Int.mul_assoc]
  exact Int.le_of_mul_le_mul_right (show a.1 * c.2 * b.2 ≤ c.1 * a.2 * b.2 by omega) (by omega)
theorem low_eq {a b : Ratio} (ha : 1 ≤ a.2) (hb : 1 ≤ b.2) (h : a.1 * b.2 = b.1 * a.2) : lowF a = lowF b := by
  have g1 : Int.gcd (a.1 * b.2) (a.2 * b.2) = Int.gcd a.1 a.2 * b.2.natAbs := Int.gcd_mul_right _ _ _
  have g2 : Int.gcd (b.1 * a.2) (b.2 * a.2) = Int.gcd b.1 b.2 * a.2.natAbs := Int.gcd_mul_right _ _ _
  rw [h, Int.mul_comm a.2 b.2, g2] at g1
  have e : (Int.gcd a.1 a.2 : Int) * b.2 = (Int.gcd b.1 b.2 : Int) * a.2 := by
    have := congrArg (fun n : Nat => (n : Int)) g1
    simp only [Int.natCast_mul] at this
    rw [Int.natAbs_of_nonneg (by omega), Int.natAbs_of_nonneg (by omega)] at this
    exact this.symm
  unfold lowF
  refine Prod.ext ?_ ?_
  · show a.1 / (Int.gcd a.1 a.2 : Int) = b.1 / (Int.gcd b.1 b.2 : Int)
    rw [← Int.mul_ediv_mul_of_pos_left a.1 (Int.gcd a.1 a.2 : Int) (show 0 < b.2 by omega), ← Int.mul_ediv_mul_of_pos_left b.1 (Int.gcd b.1 b.2 : Int) (show 0 < a.2 by omega), h, e]
  · show a.2 / (Int.gcd a.1 a.2 : Int) = b.2 / (Int.gcd b.1 b.2 : Int)
    rw [← Int.mul_ediv_mul_of_pos_left a.2 (Int.gcd a.1 a.2 : Int) (show 0 < b.2 by omega), ← Int.mul_ediv_mul_of_pos_left b.2 (Int.gcd b.1 b.2 : Int) (show 0 < a.2 by omega), e, Int.mul_comm a.2 b.2]

inductive Att : List Stick → Ratio → Prop
  | nil : Att [] (0, 0)
  | cons {s : Stick} {t : List Stick} {r : Ratio} {w : Int} : w = s.1.1 ∨ w = s.1.2 → Att t r → Att (s :: t) (r.1 + w * s.2.2, r.2 + w)
theorem Att.perm {l l' : List Stick} (hp : l.Perm l') : ∀ {r : Ratio}, Att l r → Att l' r := by
  induction hp with
  | nil => intro r h; exact h
  | cons x _ ih =>
    intro r h
    cases h with
    | cons hw ht => exact .cons hw (ih ht)
  | swap x y l =>
    intro r h
    cases h with
    | @cons _ _ r1 w hw ht =>
      cases ht with
      | @cons _ _ r2 w2 hw2 ht =>
        have := Att.cons hw2 (Att.cons hw ht)
        have e : ((r2.1 + w * y.2.2 + w2 * x.2.2, r2.2 + w + w2) : Ratio) = (r2.1 + w2 * x.2.2 + w * y.2.2, r2.2 + w2 + w) := by
          refine Prod.ext ?_ ?_ <;> dsimp only <;> omega
        exact e ▸ this
  | trans _ _ ih1 ih2 => intro r h; exact ih2 (ih1 h)
theorem Att.snoc {A : List Stick} {s : Stick} {r : Ratio} {w : Int} (hw : w = s.1.1 ∨ w = s.1.2) (h : Att A r) : Att (A ++ [s]) (r.1 + w * s.2.2, r.2 + w) :=
  (Att.cons hw h).perm (List.perm_append_comm (l₁ := [s]) (l₂ := A))
theorem Att.unsnoc {A : List Stick} {s : Stick} {r : Ratio} (h : Att (A ++ [s]) r) : ∃ r' w, (w = s.1.1 ∨ w = s.1.2) ∧ Att A r' ∧ r = (r'.1 + w * s.2.2, r'.2 + w) := by
  have h := h.perm (List.perm_append_comm (l₁ := A) (l₂ := [s]))
  cases h with
  | cons hw ht => exact ⟨_, _, hw, ht, rfl⟩
theorem cen_att {l : List Stick} {e : Nat → Span → Int} (he : ∀ i s, e i s = s.1 ∨ e i s = s.2) : ∀ k, k ≤ l.length → Att (l.take k) (cenK l e k)
  | 0, _ => .nil
  | k + 1, hk => by
    rw [take_succ_getD (d := s0) (show k < l.length from hk), cenK_succ]
    exact (cen_att he k (by omega)).snoc (he k _)
theorem cen_congr {l : List Stick} {e e' : Nat → Span → Int} : ∀ k, (∀ i, i < k → e i (l.getD i s0).1 = e' i (l.getD i s0).1) → cenK l e k = cenK l e' k
  | 0, _ => rfl
  | k + 1, h => by rw [cenK_succ, cenK_succ, cen_congr k (fun i hi => h i (by omega)), h k (by omega)]
theorem att_set {l : List Stick} : ∀ k, k ≤ l.length → ∀ {r : Ratio}, Att (l.take k) r → ∃ set, set < 2 ^ k ∧ cenK l (bitE set) k = r
  | 0, _, r, h => by
    cases h
    exact ⟨0, by decide, rfl⟩
  | k + 1, hk, r, h => by
    rw [take_succ_getD (d := s0) (show k < l.length from hk)] at h
    obtain ⟨r', w, hw, hr, rfl⟩ := h.unsnoc
    obtain ⟨set, hs, hc⟩ := att_set k (by omega) hr
    have hp : 2 ^ (k + 1) = 2 ^ k + 2 ^ k := by rw [Nat.pow_succ]; omega
    have hb : set.testBit k = false := Nat.testBit_lt_two_pow hs
    rcases hw with rfl | rfl
    · refine ⟨set, by omega, ?_⟩
      rw [cenK_succ, hc]
      have : bitE set k (l.getD k s0).1 = (l.getD k s0).1.1 := by unfold bitE; rw [if_neg (by rw [hb]; simp)]
      rw [this]
    · refine ⟨2 ^ k + set, by omega, ?_⟩
      have hb2 : (2 ^ k + set).testBit k = true := by rw [Nat.testBit_two_pow_add_eq, hb]; rfl
      have hc2 : cenK l (bitE (2 ^ k + set)) k = cenK l (bitE set) k := cen_congr k fun i hi => by
        unfold bitE
        rw [Nat.testBit_two_pow_add_gt hi]
      rw [cenK_succ, hc2, hc]
      have : bitE (2 ^ k + set) k (l.getD k s0).1 = (l.getD k s0).1.2 := by unfold bitE; rw [if_pos hb2]
      rw [this]
theorem set_att (l : List Stick) (set : Nat) : Att l (setC l set) := by
  have := cen_att (l := l) (bit_two set) l.length (Nat.le_refl _)
  rwa [List.take_length] at this
theorem att_all {l : List Stick} {r : Ratio} (h : Att l r) : ∃ set, set < 2 ^ l.length ∧ setC l set = r :=
  att_set l.length (Nat.le_refl _) (by rwa [List.take_length])
theorem end_att {s : List Stick} {p q : Span → Int} (hp : IsEnd p) (hq : IsEnd q) (i : Nat) : Att s (cenK s (endF i p q) s.length) := by
  have := cen_att (l := s) (e := endF i p q) (end_two hp hq) s.length (Nat.le_refl _)
  rwa [List.take_length] at this
theorem att_good {l : List Stick} (h : SticksOK l) (h0 : l.length ≠ 0) {r : Ratio} (hr : Att l r) : goodR r := by
  obtain ⟨set, _, rfl⟩ := att_all hr
  exact set_good h h0 set

theorem phi_le {l : List Stick} {e e' : Nat → Span → Int} {N D : Int} : ∀ k, (∀ i, i < k → e i (l.getD i s0).1 * ((l.getD i s0).2.2 * D - N) ≤ e' i (l.getD i s0).1 * ((l.getD i s0).2.2 * D - N)) → (cenK l e k).1 * D - N * (cenK l e k).2 ≤ (cenK l e' k).1 * D - N * (cenK l e' k).2
  | 0, _ => Int.le_refl _
  | k + 1, h => by
    have h1 := phi_le k (fun i hi => h i (by omega))
    have h2 := h k (by omega)
    rw [cenK_succ, cenK_succ]
    dsimp only
    have ex : ∀ a b w p : Int, (a + w * p) * D - N * (b + w) = (a * D - N * b) + w * (p * D - N) := fun a b w p => by
      rw [Int.add_mul, Int.mul_add, Int.mul_sub, Int.mul_assoc w p D, Int.mul_comm w N]; omega
    rw [ex, ex]
    omega
theorem sort_asc (l : List Stick) : (sortP l).Pairwise fun a b => a.2.2 ≤ b.2.2 := by
  have := insSort_sorted (c := fun a b : Stick => a.2.2 - b.2.2) (key := fun a => -a.2.2) (xs := l) (fun x _ y _ => by omega)
  exact this.imp (fun h => by omega)
theorem asc_getD {s : List Stick} (h : s.Pairwise fun a b => a.2.2 ≤ b.2.2) {i j : Nat} (hij : i ≤ j) (hj : j < s.length) : (s.getD i s0).2.2 ≤ (s.getD j s0).2.2 := by
  rcases Nat.lt_or_eq_of_le hij with h1 | rfl
  · rw [getD_lt (by omega), getD_lt hj]
    exact List.pairwise_iff_getElem.1 h i j (by omega) hj h1
  · exact Int.le_refl _
theorem stick_at {s : List Stick} (h : SticksOK s) {i : Nat} (hi : i < s.length) : (s.getD i s0).1.1 ≤ (s.getD i s0).1.2 := (h.s _ (getD_mem hi)).1.2.1
theorem near_le {s : List Stick} (h : SticksOK s) (hs : s.Pairwise fun a b => a.2.2 ≤ b.2.2) (set : Nat) : ∃ i, i ≤ s.length ∧ leR (nearC s i) (setC s set) := by
  obtain ⟨N, hN⟩ : ∃ N, N = (setC s set).1 := ⟨_, rfl⟩
  obtain ⟨D, hD⟩ : ∃ D, D = (setC s set).2 := ⟨_, rfl⟩
  obtain ⟨i, hi⟩ : ∃ i, i = s.findIdx fun x => !decide (x.2.2 * D ≤ N) := ⟨_, rfl⟩
  have hil : i ≤ s.length := by rw [hi]; exact List.findIdx_le_length
  by_cases hD0 : 0 ≤ D
  rotate_left
  · exfalso
    have := (cen_le (l := s) (e := bitE set) (fun i x hx => by have := h.s x hx; rcases bit_two set i x.1 with hb | hb <;> rw [hb] <;> omega) s.length (Nat.le_refl _)).2.1
    rw [hD] at hD0
    exact hD0 this
  refine ⟨i, hil, ?_⟩
  have lt : ∀ k, k < i → (s.getD k s0).2.2 * D ≤ N := fun k hk => by
    have := List.not_of_lt_findIdx (p := fun x : Stick => !decide (x.2.2 * D ≤ N)) (xs := s) (i := k) (by omega)
    rw [getD_lt (by omega)]
    simpa using this
  have ge : ∀ k, i ≤ k → k < s.length → N < (s.getD k s0).2.2 * D := fun k hk hks => by
    have hw : s.findIdx (fun x => !decide (x.2.2 * D ≤ N)) < s.length := by omega
    have := List.findIdx_getElem (w := hw)
    have h1 := asc_getD hs hk hks
    have h2 : N < (s.getD i s0).2.2 * D := by
      rw [hi, getD_lt hw]
      simpa using this
    have h3 := Int.mul_le_mul_of_nonneg_right h1 hD0
    omega
  have := phi_le (l := s) (e := endF i hiE loE) (e' := bitE set) (N := N) (D := D) s.length fun k hk => by
    have hst := stick_at h hk
    by_cases hki : k < i
    · have e1 : endF i hiE loE k (s.getD k s0).1 = (s.getD k s0).1.2 := by unfold endF; rw [if_pos (by omega)]; rfl
      have := lt k hki
      rw [e1]
      refine Int.mul_le_mul_of_nonpos_right ?_ (by omega)
      rcases bit_two set k (s.getD k s0).1 with hb | hb <;> rw [hb] <;> omega
    · have e1 : endF i hiE loE k (s.getD k s0).1 = (s.getD k s0).1.1 := by unfold endF; rw [if_neg (by omega)]; rfl
      have := ge k (by omega) hk
      rw [e1]
      refine Int.mul_le_mul_of_nonneg_right ?_ (by omega)
      rcases bit_two set k (s.getD k s0).1 with hb | hb <;> rw [hb] <;> omega
  change (nearC s i).1 * D - N * (nearC s i).2 ≤ (setC s set).1 * D - N * (setC s set).2 at this
  unfold leR
  rw [← hN, ← hD] at *
  omega
theorem far_ge {s : List Stick} (h : SticksOK s) (hs : s.Pairwise fun a b => a.2.2 ≤ b.2.2) (set : Nat) : ∃ i, i ≤ s.length ∧ leR (setC s set) (farC s i) := by
  obtain ⟨N, hN⟩ : ∃ N, N = (setC s set).1 := ⟨_, rfl⟩
  obtain ⟨D, hD⟩ : ∃ D, D = (setC s set).2 := ⟨_, rfl⟩
  obtain ⟨i, hi⟩ : ∃ i, i = s.findIdx fun x => !decide (x.2.2 * D ≤ N) := ⟨_, rfl⟩
  have hil : i ≤ s.length := by rw [hi]; exact List.findIdx_le_length
  by_cases hD0 : 0 ≤ D
  rotate_left
  · exfalso
    have := (cen_le (l := s) (e := bitE set) (fun i x hx => by have := h.s x hx; rcases bit_two set i x.1 with hb | hb <;> rw [hb] <;> omega) s.length (Nat.le_refl _)).2.1
    rw [hD] at hD0
    exact hD0 this
  refine ⟨i, hil, ?_⟩
  have lt : ∀ k, k < i → (s.getD k s0).2.2 * D ≤ N := fun k hk => by
    have := List.not_of_lt_findIdx (p := fun x : Stick => !decide (x.2.2 * D ≤ N)) (xs := s) (i := k) (by omega)
    rw [getD_lt (by omega)]
    simpa using this
  have ge : ∀ k, i ≤ k → k < s.length → N < (s.getD k s0).2.2 * D := fun k hk hks => by
    have hw : s.findIdx (fun x => !decide (x.2.2 * D ≤ N)) < s.length := by omega
    have := List.findIdx_getElem (w := hw)
    have h1 := asc_getD hs hk hks
    have h2 : N < (s.getD i s0).2.2 * D := by
      rw [hi, getD_lt hw]
      simpa using this
    have h3 := Int.mul_le_mul_of_nonneg_right h1 hD0
    omega
  have := phi_le (l := s) (e := bitE set) (e' := endF i loE hiE) (N := N) (D := D) s.length fun k hk => by
    have hst := stick_at h hk
    by_cases hki : k < i
    · have e1 : endF i loE hiE k (s.getD k s0).1 = (s.getD k s0).1.1 := by unfold endF; rw [if_pos (by omega)]; rfl
      have := lt k hki
      rw [e1]
      refine Int.mul_le_mul_of_nonpos_right ?_ (by omega)
      rcases bit_two set k (s.getD k s0).1 with hb | hb <;> rw [hb] <;> omega
    · have e1 : endF i loE hiE k (s.getD k s0).1 = (s.getD k s0).1.2 := by unfold endF; rw [if_neg (by omega)]; rfl
      have := ge k (by omega) hk
      rw [e1]
      refine Int.mul_le_mul_of_nonneg_right ?_ (by omega)
      rcases bit_two set k (s.getD k s0).1 with hb | hb <;> rw [hb] <;> omega
  change (setC s set).1 * D - N * (setC s set).2 ≤ (farC s i).1 * D - N * (farC s i).2 at this
  unfold leR
  rw [← hN, ← hD] at *
  omega

theorem balK_near {s : List Stick} (h : SticksOK s) (h0 : s.length ≠ 0) : ∀ k, (∀ i, i < k → leR (balK s k).1 (nearC s i)) ∧ ∃ j, (balK s k).1 = nearC s j
  | 0 => ⟨fun i hi => absurd hi (Nat.not_lt_zero _), 0, rfl⟩
  | k + 1 => by
    obtain ⟨h1, j, h2⟩ := balK_near h h0 k
    have g := (balK_good h h0 k).1
    have gk := near_good h h0 k
    rw [balK_succ]
    dsimp only
    split
    · rename_i hc
      refine ⟨fun i hi => ?_, k, rfl⟩
      rcases Nat.lt_succ_iff_lt_or_eq.1 hi with hi | rfl
      · exact leR_trans gk.2.1 g.2.1 (near_good h h0 i).2.1 (by unfold leR; omega) (h1 i hi)
      · exact leR_refl _
    · rename_i hc
      refine ⟨fun i hi => ?_, j, h2⟩
      rcases Nat.lt_succ_iff_lt_or_eq.1 hi with hi | rfl
      · exact h1 i hi
      · unfold leR; omega
theorem balK_far {s : List Stick} (h : SticksOK s) (h0 : s.length ≠ 0) : ∀ k, (∀ i, i < k → leR (farC s i) (balK s k).2) ∧ Att s (balK s k).2
  | 0 => ⟨fun i hi => absurd hi (Nat.not_lt_zero _), end_att hi_end lo_end 0⟩
  | k + 1 => by
    obtain ⟨h1, h2⟩ := balK_far h h0 k
    have g := (balK_good h h0 k).2
    have gk := far_good h h0 k
    rw [balK_succ]
    dsimp only
    split
    · rename_i hc
      refine ⟨fun i hi => ?_, end_att lo_end hi_end k⟩
      rcases Nat.lt_succ_iff_lt_or_eq.1 hi with hi | rfl
      · exact leR_trans (far_good h h0 i).2.1 g.2.1 gk.2.1 (h1 i hi) (by unfold leR; omega)
      · exact leR_refl _
    · rename_i hc
      refine ⟨fun i hi => ?_, h2⟩
      rcases Nat.lt_succ_iff_lt_or_eq.1 hi with hi | rfl
      · exact h1 i hi
      · unfold leR; omega
theorem refBal_spec {l : List Stick} (h : SticksOK l) (h0 : l.length ≠ 0) : ∀ k, ((∀ i, i < k + 1 → leR (refBalK l (k + 1)).1 (setC l i)) ∧ Att l (refBalK l (k + 1)).1) ∧ (∀ i, i < k + 1 → leR (setC l i) (refBalK l (k + 1)).2) ∧ Att l (refBalK l (k + 1)).2
  | 0 => by
    rw [refBalK_succ, if_pos (.inl rfl), if_pos (.inl rfl)]
    refine ⟨⟨fun i hi => ?_, set_att l 0⟩, fun i hi => ?_, set_att l 0⟩
    · have : i = 0 := by omega
      subst this; exact leR_refl _
    · have : i = 0 := by omega
      subst this; exact leR_refl _
  | k + 1 => by
    obtain ⟨⟨h1, h2⟩, h3, h4⟩ := refBal_spec h h0 k
    obtain ⟨g1, g2⟩ := refBalK_good h h0 k
    have gk := set_good h h0 (k + 1)
    rw [refBalK_succ]
    dsimp only
    constructor
    · split
      · rename_i hc
        have hc := hc.resolve_left (by omega)
        refine ⟨fun i hi => ?_, set_att l _⟩
        rcases Nat.lt_succ_iff_lt_or_eq.1 hi with hi | rfl
        · exact leR_trans gk.2.1 g1.2.1 (set_good h h0 i).2.1 (by unfold leR; omega) (h1 i hi)
        · exact leR_refl _
      · rename_i hc
        have hc : ¬ _ := fun hh => hc (.inr hh)
        refine ⟨fun i hi => ?_, h2⟩
        rcases Nat.lt_succ_iff_lt_or_eq.1 hi with hi | rfl
        · exact h1 i hi
        · unfold leR; omega
    · split
      · rename_i hc
        have hc := hc.resolve_left (by omega)
        refine ⟨fun i hi => ?_, set_att l _⟩
        rcases Nat.lt_succ_iff_lt_or_eq.1 hi with hi | rfl
        · exact leR_trans (set_good h h0 i).2.1 g2.2.1 gk.2.1 (h3 i hi) (by unfold leR; omega)
        · exact leR_refl _
      · rename_i hc
        have hc : ¬ _ := fun hh => hc (.inr hh)
        refine ⟨fun i hi => ?_, h4⟩
        rcases Nat.lt_succ_iff_lt_or_eq.1 hi with hi | rfl
        · exact h3 i hi
        · unfold leR; omega

theorem bal_low {l : List Stick} (h : SticksOK l) (h0 : l.length ≠ 0) {r : Ratio} (hr : Att l r) : leR (balK (sortP l) (l.length + 1)).1 r := by
  have so := sort_ok h
  have hl : (sortP l).length = l.length := (sort_perm l).length_eq
  obtain ⟨set, _, rfl⟩ := att_all (hr.perm (sort_perm l).symm)
  obtain ⟨i, hi, hle⟩ := near_le so (sort_asc l) set
  have hb := balK_near so (by omega) (l.length + 1)
  exact leR_trans (balK_good so (by omega) _).1.2.1 (near_good so (by omega) i).2.1 (set_good so (by omega) set).2.1 (hb.1 i (by omega)) hle
theorem bal_high {l : List Stick} (h : SticksOK l) (h0 : l.length ≠ 0) {r : Ratio} (hr : Att l r) : leR r (balK (sortP l) (l.length + 1)).2 := by
  have so := sort_ok h
  have hl : (sortP l).length = l.length := (sort_perm l).length_eq
  obtain ⟨set, _, rfl⟩ := att_all (hr.perm (sort_perm l).symm)
  obtain ⟨i, hi, hle⟩ := far_ge so (sort_asc l) set
  have hb := balK_far so (by omega) (l.length + 1)
  exact leR_trans (set_good so (by omega) set).2.1 (far_good so (by omega) i).2.1 (balK_good so (by omega) _).2.2.1 hle (hb.1 i (by omega))
theorem bal_att {l : List Stick} (h : SticksOK l) (h0 : l.length ≠ 0) : Att l (balK (sortP l) (l.length + 1)).1 ∧ Att l (balK (sortP l) (l.length + 1)).2 := by
  have so := sort_ok h
  have hl : (sortP l).length = l.length := (sort_perm l).length_eq
  obtain ⟨j, hj⟩ := (balK_near so (by omega) (l.length + 1)).2
  refine ⟨?_, (balK_far so (by omega) (l.length + 1)).2.perm (sort_perm l)⟩
  rw [hj]
  exact (end_att hi_end lo_end j).perm (sort_perm l)
theorem bal_ref {l : List Stick} (h : SticksOK l) (h0 : l.length ≠ 0) : lowF (balK (sortP l) (l.length + 1)).1 = lowF (refBalK l (2 ^ l.length)).1 ∧ lowF (balK (sortP l) (l.length + 1)).2 = lowF (refBalK l (2 ^ l.length)).2 := by
  obtain ⟨k, hk⟩ : ∃ k, 2 ^ l.length = k + 1 := ⟨2 ^ l.length - 1, by have := Nat.one_le_two_pow (n := l.length); omega⟩
  obtain ⟨⟨r1, r2⟩, r3, r4⟩ := refBal_spec h h0 k
  rw [← hk] at r1 r2 r3 r4
  obtain ⟨a1, a2⟩ := bal_att h h0
  have g1 := att_good h h0 a1
  have g2 := att_good h h0 a2
  have g3 := att_good h h0 r2
  have g4 := att_good h h0 r4
  constructor
  · have e1 := bal_low h h0 r2
    obtain ⟨set, hs, he⟩ := att_all a1
    have e2 := r1 set hs
    rw [he] at e2
    exact low_eq g1.2.1 g3.2.1 (by unfold leR at e1 e2; omega)
  · have e1 := bal_high h h0 r4
    obtain ⟨set, hs, he⟩ := att_all a2
    have e2 := r3 set hs
    rw [he] at e2
    exact low_eq g2.2.1 g4.2.1 (by unfold leR at e1 e2; omega)
end Go.Proofs.Rv
set_option linter.unusedVariables false
set_option maxRecDepth 100000
namespace Go.Proofs.Rv
open Go Go.GX Go.Proofs

theorem p4 {l : List Stick} {Q : Bool → Prop} (h : f4_wp l () Q) : V4 l Q := by
  have h : Q true := h
  intro hl
  refine cnd_iff.2 ⟨fun c => h, fun c => ?_⟩
  have c : ¬ (l.length : Int) > 20 := of_decide_eq_false c
  refine ⟨by omega, ?_⟩
  show cnd (!decide (l = l)) (Q false) _
  refine cnd_not (by simp) ?_
  refine ⟨fun b => b = true ↔ closedE l = 0 ∧ l.length = 0, ?_, fun b hb => ?_⟩
  · refine cnd_iff.2 ⟨fun d _ => ?_, fun d => ?_⟩
    · have d : closedE l = 0 := by simpa using d
      show ((l.length : Int) == 0) = true ↔ _
      rw [beq_iff_eq]
      exact ⟨fun h => ⟨d, by omega⟩, fun h => by omega⟩
    · have d : ¬ closedE l = 0 := by simpa using d
      exact ⟨fun h => (by cases h), fun h => absurd h.1 d⟩
  refine ⟨fun x => x = if closedE l = 0 ∧ l.length = 0 then 7 else closedE l, ?_, ?_⟩
  · refine cnd_iff.2 ⟨fun d => ?_, fun d => ?_⟩
    · rw [if_pos (hb.1 d)]
    · rw [if_neg (fun hh => by rw [hb.2 hh] at d; cases d)]
  rintro _ rfl
  show cnd ((if closedE l = 0 ∧ l.length = 0 then 7 else closedE l) != 0) (cnd ((balanceF l).2.2.1 == (if closedE l = 0 ∧ l.length = 0 then 7 else closedE l)) (cnd ((balanceF l).1.1 == 0 && ((balanceF l).1.2 == 0 && true)) (cnd ((balanceF l).2.1.1 == 0 && ((balanceF l).2.1.2 == 0 && true)) (Q true) _) _) _)
    ((SticksOK l ∧ l.length ≠ 0) ∧ cnd ((balanceF l).2.2.1 == 0) (cnd ((balanceF l).1.1 == (lowF (refBalK l (2 ^ l.length)).1).1 && ((balanceF l).1.2 == (lowF (refBalK l (2 ^ l.length)).1).2 && true)) (cnd ((balanceF l).2.1.1 == (lowF (refBalK l (2 ^ l.length)).2).1 && ((balanceF l).2.1.2 == (lowF (refBalK l (2 ^ l.length)).2).2 && true)) (Q true) _) _) _)
  by_cases e : closedE l = 0
  · by_cases e0 : l.length = 0
    · have eb : balanceF l = ((0, 0), (0, 0), 7, ()) := by unfold balanceF; rw [if_neg (by omega), if_pos e0]
      rw [if_pos ⟨e, e0⟩, eb]
      exact cndT (cndT (cndT (cndT h)))
    · have ho := closedE_ok.1 e
      obtain ⟨m1, m2⟩ := bal_ref ho e0
      have eb : balanceF l = (lowF (refBalK l (2 ^ l.length)).1, lowF (refBalK l (2 ^ l.length)).2, 0, ()) := by
        unfold balanceF; rw [if_neg (by omega), if_neg e0, m1, m2]
      rw [if_neg (fun hh => e0 hh.2), eb]
      exact cnd_not (by rw [e]; rfl) ⟨⟨ho, e0⟩, cndT (cnd_of (by simp) (cnd_of (by simp) h))⟩
  · have eb : balanceF l = ((0, 0), (0, 0), closedE l, ()) := by unfold balanceF; rw [if_pos e]
    rw [if_neg (fun hh => e hh.1), eb]
    exact cnd_of (bne0.1.2 e) (cnd_of (by simp) (cndT (cndT h)))
end Go.Proofs.Rv
set_option maxRecDepth 100000
set_option maxHeartbeats 2000000
namespace Go.Proofs.Rv
open Go Go.GX Go.Proofs
variable [Inhabited BaseD]
theorem ok4 : CallsOK Try.prog (assoc glT) 4 f4_ct :=
  callsOK_E (env (ct := [(10, f10_ct), (16, f16_ct), (17, f17_ct), (18, f18_ct), (19, f19_ct), (20, f20_ct)]) (ios := []) (hos := []) (lits := []) (AllOK.cons ok10 (AllOK.cons ok16 (AllOK.cons ok17 (AllOK.cons ok18 (AllOK.cons ok19 (AllOK.cons ok20 AllOK.nil)))))) AllW.nil AllH.nil) f4_an Try.func4 (by kernel_rfl) (by kernel_rfl) f4_ct fun l _ Q h => (v4 l Q).mp (p4 h)
end Go.Proofs.Rv
