/- Part 8 of the texts behind the proof: FaP7, FaP8, FaM2, FaP9, FaV6, FaPa, FaPb, FaO3, FaC6, FaV7, FaPc, FaO4, FaM3, FaM4, FaPd, FaO5, Gx25, FaBr, FaAll2. -/
import Derived.Test.YtacedikpdmdodaaG07
import Derived.Test.YtacedikpdmdodaaProg
import Derived.ProofKit
import Derived.OpenShut
import Derived.Test.YtacedikpdmdodaaRows
import Derived.LaidMore
import Derived.Lay
import Derived.SevenTiedAt
set_option linter.unusedSimpArgs false
set_option linter.unusedVariables false
set_option linter.unusedSectionVars false
set_option linter.unusedVariables false
namespace Go.Proofs.Fa
open Go Go.GX Go.Proofs

theorem p32 {n a b : Int} {Q : Bool → Prop} (h : f32_wp (n, a, b, ()) () Q) : V32 n a b Q := by
  have h : Q (inB a b n) := h
  unfold inB at h
  refine cnd_iff.2 ⟨fun h1 => ?_, fun h1 => ?_⟩
  · have h1 : decide (n ≥ a) = true := h1
    have e : decide (a ≤ n) = true := h1
    rw [e] at h; exact h
  · have h1 : decide (n ≥ a) = false := h1
    have e : decide (a ≤ n) = false := h1
    rw [e] at h; exact h
theorem p90 {n : Int} {Q : FansT → Prop} (h : f90_wp n () Q) : V90 n Q := by
  obtain ⟨⟨h0, h1⟩, h⟩ := h
  have h : Q (n / 125, n / 25 % 5, n / 5 % 5, n % 5) := h
  have d : ∀ m : Int, 0 < m → Int.tdiv n m = n / m ∧ 0 ≤ n / m ∧ n / m ≤ 625 := fun m hm => by
    refine ⟨Int.tdiv_eq_ediv_of_nonneg h0, Int.ediv_nonneg h0 (by omega), ?_⟩
    have := Int.ediv_le_self m h0; omega
  obtain ⟨a1, a2, a3⟩ := d 125 (by omega)
  obtain ⟨b1, b2, b3⟩ := d 25 (by omega)
  obtain ⟨c1, c2, c3⟩ := d 5 (by omega)
  unfold V90
  simp only [a1, b1, c1]
  have w : ∀ x : Int, 0 ≤ x → x ≤ 625 → IntKind.wrap .i64 x = x := fun x g1 g2 => wrapS (by omega) (by omega)
  rw [w _ a2 a3, w _ b2 b3, w _ c2 c3, Int.tmod_eq_emod_of_nonneg b2, Int.tmod_eq_emod_of_nonneg c2, Int.tmod_eq_emod_of_nonneg h0]
  exact ⟨by decide, by decide, by decide, by decide, by decide, by decide, h⟩
theorem p73 {f : FansT} {Q : Int → Prop} (h : f73_wp f () Q) : V73 f Q := by
  obtain ⟨⟨⟨a1, a2⟩, ⟨b1, b2⟩, ⟨c1, c2⟩, ⟨d1, d2⟩⟩, h⟩ := h
  have h : Q (((f.1 * 5 + f.2.1) * 5 + f.2.2.1) * 5 + f.2.2.2) := h
  unfold V73
  rw [wrapS (x := f.1 * 5) (by omega) (by omega), wrapS (x := f.1 * 5 + f.2.1) (by omega) (by omega), wrapS (x := (f.1 * 5 + f.2.1) * 5) (by omega) (by omega), wrapS (x := (f.1 * 5 + f.2.1) * 5 + f.2.2.1) (by omega) (by omega),
    wrapS (x := ((f.1 * 5 + f.2.1) * 5 + f.2.2.1) * 5) (by omega) (by omega), wrapS (x := ((f.1 * 5 + f.2.1) * 5 + f.2.2.1) * 5 + f.2.2.2) (by omega) (by omega)]
  exact h
theorem p16 {s : Store} {f : List Spring} {Q : Bool → Prop} (h : f16_wp (s, f, ()) () Q) : V16 s f Q := by
  have h : Q (decide (8 < s.1.length ∨ 8 < s.2.2.length ∨ 8 < f.length)) := h
  intro _
  refine cnd_iff.2 ⟨fun h1 => ?_, fun h1 _ => cnd_iff.2 ⟨fun h2 => ?_, fun h2 _ => ?_⟩⟩
  · have h1 : (s.1.length : Int) > 8 := of_decide_eq_true h1
    rw [decide_eq_true (.inl (by omega))] at h; exact h
  · have h2 : (s.2.2.length : Int) > 8 := of_decide_eq_true h2
    rw [decide_eq_true (.inr (.inl (by omega)))] at h; exact h
  · have h1 : ¬ (s.1.length : Int) > 8 := of_decide_eq_false h1
    have h2 : ¬ (s.2.2.length : Int) > 8 := of_decide_eq_false h2
    have e : decide (8 < s.1.length ∨ 8 < s.2.2.length ∨ 8 < f.length) = decide ((f.length : Int) > 8) := by
      by_cases h3 : (f.length : Int) > 8
      · rw [decide_eq_true h3, decide_eq_true (.inr (.inr (by omega)))]
      · rw [decide_eq_false h3, decide_eq_false (by omega)]
    rwa [e] at h
theorem p18 {s : Store} {Q : Store → Prop} (h : f18_wp s () Q) : V18 s Q := by
  obtain ⟨⟨h1, h2⟩, h⟩ := h
  exact ⟨by simp; omega, by simp; omega, h⟩
theorem p19 {f : List Spring} {Q : List Spring → Prop} (h : f19_wp f () Q) : V19 f Q := by
  obtain ⟨h1, h⟩ := h
  exact ⟨by simp; omega, h⟩
theorem list_ext' {α : Type} {a b : List α} (d : α) (hl : a.length = b.length) (h : ∀ j, j < a.length → a.getD j d = b.getD j d) : a = b := by
  refine List.ext_getElem hl fun j h1 h2 => ?_
  have := h j h1
  rwa [getD_lt h1, getD_lt h2] at this

theorem same_loop {α : Type} [DecidableEq α] {a b : List α} (d : α) {Q : Bool → Prop} (h : Q (decide (a = b))) {T : Int → Prop → Prop → Prop}
    (ht : ∀ (k : Nat) (P1 P2 : Prop), k < a.length → k < b.length → (a.getD k d ≠ b.getD k d → P1) → (a.getD k d = b.getD k d → P2) → T (k : Int) P1 P2) (h1 : a.length ≤ 9223372036854775807 → b.length ≤ 9223372036854775807 → True) :
    a.length ≤ 9223372036854775807 → b.length ≤ 9223372036854775807 → cnd ((a.length : Int) != (b.length : Int)) (Q false)
      (∃ (I : Int → Prop) (μ : Int → Nat), I 0 ∧ ∀ x, I x → a.length ≤ 9223372036854775807 → cnd (decide (x < (a.length : Int))) (0 ≤ x ∧ x < (a.length : Int) ∧ 0 ≤ x ∧ x < (b.length : Int) ∧ T x (Q false) (I (IntKind.wrap .i64 (x + 1)) ∧ μ (IntKind.wrap .i64 (x + 1)) < μ x)) (Q true)) := by
  intro _ _
  refine cnd_iff.2 ⟨fun hl => ?_, fun hl => ?_⟩
  · have : a ≠ b := by
      intro e; rw [e] at hl; simp at hl
    rw [decide_eq_false this] at h; exact h
  have hl : a.length = b.length := by have := eq_of_bne hl; omega
  refine forUpGL (fun k => ∀ j, j < k → a.getD j d = b.getD j d) (fun j hj => absurd hj (Nat.not_lt_zero _)) (fun k hk hg _ I μ hI hw => ?_) (fun hg => ?_)
  · refine ⟨by omega, by omega, by omega, by omega, ?_⟩
    refine ht k _ _ hk (by omega) (fun hne => ?_) (fun he => ?_)
    · have : a ≠ b := by intro e; rw [e] at hne; exact hne rfl
      rw [decide_eq_false this] at h; exact h
    · rw [hw]
      refine hI fun j hj => ?_
      rcases Nat.lt_succ_iff_lt_or_eq.1 hj with h3 | rfl
      · exact hg j h3
      · exact he
  · rw [decide_eq_true (list_ext' d hl hg)] at h; exact h
theorem p38 {a b : List Int} {Q : Bool → Prop} (h : f38_wp (a, b, ()) () Q) : V38 a b Q :=
  same_loop (0 : Int) h (T := fun x P1 P2 => cnd (a.getD x.toNat 0 != b.getD x.toNat 0) P1 P2) (fun k P1 P2 _ _ g1 g2 => cnd_iff.2 ⟨fun e => g1 (ne_of_bne e), fun e => g2 (eq_of_bne e)⟩) fun _ _ => trivial
theorem p28 {a b : List (List Int)} {Q : Bool → Prop} (h : f28_wp (a, b, ()) () Q) : V28 a b Q :=
  same_loop ([] : List Int) h (T := fun x P1 P2 => ∃ r : Bool, (f38_wp (a.getD x.toNat [], b.getD x.toNat [], ()) () fun r' => r' = r) ∧ cnd (!r) P1 P2) (fun k P1 P2 _ _ g1 g2 => ⟨decide (a.getD k [] = b.getD k []), rfl, cnd_iff.2 ⟨fun e => g1 (by simpa using e), fun e => g2 (by simpa using e)⟩⟩) fun _ _ => trivial
theorem lot_eq (p q : Lot) : (p.1 == q.1 && (p.2 == q.2 && true)) = decide (p = q) := by
  obtain ⟨a, b⟩ := p
  obtain ⟨c, d⟩ := q
  by_cases h1 : a = c <;> by_cases h2 : b = d <;> simp [h1, h2]
theorem spr_eq (p q : Spring) : (p.1.1 == q.1.1 && (p.1.2 == q.1.2 && (p.2.1 == q.2.1 && (p.2.2 == q.2.2 && true)))) = decide (p = q) := by
  obtain ⟨⟨a, b⟩, c, d⟩ := p
  obtain ⟨⟨a', b'⟩, c', d'⟩ := q
  by_cases h1 : a = a' <;> by_cases h2 : b = b' <;> by_cases h3 : c = c' <;> by_cases h4 : d = d' <;> simp [h1, h2, h3, h4]
theorem p71 {a b : List Spring} {Q : Bool → Prop} (h : f71_wp (a, b, ()) () Q) : V71 a b Q :=
  same_loop (((0, 0), 0, 0) : Spring) h (T := fun x P1 P2 => cnd (!((a.getD x.toNat ((0, 0), 0, 0)).1.1 == (b.getD x.toNat ((0, 0), 0, 0)).1.1 && ((a.getD x.toNat ((0, 0), 0, 0)).1.2 == (b.getD x.toNat ((0, 0), 0, 0)).1.2 && ((a.getD x.toNat ((0, 0), 0, 0)).2.1 == (b.getD x.toNat ((0, 0), 0, 0)).2.1 && ((a.getD x.toNat ((0, 0), 0, 0)).2.2 == (b.getD x.toNat ((0, 0), 0, 0)).2.2 && true))))) P1 P2)
    (fun k P1 P2 _ _ g1 g2 => by
      show cnd (!((a.getD k ((0, 0), 0, 0)).1.1 == (b.getD k ((0, 0), 0, 0)).1.1 && ((a.getD k ((0, 0), 0, 0)).1.2 == (b.getD k ((0, 0), 0, 0)).1.2 && ((a.getD k ((0, 0), 0, 0)).2.1 == (b.getD k ((0, 0), 0, 0)).2.1 && ((a.getD k ((0, 0), 0, 0)).2.2 == (b.getD k ((0, 0), 0, 0)).2.2 && true))))) P1 P2
      rw [spr_eq]
      exact cnd_iff.2 ⟨fun e => g1 (by simpa using e), fun e => g2 (by simpa using e)⟩) fun _ _ => trivial
theorem p70 {a b : Store} {Q : Bool → Prop} (h : f70_wp (a, b, ()) () Q) : V70 a b Q := by
  have h : Q (decide (a = b)) := h
  show cnd (!(decide (a.1 = b.1))) (Q false) (cnd (a.2.1 != b.2.1) (Q false) _)
  refine cnd_iff.2 ⟨fun h1 => ?_, fun h1 => cnd_iff.2 ⟨fun h2 => ?_, fun h2 => ?_⟩⟩
  · have h1 : a.1 ≠ b.1 := by simpa using h1
    rw [decide_eq_false (fun e => h1 (by rw [e]))] at h; exact h
  · have h2 := ne_of_bne h2
    rw [decide_eq_false (fun e => h2 (by rw [e]))] at h; exact h
  have e1 : a.1 = b.1 := by simpa using h1
  have e2 : a.2.1 = b.2.1 := eq_of_bne h2
  have e : decide (a = b) = decide (a.2.2 = b.2.2) := by
    rw [Bool.eq_iff_iff, decide_eq_true_eq, decide_eq_true_eq]
    exact ⟨fun h => by rw [h], fun h => Prod.ext e1 (Prod.ext e2 h)⟩
  rw [e] at h
  exact same_loop ((0, 0) : Lot) h (T := fun x P1 P2 => cnd (!((a.2.2.getD x.toNat (0, 0)).1 == (b.2.2.getD x.toNat (0, 0)).1 && ((a.2.2.getD x.toNat (0, 0)).2 == (b.2.2.getD x.toNat (0, 0)).2 && true))) P1 P2)
    (fun k P1 P2 _ _ g1 g2 => by
      show cnd (!((a.2.2.getD k (0, 0)).1 == (b.2.2.getD k (0, 0)).1 && ((a.2.2.getD k (0, 0)).2 == (b.2.2.getD k (0, 0)).2 && true))) P1 P2
      rw [lot_eq]
      exact cnd_iff.2 ⟨fun e => g1 (by simpa using e), fun e => g2 (by simpa using e)⟩) fun _ _ => trivial
theorem p23 {a b : Store} {f g : List Spring} {Q : Bool → Prop} (h : f23_wp (a, b, f, g, ()) () Q) : V23 a b f g Q := by
  have h : Q (decide (a = b ∧ f = g)) := h
  show cnd (decide (a = b)) (Q (decide (f = g))) (Q false)
  refine cnd_iff.2 ⟨fun h1 => ?_, fun h1 => ?_⟩
  · have h1 : a = b := of_decide_eq_true h1
    have e : decide (a = b ∧ f = g) = decide (f = g) := by simp [h1]
    rwa [e] at h
  · have h1 : ¬ a = b := of_decide_eq_false h1
    rw [decide_eq_false (fun e => h1 e.1)] at h; exact h
theorem p22 {s : Store} {f : List Spring} {Q : Int → Prop} (h : f22_wp (s, f, ()) () Q) : V22 s f Q := by
  have h : Q (checkF s f) := h
  unfold checkF at h
  intro _
  refine cnd_iff.2 ⟨fun h1 => ?_, fun h1 _ => cnd_iff.2 ⟨fun h2 => ?_, fun h2 => ?_⟩⟩
  · have h1 : (s.1.length : Int) > 6 := of_decide_eq_true h1
    rw [if_pos (.inl (by omega))] at h; exact h
  · have h2 : (s.2.2.length : Int) > 5 := of_decide_eq_true h2
    rw [if_pos (.inr (by omega))] at h; exact h
  have h1 : ¬ (s.1.length : Int) > 6 := of_decide_eq_false h1
  have h2 : ¬ (s.2.2.length : Int) > 5 := of_decide_eq_false h2
  rw [if_neg (by omega)] at h
  have mem : ∀ {α : Type} {l : List α} {p : α → Bool} (d : α) {k : Nat}, k < l.length → p (l.getD k d) = false → l.all p = false := fun {α l p} d {k} hk hp => by
    rw [List.all_eq_false]; exact ⟨_, getD_mem hk, by rw [hp]; simp⟩
  have allT : ∀ {α : Type} {l : List α} {p : α → Bool} (d : α), (∀ j, j < l.length → p (l.getD j d) = true) → l.all p = true := fun {α l p} d hp => by
    rw [List.all_eq_true]
    intro x hx
    obtain ⟨j, hj, rfl⟩ := List.mem_iff_getElem.1 hx
    have := hp j hj
    rwa [getD_lt hj] at this
  have go : ∀ {p : Nat → Prop} {k : Nat}, (∀ j, j < k → p j) → p k → ∀ j, j < k + 1 → p j := fun {p k} hg hk j hj => by
    rcases Nat.lt_succ_iff_lt_or_eq.1 hj with h3 | rfl
    · exact hg j h3
    · exact hk
  refine forUpGL (fun k => ∀ j, j < k → inB 1 200 (s.1.getD j 0) = true) (fun j hj => absurd hj (Nat.not_lt_zero _)) (fun k hk hg _ I μ hI hw => ?_) (fun hg => ?_)
  · refine ⟨by omega, by omega, ?_⟩
    show cnd (!(inB 1 200 (s.1.getD k 0))) (Q 2) _
    refine cnd_iff.2 ⟨fun h3 => ?_, fun h3 => ?_⟩
    · rw [if_pos (.inl (mem 0 hk (by simpa using h3)))] at h; exact h
    · rw [hw]; exact hI (go hg (by simpa using h3))
  have l1 : s.1.all (inB 1 200) = true := allT 0 hg
  refine forUpGL (fun k => ∀ j, j < k → isLotF (s.2.2.getD j (0, 0)) = true) (fun j hj => absurd hj (Nat.not_lt_zero _)) (fun k hk hg _ I μ hI hw => ?_) (fun hg => ?_)
  · refine ⟨by omega, by omega, ?_⟩
    show cnd (!(inB 1 200 (s.2.2.getD k (0, 0)).1)) (Q 2) (_ ∧ _ ∧ cnd (!(inB 0 200 (s.2.2.getD k (0, 0)).2)) (Q 2) _)
    refine cnd_iff.2 ⟨fun h3 => ?_, fun h3 => ⟨by omega, by omega, cnd_iff.2 ⟨fun h4 => ?_, fun h4 => ?_⟩⟩⟩
    · have h3 : inB 1 200 (s.2.2.getD k (0, 0)).1 = false := by simpa using h3
      rw [if_pos (.inr (.inr (mem (0, 0) hk (by unfold isLotF; rw [h3]; rfl))))] at h; exact h
    · have h3 : inB 1 200 (s.2.2.getD k (0, 0)).1 = true := by simpa using h3
      have h4 : inB 0 200 (s.2.2.getD k (0, 0)).2 = false := by simpa using h4
      rw [if_pos (.inr (.inr (mem (0, 0) hk (by unfold isLotF; rw [h3, h4]; rfl))))] at h; exact h
    · have h3 : inB 1 200 (s.2.2.getD k (0, 0)).1 = true := by simpa using h3
      have h4 : inB 0 200 (s.2.2.getD k (0, 0)).2 = true := by simpa using h4
      rw [hw]; exact hI (go hg (by unfold isLotF; rw [h3, h4]; rfl))
  have l2 : s.2.2.all isLotF = true := allT (0, 0) hg
  show cnd (!(inB 0 10 s.2.1)) (Q 2) _
  refine cnd_iff.2 ⟨fun h3 => ?_, fun h3 _ => ?_⟩
  · rw [if_pos (.inr (.inl (by simpa using h3)))] at h; exact h
  have h3 : inB 0 10 s.2.1 = true := by simpa using h3
  rw [if_neg (by rw [l1, l2, h3]; simp)] at h
  show cnd (!(inB 1 4 (f.length : Int))) (Q 4) _
  refine cnd_iff.2 ⟨fun h4 => ?_, fun h4 => ?_⟩
  · rw [if_pos (by simpa using h4)] at h; exact h
  have h4 : inB 1 4 (f.length : Int) = true := by simpa using h4
  rw [if_neg (by rw [h4]; simp)] at h
  refine forUpGL (fun k => ∀ j, j < k → isSprF (f.getD j ((0, 0), 0, 0)) = true) (fun j hj => absurd hj (Nat.not_lt_zero _)) (fun k hk hg _ I μ hI hw => ?_) (fun hg => ?_)
  · have bad : isSprF (f.getD k ((0, 0), 0, 0)) = false → Q 3 := fun hb => by
      rw [if_pos (mem ((0, 0), 0, 0) hk hb)] at h; exact h
    have eS : isSprF (f.getD k ((0, 0), 0, 0)) = (inB 2 (f.getD k ((0, 0), 0, 0)).1.2 (f.getD k ((0, 0), 0, 0)).1.1 && !(decide ((f.getD k ((0, 0), 0, 0)).1.2 > 40)) && inB 0 4 (f.getD k ((0, 0), 0, 0)).2.1 && inB 1 200 (f.getD k ((0, 0), 0, 0)).2.2) := by
      unfold isSprF
      have : (inB 2 40 (f.getD k ((0, 0), 0, 0)).1.1 && inB 2 40 (f.getD k ((0, 0), 0, 0)).1.2 && decide ((f.getD k ((0, 0), 0, 0)).1.1 ≤ (f.getD k ((0, 0), 0, 0)).1.2)) = (inB 2 (f.getD k ((0, 0), 0, 0)).1.2 (f.getD k ((0, 0), 0, 0)).1.1 && !(decide ((f.getD k ((0, 0), 0, 0)).1.2 > 40))) := by
        generalize (f.getD k ((0, 0), 0, 0)).1.1 = a
        generalize (f.getD k ((0, 0), 0, 0)).1.2 = b
        rw [Bool.eq_iff_iff]
        simp only [inB, Bool.and_eq_true, decide_eq_true_eq, Bool.not_eq_true', decide_eq_false_iff_not]
        omega
      rw [this]
    rw [eS] at bad
    have gk : (inB 2 (f.getD k ((0, 0), 0, 0)).1.2 (f.getD k ((0, 0), 0, 0)).1.1 && !(decide ((f.getD k ((0, 0), 0, 0)).1.2 > 40)) && inB 0 4 (f.getD k ((0, 0), 0, 0)).2.1 && inB 1 200 (f.getD k ((0, 0), 0, 0)).2.2) = true → I (k + 1 : Int) ∧ μ (k + 1 : Int) < μ k := fun hh => hI (go hg (by rw [eS]; exact hh))
    refine ⟨by omega, by omega, by omega, by omega, _, rfl, ?_⟩
    show cnd (!(inB 2 (f.getD k ((0, 0), 0, 0)).1.2 (f.getD k ((0, 0), 0, 0)).1.1)) (Q 3) (_ ∧ _ ∧ cnd (decide ((f.getD k ((0, 0), 0, 0)).1.2 > 40)) (Q 3) (_ ∧ _ ∧ ∃ r, (inB 0 4 (f.getD k ((0, 0), 0, 0)).2.1 = r) ∧ cnd (!r) (Q 3) (_ ∧ _ ∧ ∃ r, (inB 1 200 (f.getD k ((0, 0), 0, 0)).2.2 = r) ∧ cnd (!r) (Q 3) _)))
    rw [hw]
    revert bad gk
    generalize inB 2 (f.getD k ((0, 0), 0, 0)).1.2 (f.getD k ((0, 0), 0, 0)).1.1 = a
    generalize decide ((f.getD k ((0, 0), 0, 0)).1.2 > 40) = b
    intro bad gk
    cases a with
    | false => exact bad rfl
    | true =>
      refine ⟨by omega, by omega, ?_⟩
      cases b with
      | true => exact bad rfl
      | false =>
        refine ⟨by omega, by omega, _, rfl, ?_⟩
        revert bad gk
        generalize inB 0 4 (f.getD k ((0, 0), 0, 0)).2.1 = c
        intro bad gk
        cases c with
        | false => exact bad rfl
        | true =>
          refine ⟨by omega, by omega, _, rfl, ?_⟩
          revert bad gk
          generalize inB 1 200 (f.getD k ((0, 0), 0, 0)).2.2 = d
          intro bad gk
          cases d with
          | false => exact bad rfl
          | true => exact gk rfl
  · rw [if_neg (by rw [allT ((0, 0), 0, 0) hg]; simp)] at h; exact h
theorem F5.fok {f : FansT} (h : F5 f) : FOK f := all4_mono (fun x g => ⟨g.1, by omega⟩) h
theorem p76 {b : BinT} {f : FansT} {Q : Int → Prop} (h : f76_wp (b, f, ()) () Q) : V76 b f Q := by
  obtain ⟨⟨hb, hf5⟩, h⟩ := h
  have hb : BOK b := hb
  have hf5 : F5 f := hf5
  have hf := hf5.fok
  have h : Q (costF b f) := h
  obtain ⟨⟨a1, a2⟩, ⟨b1, b2⟩, ⟨c1, c2⟩, ⟨d1, d2⟩⟩ := hf5
  have hd := dot_bnd hf hb.l
  have hh := hb.f
  let S : Nat → Int := fun k => match k with | 0 => 0 | 1 => f.1 | 2 => f.1 + f.2.1 | 3 => f.1 + f.2.1 + f.2.2.1 | _ => sumF f
  have hS : ∀ k, k < 4 → IntKind.wrap .i64 (S k + at4L f k) = S (k + 1) := fun k hk => by
    match k, hk with
    | 0, _ => show IntKind.wrap .i64 (0 + f.1) = f.1; rw [wrapS (by omega) (by omega)]; omega
    | 1, _ => exact wrapS (x := f.1 + f.2.1) (by omega) (by omega)
    | 2, _ => exact wrapS (x := f.1 + f.2.1 + f.2.2.1) (by omega) (by omega)
    | 3, _ => exact wrapS (x := f.1 + f.2.1 + f.2.2.1 + f.2.2.2) (by omega) (by omega)
  refine ⟨fun x a l n => ∃ k : Nat, k ≤ 4 ∧ x = k ∧ a = dotS f b.1 k ∧ l = dotS f b.2.1 k ∧ n = S k, fun x _ _ _ => (4 - x).toNat, ⟨0, by omega, rfl, rfl, rfl, rfl⟩, ?_⟩
  rintro x a l n ⟨k, hk, rfl, rfl, rfl, rfl⟩
  refine cnd_iff.2 ⟨fun h1 => ?_, fun h1 => ?_⟩
  · have h1 : (k : Int) < 4 := of_decide_eq_true h1
    have hk : k < 4 := by omega
    have hw : IntKind.wrap .i64 ((k : Int) + 1) = k + 1 := wrapS (by omega) (by omega)
    refine ⟨by omega, by omega, by omega, by omega, by omega, by omega, by omega, by omega, by omega, by omega, ?_⟩
    show (∃ k' : Nat, k' ≤ 4 ∧ IntKind.wrap .i64 ((k : Int) + 1) = k' ∧ IntKind.wrap .i64 (dotS f b.1 k + IntKind.wrap .i64 (at4L f k * at4L b.1 k)) = _ ∧ IntKind.wrap .i64 (dotS f b.2.1 k + IntKind.wrap .i64 (at4L f k * at4L b.2.1 k)) = _ ∧ IntKind.wrap .i64 (S k + at4L f k) = _) ∧ (4 - IntKind.wrap .i64 ((k : Int) + 1)).toNat < (4 - (k : Int)).toNat
    rw [hw, dotS_step hf hb.t hk, dotS_step hf hb.l hk, hS k hk]
    exact ⟨⟨k + 1, by omega, by push_cast; rfl, rfl, rfl, rfl⟩, by omega⟩
  · have h1 : ¬ (k : Int) < 4 := of_decide_eq_false h1
    have : k = 4 := by omega
    subst this
    unfold costF at h
    rw [dotS_four, dotS_four]
    refine cnd_iff.2 ⟨fun h2 => ?_, fun h2 => ?_⟩
    · have h2 : GX.Fa.dot f b.1 > b.2.2.1 := of_decide_eq_true h2
      have e : GX.Fa.fitsB b f = false := decide_eq_false (show ¬ GX.Fa.dot f b.1 ≤ b.2.2.1 by omega)
      rw [e] at h; exact h
    · have h2 : ¬ GX.Fa.dot f b.1 > b.2.2.1 := of_decide_eq_false h2
      have e : GX.Fa.fitsB b f = true := decide_eq_true (show GX.Fa.dot f b.1 ≤ b.2.2.1 by omega)
      rw [e, if_pos rfl] at h
      unfold GX.Fa.lossV at h
      show cnd (decide (sumF f > 0)) _ _
      have eN : GX.Fa.isNo f = decide (¬ sumF f > 0) := by
        rw [Bool.eq_iff_iff]
        simp only [GX.Fa.isNo, Bool.and_eq_true, beq_iff_eq, decide_eq_true_eq]
        have es : sumF f = f.1 + f.2.1 + f.2.2.1 + f.2.2.2 := rfl
        constructor
        · rintro ⟨g1, g2, g3, g4⟩; omega
        · intro g; exact ⟨by omega, by omega, by omega, by omega⟩
      refine cnd_iff.2 ⟨fun h3 => ?_, fun h3 => ?_⟩
      · have h3 : sumF f > 0 := of_decide_eq_true h3
        rw [eN, decide_eq_false (by omega)] at h
        rw [wrapS (by have := hd.1; have := hh.1; omega) (by have := hd.2; have := hh.2; omega)]
        exact h
      · have h3 : ¬ sumF f > 0 := of_decide_eq_false h3
        rw [eN, decide_eq_true (by omega)] at h
        simpa using h
end Go.Proofs.Fa
set_option linter.unusedVariables false
set_option maxRecDepth 20000
namespace Go.Proofs.Fa
open Go Go.GX Go.Proofs

theorem atF_bnd {n : Int} (h0 : 0 ≤ n) (h1 : n < 625) : F5 (atF n) := by
  unfold atF
  refine ⟨⟨?_, ?_⟩, ⟨?_, ?_⟩, ⟨?_, ?_⟩, ⟨?_, ?_⟩⟩ <;> simp only <;> omega
theorem idx_bnd {f : FansT} (h : F5 f) : 0 ≤ idx5 f ∧ idx5 f < 625 := by
  obtain ⟨⟨a1, a2⟩, ⟨b1, b2⟩, ⟨c1, c2⟩, ⟨d1, d2⟩⟩ := h
  unfold idx5; omega
theorem at_idx {f : FansT} (h : F5 f) : atF (idx5 f) = f := by
  obtain ⟨⟨a1, a2⟩, ⟨b1, b2⟩, ⟨c1, c2⟩, ⟨d1, d2⟩⟩ := h
  obtain ⟨a, b, c, d⟩ := f
  simp only at a1 a2 b1 b2 c1 c2 d1 d2
  unfold atF idx5
  simp only [Prod.mk.injEq]
  omega
theorem less_F5 {f s : FansT} (hf : F5 f) (hs : F5 s) (hg : ge0 (GX.Fa.less f s) = true) : F5 (GX.Fa.less f s) := by
  obtain ⟨⟨a1, a2⟩, ⟨b1, b2⟩, ⟨c1, c2⟩, ⟨d1, d2⟩⟩ := hf
  obtain ⟨⟨e1, e2⟩, ⟨f1, f2⟩, ⟨g1, g2⟩, ⟨h1, h2⟩⟩ := hs
  simp only [ge0, Bool.and_eq_true, decide_eq_true_eq] at hg
  obtain ⟨⟨⟨k1, k2⟩, k3⟩, k4⟩ := hg
  have l1 : (GX.Fa.less f s).1 = f.1 - s.1 := rfl
  have l2 : (GX.Fa.less f s).2.1 = f.2.1 - s.2.1 := rfl
  have l3 : (GX.Fa.less f s).2.2.1 = f.2.2.1 - s.2.2.1 := rfl
  have l4 : (GX.Fa.less f s).2.2.2 = f.2.2.2 - s.2.2.2 := rfl
  exact ⟨⟨k1, by omega⟩, ⟨k2, by omega⟩, ⟨k3, by omega⟩, ⟨k4, by omega⟩⟩
theorem lst_congr {b : BinT} {rest rest' : FansT → Int} {f s : FansT} (hr : ∀ g, F5 g → rest g = rest' g) (hf : F5 f) (hs : F5 s) (best : Int) : lstStep b rest f best s = lstStep b rest' f best s := by
  unfold lstStep
  cases hg : ge0 (GX.Fa.less f s) with
  | false => rfl
  | true => rw [hr _ (less_F5 hf hs hg)]
theorem foldl_congr' {α β : Type} {g g' : β → α → β} {l : List α} (h : ∀ b a, a ∈ l → g b a = g' b a) (b : β) : l.foldl g b = l.foldl g' b := by
  induction l generalizing b with
  | nil => rfl
  | cons a l ih =>
    rw [List.foldl_cons, List.foldl_cons, h b a (by simp), ih fun b a ha => h b a (by simp [ha])]
theorem lstR_congr {b : BinT} {rest rest' : FansT → Int} {f : FansT} (hr : ∀ g, F5 g → rest g = rest' g) (hf : F5 f) : lstR b rest f = lstR b rest' f := by
  refine foldl_congr' (fun best n hn => lst_congr hr hf ?_ best) _
  have := idx_bnd hf
  have hn := List.mem_range.1 hn
  exact atF_bnd (by omega) (by omega)
theorem costF_bnd {b : BinT} {s : FansT} (hb : BOK b) (hs : F5 s) : -5000000000 ≤ costF b s ∧ costF b s ≤ 5000000000 := by
  have := loss_bnd hb hs.fok
  unfold costF
  split
  · exact ⟨this.1, this.2⟩
  · omega
theorem lstStep_bnd {b : BinT} {rest : FansT → Int} {f s : FansT} {B best : Int} (hb : BOK b) (hf : F5 f) (hs : F5 s) (hr : ∀ g, F5 g → rest g ≤ B) (h0 : -1 ≤ best) (h1 : best ≤ B + 5000000000) : -1 ≤ lstStep b rest f best s ∧ lstStep b rest f best s ≤ B + 5000000000 := by
  unfold lstStep
  split
  · exact ⟨h0, h1⟩
  · rename_i hn
    simp only [Bool.or_eq_true, Bool.not_eq_true', decide_eq_true_eq, not_or] at hn
    have hg : ge0 (GX.Fa.less f s) = true := by
      cases hh : ge0 (GX.Fa.less f s) with
      | true => rfl
      | false => exact absurd hh hn.1
    have h2 := hr _ (less_F5 hf hs hg)
    have h3 := costF_bnd hb hs
    split
    · rename_i hc
      simp only [Bool.and_eq_true, decide_eq_true_eq] at hc
      have := hn.2
      omega
    · exact ⟨h0, h1⟩
theorem lstR_bnd {b : BinT} {rest : FansT → Int} {f : FansT} {B : Int} (hb : BOK b) (hf : F5 f) (hr : ∀ g, F5 g → rest g ≤ B) (hB : -1 ≤ B) : ∀ k : Nat, k ≤ 625 → -1 ≤ (List.range k).foldl (fun best (n : Nat) => lstStep b rest f best (atF n)) (-1) ∧ (List.range k).foldl (fun best (n : Nat) => lstStep b rest f best (atF n)) (-1) ≤ B + 5000000000
  | 0, _ => ⟨Int.le_refl _, by simp; omega⟩
  | k + 1, hk => by
    rw [foldl_succ]
    obtain ⟨h1, h2⟩ := lstR_bnd hb hf hr hB k (by omega)
    exact lstStep_bnd hb hf (atF_bnd (by omega) (by omega)) hr h1 h2
theorem Bins0.cons {b : BinT} {r : List BinT} (h : Bins0 (b :: r)) : BOK b ∧ (∀ s, F5 s → GX.Fa.fitsB b s = true → 0 ≤ GX.Fa.lossV b s) ∧ Bins0 r :=
  ⟨(h.b.cons).1, h.n b (by simp), (h.b.cons).2, fun c hc => h.n c (by simp [hc]), by have := h.k; simp at this; omega⟩
theorem Bins0.drop {bs : List BinT} (h : Bins0 bs) (k : Nat) : Bins0 (bs.drop k) :=
  ⟨h.b.drop k, fun b hb => h.n b (List.mem_of_mem_drop hb), by have := h.k; rw [List.length_drop]; omega⟩
theorem tval_bnd : ∀ {bs : List BinT}, Bins0 bs → ∀ f, F5 f → -1 ≤ tval bs f ∧ tval bs f ≤ (bs.length : Int) * 5000000000
  | [], _, f, _ => by
    unfold tval
    split <;> simp
  | b :: r, h, f, hf => by
    obtain ⟨h1, _, h3⟩ := h.cons
    unfold tval lstR
    have := idx_bnd hf
    obtain ⟨g1, g2⟩ := lstR_bnd (B := (r.length : Int) * 5000000000) h1 hf (fun g hg => (tval_bnd h3 g hg).2) (by omega) ((idx5 f).toNat + 1) (by omega)
    refine ⟨g1, ?_⟩
    have e : (((b :: r).length : Nat) : Int) = (r.length : Int) + 1 := by simp
    rw [e]; omega

def okS (f s : FansT) : Nat → Bool
  | 0 => true
  | j + 1 => okS f s j && decide (0 ≤ at4 f j - at4 s j)
theorem okS_four (f s : FansT) : okS f s 4 = ge0 (GX.Fa.less f s) := rfl
theorem forUpLe {σ : Type} {N : Int} {n : Nat} (hN : N = (n : Int)) (hn : n ≤ 1000) (F : Nat → σ) {s0 : σ} (h0 : s0 = F 0) {body : (Int → σ → Prop) → (Int → σ → Nat) → Int → σ → Prop} {T : Int → σ → Prop → Prop → Prop}
    (hT : ∀ x s p q, cnd (decide (x ≤ N)) p q → T x s p q)
    (hb : ∀ k : Nat, k ≤ n → ∀ (I : Int → σ → Prop) (μ : Int → σ → Nat), (I (k + 1 : Int) (F (k + 1)) ∧ μ (k + 1 : Int) (F (k + 1)) < μ k (F k)) → IntKind.wrap .i64 ((k : Int) + 1) = k + 1 → body I μ k (F k))
    {e : Int → σ → Prop} (he : e ((n : Int) + 1) (F (n + 1))) :
    ∃ (I : Int → σ → Prop) (μ : Int → σ → Nat), I 0 s0 ∧ ∀ x s, I x s → T x s (body I μ x s) (e x s) := by
  refine ⟨fun x s => ∃ k : Nat, k ≤ n + 1 ∧ x = k ∧ s = F k, fun x _ => (n + 1 - x).toNat, ⟨0, Nat.zero_le _, rfl, h0⟩, ?_⟩
  rintro x s ⟨k, hk, rfl, rfl⟩
  refine hT _ _ _ _ (cnd_iff.2 ⟨fun h => ?_, fun h => ?_⟩)
  · have h : (k : Int) ≤ N := of_decide_eq_true h
    refine hb k (by omega) _ _ ⟨⟨k + 1, by omega, by push_cast; rfl, rfl⟩, by omega⟩ (wrapS (by omega) (by omega))
  · have h : ¬ (k : Int) ≤ N := of_decide_eq_false h
    have : k = n + 1 := by omega
    subst this
    simpa using he
theorem p96 {b : BinT} {rest : List Int} {f : FansT} {Q : Int → Prop} (h : f96_wp (b, rest, f, ()) () Q) : V96 b rest f Q := by
  obtain ⟨⟨hb, hr, hf⟩, h⟩ := h
  have hb : BOK b := hb
  have hr : bigR rest := hr
  have hf : F5 f := hf
  have hrl : rest.length = 625 := hr.1
  obtain ⟨R, hR⟩ : ∃ R : FansT → Int, R = fun g => rest.getD (idx5 g).toNat 0 := ⟨_, rfl⟩
  have h : Q (lstR b R f) := by rw [hR]; exact h
  have hRb : ∀ g, F5 g → -1 ≤ R g ∧ R g ≤ 1000000000000000 := fun g hg => by
    have := idx_bnd hg
    rw [hR]
    exact hr.2 _ (getD_mem (by omega))
  have hi := idx_bnd hf
  obtain ⟨N, hN⟩ := Int.eq_ofNat_of_zero_le hi.1
  have hNN : (idx5 f).toNat = N := by omega
  unfold lstR at h
  rw [hNN] at h
  refine forUpLe (σ := Int) (N := idx5 f) (n := N) hN (by omega) (fun k => (List.range k).foldl (fun best (n : Nat) => lstStep b R f best (atF n)) (-1)) rfl (T := fun x s p q => f73_wp (f.1, f.2.1, f.2.2.1, f.2.2.2) () fun r => cnd (decide (x ≤ r)) p q) (fun x s p q hc => ⟨hf, hc⟩) (fun k hk I μ hI hw => ?_) h
  obtain ⟨best, hbest⟩ : ∃ best, best = (List.range k).foldl (fun best (n : Nat) => lstStep b R f best (atF n)) (-1) := ⟨_, rfl⟩
  have hbb := lstR_bnd (B := 1000000000000000) hb hf (fun g hg => (hRb g hg).2) (by omega) k (by omega)
  rw [← hbest] at hbb
  simp only [foldl_succ, ← hbest] at hI
  rw [← hbest, hw]
  obtain ⟨s, hs⟩ : ∃ s, s = atF (k : Int) := ⟨_, rfl⟩
  rw [← hs] at hI
  have hs5 : F5 s := by rw [hs]; exact atF_bnd (by omega) (by omega)
  refine ⟨⟨by omega, by omega⟩, ?_⟩
  rw [← hs]
  refine forUp2 (σ := FansT) (τ := Bool) (n := 4) (by omega) (fun j => tup4 fun i => if i < j then at4 f i - at4 s i else 0) (okS f s) rfl rfl (fun j hj I1 μ1 hI1 hw1 => ?_) ?_
  · have e1 : IntKind.wrap .i64 (at4L f j - at4L s j) = at4 f j - at4 s j := by
      rw [at4_L _ hj, at4_L _ hj]
      have g1 : 0 ≤ at4 f j ∧ at4 f j ≤ 4 := all4_at hf hj
      have g2 : 0 ≤ at4 s j ∧ at4 s j ≤ 4 := all4_at hs5 hj
      exact wrapS (by omega) (by omega)
    have e2 := set4_tup (fun i => at4 f i - at4 s i) hj
    have e3 : at4L (tup4 fun i => if i < j + 1 then at4 f i - at4 s i else 0) j = at4 f j - at4 s j := by
      rw [at4_L _ hj, at4_tup _ hj]; simp
    refine ⟨by omega, by omega, by omega, by omega, by omega, by omega, ?_⟩
    rw [hw1]
    show cnd (okS f s j) (0 ≤ (j : Int) ∧ (j : Int) < 4 ∧ I1 _ (set4 _ j (IntKind.wrap .i64 (at4L f j - at4L s j))) (decide (at4L (set4 _ j (IntKind.wrap .i64 (at4L f j - at4L s j))) j ≥ 0)) ∧ μ1 _ (set4 _ j (IntKind.wrap .i64 (at4L f j - at4L s j))) (decide (at4L (set4 _ j (IntKind.wrap .i64 (at4L f j - at4L s j))) j ≥ 0)) < _)
      (I1 _ (set4 _ j (IntKind.wrap .i64 (at4L f j - at4L s j))) false ∧ μ1 _ (set4 _ j (IntKind.wrap .i64 (at4L f j - at4L s j))) false < _)
    rw [e1]
    rw [e2, e3]
    simp only [okS] at hI1
    refine cnd_iff.2 ⟨fun h1 => ⟨by omega, by omega, ?_⟩, fun h1 => ?_⟩
    · rw [h1, Bool.true_and] at hI1
      rw [h1]
      exact hI1
    · rw [h1, Bool.false_and] at hI1
      rw [h1]
      exact hI1
  · show cnd (!(okS f s 4)) (I _ best ∧ μ _ best < μ _ best) _
    rw [okS_four]
    have stop : lstStep b R f best s = best → I (k + 1 : Int) best ∧ μ (k + 1 : Int) best < μ k best := fun e => by rw [e] at hI; exact hI
    refine cnd_iff.2 ⟨fun h1 => stop ?_, fun h1 => ?_⟩
    · unfold lstStep; rw [h1]; rfl
    have hg : ge0 (GX.Fa.less f s) = true := by simpa using h1
    have hl5 := less_F5 hf hs5 hg
    have hli := idx_bnd hl5
    have hRl := hRb _ hl5
    have hRe : R (GX.Fa.less f s) = rest.getD (idx5 (GX.Fa.less f s)).toNat 0 := by rw [hR]
    refine ⟨hl5, hli.1, by show idx5 (GX.Fa.less f s) < (rest.length : Int); omega, ?_⟩
    show cnd (decide (rest.getD (idx5 (GX.Fa.less f s)).toNat 0 < 0)) _ _
    rw [← hRe]
    refine cnd_iff.2 ⟨fun h2 => stop ?_, fun h2 => ⟨⟨hb, hs5⟩, ?_⟩⟩
    · unfold lstStep; rw [hg, h2]; rfl
    show cnd (decide (costF b s ≥ 0)) (cnd (decide (best < 0)) (F5 (GX.Fa.less f s) ∧ 0 ≤ idx5 (GX.Fa.less f s) ∧ idx5 (GX.Fa.less f s) < (rest.length : Int) ∧ I _ (IntKind.wrap .i64 (costF b s + rest.getD (idx5 (GX.Fa.less f s)).toNat 0)) ∧ μ _ (IntKind.wrap .i64 (costF b s + rest.getD (idx5 (GX.Fa.less f s)).toNat 0)) < _)
      (F5 (GX.Fa.less f s) ∧ 0 ≤ idx5 (GX.Fa.less f s) ∧ idx5 (GX.Fa.less f s) < (rest.length : Int) ∧ cnd (decide (IntKind.wrap .i64 (costF b s + rest.getD (idx5 (GX.Fa.less f s)).toNat 0) < best)) (F5 (GX.Fa.less f s) ∧ 0 ≤ idx5 (GX.Fa.less f s) ∧ idx5 (GX.Fa.less f s) < (rest.length : Int) ∧ I _ (IntKind.wrap .i64 (costF b s + rest.getD (idx5 (GX.Fa.less f s)).toNat 0)) ∧ μ _ (IntKind.wrap .i64 (costF b s + rest.getD (idx5 (GX.Fa.less f s)).toNat 0)) < _) _)) _
    have hcb := costF_bnd hb hs5
    rw [← hRe, wrapS (x := costF b s + R (GX.Fa.less f s)) (by omega) (by omega)]
    have e0 : lstStep b R f best s = if decide (0 ≤ costF b s) && (decide (best < 0) || decide (costF b s + R (GX.Fa.less f s) < best)) then costF b s + R (GX.Fa.less f s) else best := by
      unfold lstStep; rw [hg, h2]; rfl
    have upd : lstStep b R f best s = costF b s + R (GX.Fa.less f s) → I (k + 1 : Int) (costF b s + R (GX.Fa.less f s)) ∧ μ (k + 1 : Int) (costF b s + R (GX.Fa.less f s)) < μ k best := fun e => by rw [e] at hI; exact hI
    have bd : idx5 (GX.Fa.less f s) < (rest.length : Int) := by omega
    refine cnd_iff.2 ⟨fun h3 => cnd_iff.2 ⟨fun h4 => ⟨hl5, hli.1, bd, upd ?_⟩, fun h4 => ⟨hl5, hli.1, bd, cnd_iff.2 ⟨fun h5 => ⟨hl5, hli.1, bd, upd ?_⟩, fun h5 => stop ?_⟩⟩⟩, fun h3 => stop ?_⟩
    · have h3 : decide (0 ≤ costF b s) = true := h3
      rw [e0, h3, h4]; rfl
    · have h3 : decide (0 ≤ costF b s) = true := h3
      rw [e0, h3, h4, h5]; rfl
    · have h3 : decide (0 ≤ costF b s) = true := h3
      rw [e0, h3, h4, h5]; rfl
    · have h3 : decide (0 ≤ costF b s) = false := h3
      rw [e0, h3]; rfl
theorem getD_set {l : List Int} {k n : Nat} {v : Int} (hk : k < l.length) : (l.set k v).getD n 0 = if n = k then v else l.getD n 0 := by
  rw [List.getD_eq_getElem?_getD, List.getElem?_set, List.getD_eq_getElem?_getD]
  by_cases h : k = n
  · subst h; simp [hk]
  · simp [h, Ne.symm h]
theorem tabF_length (bs : List BinT) : (tabF bs).length = 625 := by simp [tabF]
theorem tabF_get {bs : List BinT} {n : Nat} (h : n < 625) : (tabF bs).getD n 0 = tval bs (atF n) := by
  unfold tabF
  rw [List.getD_eq_getElem?_getD, List.getElem?_map, List.getElem?_range h]; rfl
theorem tabF_idx {bs : List BinT} {g : FansT} (hg : F5 g) : (tabF bs).getD (idx5 g).toNat 0 = tval bs g := by
  have h := idx_bnd hg
  rw [tabF_get (by omega), show (((idx5 g).toNat : Nat) : Int) = idx5 g by omega, at_idx hg]
theorem tab_big {bs : List BinT} (h : Bins0 bs) : bigR (tabF bs) := by
  refine ⟨tabF_length bs, fun x hx => ?_⟩
  obtain ⟨j, hj, rfl⟩ := List.mem_iff_getElem.1 hx
  rw [tabF_length] at hj
  rw [← getD_lt (d := 0) (by rw [tabF_length]; exact hj), tabF_get hj]
  have := tval_bnd h (atF j) (atF_bnd (by omega) (by omega))
  have := h.k
  omega
theorem p72 {bs : List BinT} {i : Int} {Q : List Int → Prop} (h : f72_wp (bs, i, ()) () Q) : V72 bs i Q := by
  obtain ⟨⟨hb, h0, h1⟩, h⟩ := h
  have hb : Bins0 bs := hb
  have h0 : 0 ≤ i := h0
  have h1 : i ≤ bs.length := h1
  have hk100 := hb.k
  obtain ⟨i0, rfl⟩ := Int.eq_ofNat_of_zero_le h0
  rw [Int.toNat_natCast] at h
  have h : Q (tabF (bs.drop i0)) := h
  have rep : (List.replicate (Int.toNat 625) (0 : Int)).length = 625 := by rw [List.length_replicate]; rfl
  have rget : ∀ n, (List.replicate (Int.toNat 625) (0 : Int)).getD n 0 = 0 := fun n => by
    rw [List.getD_eq_getElem?_getD, List.getElem?_replicate]; split <;> rfl
  refine ⟨rfl, by omega, by omega, fun x l => ∃ k : Nat, (1 ≤ k ∧ k ≤ 625) ∧ x = k ∧ l.length = 625 ∧ ∀ n, n < 625 → l.getD n 0 = if n = 0 then 0 else if n < k then -1 else 0, fun x _ => (625 - x).toNat, ⟨1, by omega, rfl, rep, fun n hn => ?_⟩, ?_⟩
  · rw [rget]
    split
    · rfl
    · split <;> omega
  rintro x l ⟨k, hk, rfl, hl, hget⟩
  refine cnd_iff.2 ⟨fun h2 => ?_, fun h2 hlen => ?_⟩
  · have h2 : (k : Int) < 625 := of_decide_eq_true h2
    have hw : IntKind.wrap .i64 ((k : Int) + 1) = k + 1 := wrapS (by omega) (by omega)
    refine ⟨by omega, by omega, ?_⟩
    rw [hw]
    refine ⟨⟨k + 1, by omega, by push_cast; rfl, by simp [hl], fun n hn => ?_⟩, by show (625 - ((k : Int) + 1)).toNat < (625 - (k : Int)).toNat; omega⟩
    rw [Int.toNat_natCast, getD_set (by omega)]
    split
    · rename_i e; subst e
      rw [if_neg (by omega), if_pos (by omega)]
    · rename_i e
      rw [hget n hn]
      split
      · rfl
      · by_cases h3 : n < k
        · rw [if_pos h3, if_pos (by omega)]
        · rw [if_neg h3, if_neg (by omega)]
  have h2 : ¬ (k : Int) < 625 := of_decide_eq_false h2
  have hk5 : k = 625 := by omega
  subst hk5
  have el : l = tabF [] := by
    refine list_ext' 0 (by rw [hl, tabF_length]) fun n hn => ?_
    rw [hl] at hn
    rw [hget n hn, tabF_get hn]
    unfold tval
    have e : GX.Fa.isNo (atF n) = decide (n = 0) := by
      rw [Bool.eq_iff_iff]
      simp only [GX.Fa.isNo, atF, Bool.and_eq_true, beq_iff_eq, decide_eq_true_eq]
      omega
    rw [e]
    by_cases h3 : n = 0
    · simp [h3]
    · simp [h3, hn]
  subst el
  refine ⟨fun x l => ∃ m : Nat, (i0 ≤ m ∧ m ≤ bs.length) ∧ x = (m : Int) - 1 ∧ l = tabF (bs.drop m), fun x _ => (x + 1).toNat, ⟨bs.length, by omega, wrapS (by omega) (by omega), by rw [List.drop_length]⟩, ?_⟩
  rintro x l ⟨m, hm, rfl, rfl⟩
  refine cnd_iff.2 ⟨fun h3 => ?_, fun h3 => ?_⟩
  · have h3 : (m : Int) - 1 ≥ i0 := of_decide_eq_true h3
    obtain ⟨q, rfl⟩ : ∃ q, m = q + 1 := ⟨m - 1, by omega⟩
    have hq : q < bs.length := by omega
    have ex : ((q + 1 : Nat) : Int) - 1 = q := by push_cast; omega
    obtain ⟨b, hbb⟩ : ∃ b : BinT, b = bs.getD q ((0, 0, 0, 0), (0, 0, 0, 0), 0, 0) := ⟨_, rfl⟩
    have hd : bs.drop q = b :: bs.drop (q + 1) := by rw [List.drop_eq_getElem_cons hq, hbb, getD_lt hq]
    have hB := hb.drop q
    rw [hd] at hB
    obtain ⟨hb1, _, hr1⟩ := hB.cons
    refine ⟨rfl, by omega, by omega, fun x l => ∃ k : Nat, k ≤ 625 ∧ x = k ∧ l.length = 625 ∧ ∀ n, n < k → l.getD n 0 = tval (bs.drop q) (atF n), fun x _ => (625 - x).toNat, ⟨0, by omega, rfl, rep, fun n hn => absurd hn (Nat.not_lt_zero _)⟩, ?_⟩
    rintro x l ⟨k, hk, rfl, hl, hget⟩
    refine cnd_iff.2 ⟨fun h4 => ?_, fun h4 => ?_⟩
    · have h4 : (k : Int) < 625 := of_decide_eq_true h4
      have hw : IntKind.wrap .i64 ((k : Int) + 1) = k + 1 := wrapS (by omega) (by omega)
      have h5 : F5 (atF k) := atF_bnd (by omega) (by omega)
      refine ⟨by omega, by omega, atF k, ⟨⟨by omega, h4⟩, rfl⟩, _, ⟨⟨?_, tab_big hr1, h5⟩, rfl⟩, by omega, by omega, ?_⟩
      · show BOK (bs.getD (((q + 1 : Nat) : Int) - 1).toNat _)
        rw [ex, Int.toNat_natCast, ← hbb]; exact hb1
      · rw [hw]
        refine ⟨⟨k + 1, by omega, by push_cast; rfl, by simp [hl], fun n hn => ?_⟩, by show (625 - ((k : Int) + 1)).toNat < (625 - (k : Int)).toNat; omega⟩
        rw [Int.toNat_natCast, getD_set (by omega)]
        split
        · rename_i e; subst e
          show lstR (bs.getD (((q + 1 : Nat) : Int) - 1).toNat _) _ _ = _
          rw [ex, Int.toNat_natCast, ← hbb, hd]
          show _ = lstR b (tval (bs.drop (q + 1))) (atF n)
          exact lstR_congr (fun g hg => tabF_idx hg) h5
        · exact hget n (by omega)
    · have h4 : ¬ (k : Int) < 625 := of_decide_eq_false h4
      have hk5 : k = 625 := by omega
      subst hk5
      have el : l = tabF (bs.drop q) := list_ext' 0 (by rw [hl, tabF_length]) fun n hn => by rw [hl] at hn; rw [hget n hn, tabF_get hn]
      have hw : IntKind.wrap .i64 (((q + 1 : Nat) : Int) - 1 - 1) = (q : Int) - 1 := by rw [wrapS (by omega) (by omega)]; omega
      rw [hw]
      exact ⟨⟨q, by omega, rfl, el⟩, by show ((q : Int) - 1 + 1).toNat < (((q + 1 : Nat) : Int) - 1 + 1).toNat; omega⟩
  · have h3 : ¬ (m : Int) - 1 ≥ i0 := of_decide_eq_false h3
    have : m = i0 := by omega
    subst this
    exact h
theorem p27 {f : List Spring} {Q : FansT → Prop} (h : f27_wp f () Q) : V27 f Q := by
  obtain ⟨hn, h⟩ := h
  refine forUpL (σ := FansT) (n := f.length) (fun k => tup4 fun i => if i < k then (f.getD i ((0, 0), 0, 0)).2.1 else 0) rfl (fun k hk I μ hI hw => ?_) h
  refine ⟨by omega, by omega, by omega, by omega, ?_⟩
  rw [hw]
  show I _ (set4 (tup4 fun i => if i < k then (f.getD i ((0, 0), 0, 0)).2.1 else 0) k (f.getD k ((0, 0), 0, 0)).2.1) ∧ μ _ (set4 (tup4 fun i => if i < k then (f.getD i ((0, 0), 0, 0)).2.1 else 0) k (f.getD k ((0, 0), 0, 0)).2.1) < _
  rw [set4_tup (fun i => (f.getD i ((0, 0), 0, 0)).2.1) (by omega)]
  exact hI
theorem p26 {f : List Spring} {m : Bool} {Q : FansT → Prop} (h : f26_wp (f, m, ()) () Q) : V26 f m Q := by
  obtain ⟨hn, h⟩ := h
  have hn : f.length ≤ 4 := hn
  have h : Q (if m then cH f else cL f) := h
  obtain ⟨g, hg⟩ : ∃ g : Nat → Int, g = fun i => if m then (f.getD i ((0, 0), 0, 0)).1.2 else (f.getD i ((0, 0), 0, 0)).1.1 := ⟨_, rfl⟩
  refine forUpL (σ := FansT) (n := f.length) (fun k => tup4 fun i => if i < k then g i else 0) rfl (fun k hk I μ hI hw => ?_) ?_
  · have e := set4_tup g (k := k) (by omega)
    refine ⟨by omega, by omega, by omega, by omega, ?_⟩
    rw [hw]
    show cnd m (_ ∧ _ ∧ _ ∧ _ ∧ I _ (set4 (set4 _ k (f.getD k ((0, 0), 0, 0)).1.1) k (f.getD k ((0, 0), 0, 0)).1.2) ∧ μ _ (set4 (set4 _ k (f.getD k ((0, 0), 0, 0)).1.1) k (f.getD k ((0, 0), 0, 0)).1.2) < _) (I _ (set4 _ k (f.getD k ((0, 0), 0, 0)).1.1) ∧ μ _ (set4 _ k (f.getD k ((0, 0), 0, 0)).1.1) < _)
    rw [set4_set4 _ _ _ (by omega)]
    cases m with
    | true =>
      refine ⟨by omega, by omega, by omega, by omega, ?_⟩
      have eg : g k = (f.getD k ((0, 0), 0, 0)).1.2 := by rw [hg]; rfl
      rw [← eg, e]; exact hI
    | false =>
      have eg : g k = (f.getD k ((0, 0), 0, 0)).1.1 := by rw [hg]; rfl
      show I _ (set4 _ k (f.getD k ((0, 0), 0, 0)).1.1) ∧ μ _ (set4 _ k (f.getD k ((0, 0), 0, 0)).1.1) < _
      rw [← eg, e]; exact hI
  · show Q (tup4 fun i => if i < f.length then g i else 0)
    rw [hg]
    cases m with
    | true => exact h
    | false => exact h
theorem p25 {ls : List Int} {seam : Int} {c : FansT} {e i : Int} {Q : List BinT → Prop} (h : f25_wp (ls, seam, c, e, i, ()) () Q) : V25 ls seam c e i Q := by
  obtain ⟨⟨hn, hl, hs, hc⟩, h⟩ := h
  have hn : ls.length ≤ 500 := hn
  have hl : ∀ l, l ∈ ls → bnd 400 l := hl
  have hs : bnd 400 seam := hs
  have hc : all4 (bnd 400) c := hc
  refine forUpL (σ := List BinT) (n := ls.length) (fun k => leavesR (ls.take k) seam c e i) rfl (fun k hk I μ hI hw => ?_) ?_
  · have hg := hl _ (getD_mem (d := 0) hk)
    have e1 : IntKind.wrap .i64 (ls.getD k 0 + seam) = ls.getD k 0 + seam := wrapS (by have := hg.1; have := hs.1; omega) (by have := hg.2; have := hs.2; omega)
    refine ⟨by omega, by omega, ?_⟩
    refine for4 (σ := BinT) (fun m => (tup4 fun j => if j < m then at4 c j + seam else 0, tup4 fun j => if j < m then e else 0, ls.getD k 0 + seam, i)) (by show (_, _, IntKind.wrap .i64 (ls.getD k 0 + seam), i) = _; rw [e1]; rfl) (fun m hm I μ hI hw => ?_) ?_
    · refine ⟨by omega, by omega, by omega, by omega, by omega, by omega, ?_⟩
      rw [hw]
      have hcm := all4_at hc hm
      have e2 : IntKind.wrap .i64 (at4L c m + seam) = at4 c m + seam := by
        rw [at4_L _ hm]
        exact wrapS (by have := hcm.1; have := hs.1; omega) (by have := hcm.2; have := hs.2; omega)
      have e3 := set4_tup (fun j => at4 c j + seam) hm
      have e4 := set4_tup (fun _ => e) hm
      show I _ (set4 _ m (IntKind.wrap .i64 (at4L c m + seam)), set4 _ m e, _, i) ∧ μ _ (set4 _ m (IntKind.wrap .i64 (at4L c m + seam)), set4 _ m e, _, i) < _
      rw [e2]
      simp only at e3 e4 ⊢
      rw [e3, e4]
      exact hI
    · refine ⟨?_, ?_⟩
      · simp only [leavesR, List.length_map, List.length_take, List.length_cons, List.length_nil]
        omega
      · rw [hw]
        have e2 : leavesR (ls.take (k + 1)) seam c e i = _ := take_map_succ _ ls hk 0
        rw [e2] at hI
        exact hI
  · show Q (leavesR (ls.take ls.length) seam c e i)
    rw [List.take_length]
    exact h
theorem p30 {ls : List Lot} {f : List Spring} {c : FansT} {Q : List BinT → Prop} (h : f30_wp (ls, f, c, ()) () Q) : V30 ls f c Q := by
  obtain ⟨⟨hn, hf4, hl, hsp, hc⟩, h⟩ := h
  have hn : ls.length ≤ 500 := hn
  have hf4 : f.length ≤ 4 := hf4
  have hl : ∀ l, l ∈ ls → bnd 400 l.1 ∧ bnd 400 l.2 := hl
  have hsp : ∀ s, s ∈ f → bnd 400 s.2.2 := hsp
  have hc : all4 (bnd 400) c := hc
  refine forUpL (σ := List BinT) (n := ls.length) (fun k => lotsR (ls.take k) f c) rfl (fun k hk I μ hI hw => ?_) ?_
  · obtain ⟨lot, hlot⟩ : ∃ lot, lot = ls.getD k (0, 0) := ⟨_, rfl⟩
    obtain ⟨T, hT⟩ : ∃ T : Nat → Int, T = fun j => if (f.getD j ((0, 0), 0, 0)).2.2 > lot.1 then 1000 else at4 c j := ⟨_, rfl⟩
    obtain ⟨L, hL⟩ : ∃ L : Nat → Int, L = fun j => if (f.getD j ((0, 0), 0, 0)).2.2 > lot.1 then 0 else at4 c j * (lot.1 - (f.getD j ((0, 0), 0, 0)).2.2) := ⟨_, rfl⟩
    have hlt := hl _ (getD_mem (d := (0, 0)) hk)
    rw [← hlot] at hlt
    refine ⟨by omega, by omega, ?_⟩
    refine forUpL (σ := BinT) (n := f.length) (fun m => (tup4 fun j => if j < m then T j else 0, tup4 fun j => if j < m then L j else 0, lot.2, 0)) (by rw [hlot]; rfl) (fun m hm I μ hI hw => ?_) ?_
    · have hm4 : m < 4 := by omega
      have hsm := hsp _ (getD_mem (d := ((0, 0), 0, 0)) hm)
      have hcm := all4_at hc hm4
      obtain ⟨w, hwd⟩ : ∃ w, w = (f.getD m ((0, 0), 0, 0)).2.2 := ⟨_, rfl⟩
      rw [← hwd] at hsm
      have e1 : IntKind.wrap .i64 (at4L c m * IntKind.wrap .i64 (lot.1 - w)) = at4 c m * (lot.1 - w) := by
        rw [at4_L _ hm4]
        have hd : bnd 800 (lot.1 - w) := ⟨by have := hlt.1.1; have := hsm.2; omega, by have := hlt.1.2; have := hsm.1; omega⟩
        rw [wrapS (x := lot.1 - _) (by have := hd.1; omega) (by have := hd.2; omega)]
        have := bnd_mul (by omega) hcm hd
        exact wrapS (by have := this.1; omega) (by have := this.2; omega)
      have eL := set4_tup L hm4
      have eT := set4_tup T hm4
      refine ⟨by omega, by omega, by omega, by omega, by omega, by omega, by omega, by omega, by omega, by omega, by omega, by omega, by omega, by omega, by omega, by omega, ?_⟩
      rw [hw]
      show cnd (decide ((f.getD m ((0, 0), 0, 0)).2.2 > (ls.getD k (0, 0)).1))
        (_ ∧ _ ∧ _ ∧ _ ∧ I _ (set4 (set4 _ m (at4L c m)) m 1000, set4 (set4 _ m (IntKind.wrap .i64 (at4L c m * IntKind.wrap .i64 ((ls.getD k (0, 0)).1 - (f.getD m ((0, 0), 0, 0)).2.2)))) m 0, lot.2, 0) ∧ μ _ (set4 (set4 _ m (at4L c m)) m 1000, set4 (set4 _ m (IntKind.wrap .i64 (at4L c m * IntKind.wrap .i64 ((ls.getD k (0, 0)).1 - (f.getD m ((0, 0), 0, 0)).2.2)))) m 0, lot.2, 0) < _)
        (I _ (set4 _ m (at4L c m), set4 _ m (IntKind.wrap .i64 (at4L c m * IntKind.wrap .i64 ((ls.getD k (0, 0)).1 - (f.getD m ((0, 0), 0, 0)).2.2))), lot.2, 0) ∧ μ _ (set4 _ m (at4L c m), set4 _ m (IntKind.wrap .i64 (at4L c m * IntKind.wrap .i64 ((ls.getD k (0, 0)).1 - (f.getD m ((0, 0), 0, 0)).2.2))), lot.2, 0) < _)
      rw [← hlot, ← hwd, set4_set4 _ _ _ hm4, set4_set4 _ _ _ hm4, e1]
      refine cnd_iff.2 ⟨fun h1 => ⟨by omega, by omega, by omega, by omega, ?_⟩, fun h1 => ?_⟩
      · have t1 : T m = 1000 := by rw [hT, hwd] at *; exact if_pos (of_decide_eq_true h1)
        have l1 : L m = 0 := by rw [hL, hwd] at *; exact if_pos (of_decide_eq_true h1)
        rw [t1] at eT; rw [l1] at eL
        show I _ (set4 _ m _, set4 _ m _, lot.2, 0) ∧ μ _ (set4 _ m _, set4 _ m _, lot.2, 0) < _
        rw [eT, eL]; exact hI
      · have t1 : T m = at4L c m := by rw [at4_L _ hm4]; rw [hT, hwd] at *; exact if_neg (of_decide_eq_false h1)
        have l1 : L m = at4 c m * (lot.1 - w) := by rw [hL, hwd] at *; exact if_neg (of_decide_eq_false h1)
        rw [t1] at eT; rw [l1] at eL
        show I _ (set4 _ m _, set4 _ m _, lot.2, 0) ∧ μ _ (set4 _ m _, set4 _ m _, lot.2, 0) < _
        rw [eT, eL]; exact hI
    · refine ⟨?_, ?_⟩
      · simp only [lotsR, List.length_map, List.length_take, List.length_cons, List.length_nil]
        omega
      · rw [hw]
        have e2 : lotsR (ls.take (k + 1)) f c = _ := take_map_succ _ ls hk (0, 0)
        rw [e2] at hI
        have e3 : lotR f c (ls.getD k (0, 0)) = (tup4 fun j => if j < f.length then T j else 0, tup4 fun j => if j < f.length then L j else 0, lot.2, 0) := by
          rw [hT, hL, ← hlot]; rfl
        rw [e3] at hI
        exact hI
  · show Q (lotsR (ls.take ls.length) f c)
    rw [List.take_length]
    exact h
end Go.Proofs.Fa
set_option linter.unusedVariables false
namespace Go.Proofs.Fa
open Go Go.GX Go.Proofs

theorem cmpI3_self (a : Int) : cmpI3 a a = 0 := by simp [cmpI3]
theorem cmpI3_zero {a b : Int} (h : cmpI3 a b = 0) : a = b := by
  unfold cmpI3 at h
  split at h
  · cases h
  · split at h
    · cases h
    · omega
theorem cmpI3_neg (a b : Int) : cmpI3 b a = - cmpI3 a b := by
  unfold cmpI3
  by_cases h1 : a < b
  · have h2 : ¬ b < a := by omega
    simp [h1, h2]
  · by_cases h2 : b < a
    · simp [h1, h2]
    · simp [h1, h2]
theorem cmpI3_lt {a b : Int} : cmpI3 a b < 0 ↔ a < b := by
  unfold cmpI3
  split
  · simp; assumption
  · split <;> simp <;> omega
theorem cmpL_self : ∀ a : List Int, cmpL a a = 0
  | [] => rfl
  | a :: r => by rw [cmpL, if_neg (by rw [cmpI3_self]; simp)]; exact cmpL_self r
theorem cmpL_zero : ∀ {a b : List Int}, cmpL a b = 0 → a = b
  | [], [], _ => rfl
  | [], _ :: _, h => by cases h
  | _ :: _, [], h => by cases h
  | a :: r, b :: s, h => by
    rw [cmpL] at h
    split at h
    · rename_i hh; exact absurd h hh
    · rename_i hh
      have hh : cmpI3 a b = 0 := by simpa using hh
      rw [cmpI3_zero hh, cmpL_zero h]
theorem cmpL_neg : ∀ a b : List Int, cmpL b a = - cmpL a b
  | [], [] => rfl
  | [], _ :: _ => rfl
  | _ :: _, [] => rfl
  | a :: r, b :: s => by
    rw [cmpL, cmpL, cmpI3_neg a b]
    by_cases h : cmpI3 a b = 0
    · rw [h, if_neg (by simp), if_neg (by simp)]; exact cmpL_neg r s
    · rw [if_pos (by omega), if_pos h]
theorem cmpL_trans : ∀ {a b c : List Int}, cmpL a b < 0 → cmpL b c < 0 → cmpL a c < 0
  | [], [], _, h, _ => by cases h
  | [], _ :: _, [], _, h => by cases h
  | [], _ :: _, _ :: _, _, _ => by show (-1 : Int) < 0; decide
  | _ :: _, [], _, h, _ => by cases h
  | _ :: _, _ :: _, [], _, h => by cases h
  | a :: r, b :: s, c :: t, h1, h2 => by
    rw [cmpL] at h1 h2 ⊢
    by_cases e1 : cmpI3 a b = 0
    · rw [if_neg (by simp [e1])] at h1
      have := cmpI3_zero e1
      subst this
      by_cases e2 : cmpI3 a c = 0
      · rw [if_neg (by simp [e2])] at h2 ⊢
        exact cmpL_trans h1 h2
      · rw [if_pos e2] at h2 ⊢
        exact h2
    · rw [if_pos e1] at h1
      have l1 := cmpI3_lt.1 h1
      by_cases e2 : cmpI3 b c = 0
      · have := cmpI3_zero e2
        subst this
        rw [if_pos e1]; exact h1
      · rw [if_pos e2] at h2
        have l2 := cmpI3_lt.1 h2
        have l3 : cmpI3 a c < 0 := cmpI3_lt.2 (by omega)
        rw [if_pos (by omega)]; exact l3
theorem cmpL_pre : ∀ (b u v : List Int), cmpL (b ++ u) (b ++ v) = cmpL u v
  | [], u, v => rfl
  | a :: b, u, v => by
    rw [List.cons_append, List.cons_append, cmpL, if_neg (by rw [cmpI3_self]; simp)]
    exact cmpL_pre b u v

theorem at4_put {t : FansT} {k : Nat} {u : Int} {i : Nat} (hi : i < 4) : at4 (put4 t k u) i = if i = k then u else at4 t i := by
  unfold put4; rw [at4_tup _ hi]
theorem fan_ext {s t : FansT} (h : ∀ i, i < 4 → at4 s i = at4 t i) : s = t := by
  have h0 := h 0 (by omega)
  have h1 := h 1 (by omega)
  have h2 := h 2 (by omega)
  have h3 := h 3 (by omega)
  exact Prod.ext h0 (Prod.ext h1 (Prod.ext h2 h3))
theorem bump_at {t : FansT} {k : Int} (hk : 0 ≤ k ∧ k ≤ 3) {i : Nat} (hi : i < 4) : at4 (bump t k) i = at4 t i + if (i : Int) = k then 1 else 0 := by
  unfold bump
  rw [at4_put hi]
  by_cases h : i = k.toNat
  · rw [if_pos h, if_pos (by omega), h]
  · rw [if_neg h, if_neg (by omega), Int.add_zero]
theorem num_fold {l : List Int} (hl : in4 l) : ∀ (t : FansT) {i : Nat}, i < 4 → at4 (l.foldl bump t) i = at4 t i + (l.count (i : Int) : Nat) := by
  induction l with
  | nil => intro t i hi; simp
  | cons a l ih =>
    intro t i hi
    rw [List.foldl_cons, ih (fun x hx => hl x (by simp [hx])) _ hi, bump_at (hl a (by simp)) hi, List.count_cons]
    by_cases h : (i : Int) = a
    · subst h; simp; omega
    · have h2 : ¬ a = (i : Int) := fun e => h e.symm
      simp [h, h2]
theorem num_at {l : List Int} (hl : in4 l) {i : Nat} (hi : i < 4) : at4 (numF l) i = (l.count (i : Int) : Nat) := by
  unfold numF
  rw [num_fold hl _ hi]
  have : at4 NO4 i = 0 := by
    match i, hi with
    | 0, _ => rfl
    | 1, _ => rfl
    | 2, _ => rfl
    | 3, _ => rfl
  omega
theorem numF_snoc (l : List Int) (k : Int) : numF (l ++ [k]) = bump (numF l) k := by unfold numF; rw [List.foldl_append]; rfl
theorem sumF_at (f : FansT) : sumF f = at4 f 0 + at4 f 1 + at4 f 2 + at4 f 3 := rfl
theorem num_sum {l : List Int} (hl : in4 l) : sumF (numF l) = (l.length : Nat) := by
  induction l with
  | nil => rfl
  | cons a l ih =>
    have ih := ih fun x hx => hl x (by simp [hx])
    have ha := hl a (by simp)
    have hl2 : in4 l := fun x hx => hl x (by simp [hx])
    rw [sumF_at] at ih ⊢
    rw [num_at hl2 (by omega), num_at hl2 (by omega), num_at hl2 (by omega), num_at hl2 (by omega)] at ih
    rw [num_at hl (by omega), num_at hl (by omega), num_at hl (by omega), num_at hl (by omega)]
    simp only [List.count_cons, List.length_cons]
    have h4 : a = 0 ∨ a = 1 ∨ a = 2 ∨ a = 3 := by omega
    rcases h4 with rfl | rfl | rfl | rfl <;> simp at ih ⊢ <;> omega
theorem asc_split (a : Int) : ∀ {l : List Int}, asc l → (∀ x, x ∈ l → a ≤ x) → ∃ l', l = List.replicate (l.count a) a ++ l' ∧ asc l' ∧ (∀ x, x ∈ l' → a + 1 ≤ x) ∧ (∀ b, b ≠ a → l'.count b = l.count b) ∧ ∀ x, x ∈ l' → x ∈ l
  | [], _, _ => ⟨[], by simp, List.Pairwise.nil, by simp, by simp, by simp⟩
  | x :: r, h, hx => by
    have h0 : (∀ y ∈ r, x ≤ y) ∧ asc r := List.pairwise_cons.1 h
    by_cases e : x = a
    · subst e
      obtain ⟨l', e1, e2, e3, e4, e5⟩ := asc_split x h0.2 (fun y hy => h0.1 y hy)
      refine ⟨l', ?_, e2, e3, fun b hb => ?_, fun y hy => List.mem_cons_of_mem _ (e5 y hy)⟩
      · rw [List.count_cons_self, List.replicate_succ, List.cons_append, ← e1]
      · rw [e4 b hb, List.count_cons_of_ne (Ne.symm hb)]
    · have hx1 := hx x (by simp)
      have hgt : ∀ y ∈ x :: r, a + 1 ≤ y := fun y hy => by
        rcases List.mem_cons.1 hy with rfl | hy
        · omega
        · have := h0.1 y hy; omega
      refine ⟨x :: r, ?_, h, hgt, fun b _ => rfl, fun y hy => hy⟩
      have : (x :: r).count a = 0 := List.count_eq_zero.2 fun hm => by have := hgt a hm; omega
      rw [this]; rfl
theorem listF_num {l : List Int} (ha : asc l) (hl : in4 l) : l = listF (numF l) := by
  obtain ⟨l1, a1, a2, a3, a4, a5⟩ := asc_split 0 ha fun x hx => (hl x hx).1
  obtain ⟨l2, b1, b2, b3, b4, b5⟩ := asc_split 1 a2 a3
  obtain ⟨l3, c1, c2, c3, c4, c5⟩ := asc_split 2 b2 b3
  obtain ⟨l4, d1, d2, d3, d4, d5⟩ := asc_split 3 c2 c3
  have e4 : l4 = [] := by
    cases l4 with
    | nil => rfl
    | cons y r =>
      have g1 := d3 y (by simp)
      have g2 := (hl y (a5 y (b5 y (c5 y (d5 y (by simp)))))).2
      omega
  have n0 : (numF l).1 = (l.count 0 : Nat) := num_at hl (i := 0) (by omega)
  have n1 : (numF l).2.1 = (l.count 1 : Nat) := num_at hl (i := 1) (by omega)
  have n2 : (numF l).2.2.1 = (l.count 2 : Nat) := num_at hl (i := 2) (by omega)
  have n3 : (numF l).2.2.2 = (l.count 3 : Nat) := num_at hl (i := 3) (by omega)
  have q1 : l1.count 1 = l.count 1 := a4 1 (by omega)
  have q2 : l2.count 2 = l.count 2 := (b4 2 (by omega)).trans (a4 2 (by omega))
  have q3 : l3.count 3 = l.count 3 := (c4 3 (by omega)).trans ((b4 3 (by omega)).trans (a4 3 (by omega)))
  unfold listF
  rw [n0, n1, n2, n3]
  simp only [Int.toNat_natCast]
  rw [e4, List.append_nil] at d1
  rw [q1] at b1
  rw [q2] at c1
  rw [q3] at d1
  rw [← d1, List.append_assoc, List.append_assoc, ← c1, ← b1]
  exact a1
theorem listF_in4 (s : FansT) : in4 (listF s) := by
  intro x hx
  simp only [listF, List.mem_append, List.mem_replicate] at hx
  omega
theorem numF_list {s : FansT} (hs : FOK s) : numF (listF s) = s := by
  refine fan_ext fun i hi => ?_
  rw [num_at (listF_in4 s) hi]
  have h := all4_at hs hi
  unfold listF
  simp only [List.count_append, List.count_replicate]
  match i, hi with
  | 0, _ => have h : 0 ≤ s.1 ∧ s.1 ≤ 1000 := h; show _ = s.1; simp; omega
  | 1, _ => have h : 0 ≤ s.2.1 ∧ s.2.1 ≤ 1000 := h; show _ = s.2.1; simp; omega
  | 2, _ => have h : 0 ≤ s.2.2.1 ∧ s.2.2.1 ≤ 1000 := h; show _ = s.2.2.1; simp; omega
  | 3, _ => have h : 0 ≤ s.2.2.2 ∧ s.2.2.2 ≤ 1000 := h; show _ = s.2.2.2; simp; omega
theorem listF_asc (s : FansT) : asc (listF s) := by
  unfold asc listF
  simp only [List.pairwise_append, List.pairwise_replicate, List.mem_append, List.mem_replicate]
  refine ⟨⟨⟨by simp, by simp, ?_⟩, by simp, ?_⟩, by simp, ?_⟩ <;> intro a ha b hb <;> omega

theorem fromL_le {b : List Int} (ha : asc b) (hb : in4 b) : 0 ≤ fromL b ∧ fromL b ≤ 3 ∧ ∀ x, x ∈ b → x ≤ fromL b := by
  unfold fromL
  by_cases h : b.length > 0
  · rw [if_pos h]
    have hm : b.getD (b.length - 1) 0 ∈ b := getD_mem (by omega)
    refine ⟨(hb _ hm).1, (hb _ hm).2, fun x hx => ?_⟩
    obtain ⟨j, hj, rfl⟩ := List.mem_iff_getElem.1 hx
    rw [getD_lt (by omega)]
    by_cases e : j = b.length - 1
    · subst e; exact Int.le_refl _
    · exact (List.pairwise_iff_getElem.1 ha) j (b.length - 1) hj (by omega) (by omega)
  · rw [if_neg h]
    have : b = [] := by cases b with | nil => rfl | cons a r => simp at h
    subst this
    exact ⟨by omega, by omega, by simp⟩
theorem asc_snoc {b : List Int} (ha : asc b) (hb : in4 b) {k : Int} (hk : fromL b ≤ k) : asc (b ++ [k]) := by
  unfold asc
  rw [List.pairwise_append]
  refine ⟨ha, by simp, fun x hx y hy => ?_⟩
  rw [List.mem_singleton] at hy
  subst hy
  have := (fromL_le ha hb).2.2 x hx
  omega
theorem in4_snoc {b : List Int} (hb : in4 b) {k : Int} (h0 : 0 ≤ k) (h3 : k ≤ 3) : in4 (b ++ [k]) := fun x hx => by
  rcases List.mem_append.1 hx with h | h
  · exact hb x h
  · rw [List.mem_singleton] at h; subst h; exact ⟨h0, h3⟩

def nextL (n : Nat) (b : List Int) (f : FansT) (j : Nat) : List (List Int) := if at4 (numF b) ((fromL b).toNat + j) < at4 f ((fromL b).toNat + j) then listsF n (b ++ [(((fromL b).toNat + j : Nat) : Int)]) f else []
theorem listsF_succ (n : Nat) (b : List Int) (f : FansT) : listsF (n + 1) b f = b :: (List.range (4 - (fromL b).toNat)).flatMap (nextL n b f) := rfl
theorem lists_sound {f : FansT} : ∀ {n : Nat} {b l : List Int}, asc b → in4 b → (∀ i, i < 4 → at4 (numF b) i ≤ at4 f i) → l ∈ listsF n b f → b <+: l ∧ asc l ∧ in4 l ∧ ∀ i, i < 4 → at4 (numF l) i ≤ at4 f i
  | 0, b, l, _, _, _, h => by simp [listsF] at h
  | n + 1, b, l, ha, hb, hc, h => by
    rw [listsF_succ] at h
    rcases List.mem_cons.1 h with rfl | h
    · exact ⟨List.prefix_refl _, ha, hb, hc⟩
    · obtain ⟨j, hj, h⟩ := List.mem_flatMap.1 h
      have hj := List.mem_range.1 hj
      have hfr := fromL_le ha hb
      unfold nextL at h
      split at h
      · rename_i hlt
        have hb2 := in4_snoc hb (k := (((fromL b).toNat + j : Nat) : Int)) (by omega) (by omega)
        obtain ⟨g1, g2, g3, g4⟩ := lists_sound (asc_snoc ha hb (by omega)) hb2 (fun i hi => by
          rw [numF_snoc, bump_at (by omega) hi]
          have := hc i hi
          split
          · rename_i e
            have : i = (fromL b).toNat + j := by omega
            subst this; omega
          · omega) h
        exact ⟨(List.prefix_append _ _).trans g1, g2, g3, g4⟩
      · simp at h
theorem lists_complete {f : FansT} : ∀ {n : Nat} {b l : List Int}, asc l → in4 l → (∀ i, i < 4 → at4 (numF l) i ≤ at4 f i) → b <+: l → l.length < b.length + n → l ∈ listsF n b f
  | 0, b, l, _, _, _, hp, h => by have := hp.length_le; omega
  | n + 1, b, l, ha, hl, hc, hp, h => by
    rw [listsF_succ]
    obtain ⟨t, rfl⟩ := hp
    cases t with
    | nil => simp
    | cons k t =>
      refine List.mem_cons_of_mem _ (List.mem_flatMap.2 ?_)
      have hb : in4 b := fun x hx => hl x (by simp [hx])
      have hab : asc b := (List.pairwise_append.1 ha).1
      have hk := hl k (by simp)
      have hfk : fromL b ≤ k := by
        unfold fromL
        by_cases h0 : b.length > 0
        · rw [if_pos h0]
          exact (List.pairwise_append.1 ha).2.2 _ (getD_mem (by omega)) k (by simp)
        · rw [if_neg h0]; exact hk.1
      have hf0 := (fromL_le hab hb).1
      refine ⟨(k - fromL b).toNat, List.mem_range.2 (by omega), ?_⟩
      have ek : (((fromL b).toNat + (k - fromL b).toNat : Nat) : Int) = k := by omega
      have ei : (fromL b).toNat + (k - fromL b).toNat = k.toNat := by omega
      unfold nextL
      rw [ek, ei]
      have hcnt : at4 (numF b) k.toNat < at4 f k.toNat := by
        have := hc k.toNat (by omega)
        rw [num_at hl (by omega)] at this
        rw [num_at hb (by omega)]
        have e2 : ((k.toNat : Nat) : Int) = k := by omega
        rw [e2] at this ⊢
        rw [List.count_append, List.count_cons_self] at this
        omega
      rw [if_pos hcnt]
      have e3 : b ++ k :: t = (b ++ [k]) ++ t := by simp
      rw [e3] at ha hl hc h ⊢
      exact lists_complete ha hl hc (List.prefix_append _ _) (by simp at h ⊢; omega)
theorem lists_order {f : FansT} : ∀ (n : Nat) (b : List Int), asc b → in4 b → (∀ i, i < 4 → at4 (numF b) i ≤ at4 f i) → (listsF n b f).Pairwise fun x y => cmpL x y < 0
  | 0, b, _, _, _ => by simp [listsF]
  | n + 1, b, ha, hb, hc => by
    have hfr := fromL_le ha hb
    have hpre : ∀ {j : Nat} {l : List Int}, j < 4 - (fromL b).toNat → l ∈ nextL n b f j → ∃ t, l = b ++ (((fromL b).toNat + j : Nat) : Int) :: t := fun {j l} hj h => by
      unfold nextL at h
      split at h
      · rename_i hlt
        obtain ⟨⟨t, ht⟩, _⟩ := lists_sound (asc_snoc ha hb (by omega)) (in4_snoc hb (by omega) (by omega)) (fun i hi => by
          rw [numF_snoc, bump_at (by omega) hi]
          have := hc i hi
          split
          · rename_i e
            have : i = (fromL b).toNat + j := by omega
            subst this; omega
          · omega) h
        exact ⟨t, by rw [← ht]; simp⟩
      · simp at h
    rw [listsF_succ, List.pairwise_cons]
    refine ⟨fun y hy => ?_, ?_⟩
    · obtain ⟨j, hj, h⟩ := List.mem_flatMap.1 hy
      obtain ⟨t, rfl⟩ := hpre (List.mem_range.1 hj) h
      have := cmpL_pre b [] ((((fromL b).toNat + j : Nat) : Int) :: t)
      rw [List.append_nil] at this
      rw [this]; show (-1 : Int) < 0; decide
    · have key : ∀ m : Nat, m ≤ 4 - (fromL b).toNat → ((List.range m).flatMap (nextL n b f)).Pairwise fun x y => cmpL x y < 0 := by
        intro m
        induction m with
        | zero => intro _; simp
        | succ m ih =>
          intro hm
          rw [List.range_succ, List.flatMap_append, List.flatMap_singleton, List.pairwise_append]
          refine ⟨ih (by omega), ?_, fun x hx y hy => ?_⟩
          · unfold nextL
            split
            · rename_i hlt
              refine lists_order n _ (asc_snoc ha hb (by omega)) (in4_snoc hb (by omega) (by omega)) fun i hi => ?_
              rw [numF_snoc, bump_at (by omega) hi]
              have := hc i hi
              split
              · rename_i e
                have : i = (fromL b).toNat + m := by omega
                subst this; omega
              · omega
            · simp
          · obtain ⟨j, hj, h⟩ := List.mem_flatMap.1 hx
            have hj := List.mem_range.1 hj
            obtain ⟨t, rfl⟩ := hpre (by omega) h
            obtain ⟨u, rfl⟩ := hpre (by omega) hy
            rw [cmpL_pre, cmpL]
            have : cmpI3 (((fromL b).toNat + j : Nat) : Int) (((fromL b).toNat + m : Nat) : Int) < 0 := cmpI3_lt.2 (by omega)
            rw [if_pos (by omega)]; exact this
      exact key _ (Nat.le_refl _)
theorem allL_mem {f : FansT} (hf : F5 f) {l : List Int} : l ∈ allL f ↔ ∃ s, le4 s f ∧ l = listF s := by
  have h0 : ∀ i, i < 4 → at4 (numF []) i ≤ at4 f i := fun i hi => by
    have : 0 ≤ at4 f i ∧ at4 f i ≤ 4 := all4_at hf hi
    rw [num_at (by intro x hx; simp at hx) hi]; simp; omega
  have le_of : ∀ {s : FansT}, (∀ i, i < 4 → 0 ≤ at4 s i ∧ at4 s i ≤ at4 f i) → le4 s f := fun {s} h => ⟨h 0 (by omega), h 1 (by omega), h 2 (by omega), h 3 (by omega)⟩
  unfold allL
  constructor
  · intro h
    obtain ⟨_, h1, h2, h3⟩ := lists_sound (b := []) List.Pairwise.nil (by intro x hx; simp at hx) h0 h
    refine ⟨numF l, le_of fun i hi => ⟨?_, h3 i hi⟩, listF_num h1 h2⟩
    rw [num_at h2 hi]; omega
  · rintro ⟨s, hs, rfl⟩
    have hsf := hs.fok hf.fok
    have e := numF_list hsf
    refine lists_complete (listF_asc s) (listF_in4 s) (fun i hi => ?_) (List.nil_prefix) ?_
    · rw [e]
      obtain ⟨⟨a1, a2⟩, ⟨b1, b2⟩, ⟨c1, c2⟩, ⟨d1, d2⟩⟩ := hs
      match i, hi with
      | 0, _ => exact a2
      | 1, _ => exact b2
      | 2, _ => exact c2
      | 3, _ => exact d2
    · have h4 := num_sum (listF_in4 s)
      rw [e] at h4
      obtain ⟨⟨a1, a2⟩, ⟨b1, b2⟩, ⟨c1, c2⟩, ⟨d1, d2⟩⟩ := hs
      unfold sumF at h4 ⊢
      simp only [List.length_nil]
      omega
theorem allL_order {f : FansT} (hf : F5 f) : (allL f).Pairwise fun x y => cmpL x y < 0 := lists_order _ _ List.Pairwise.nil (by intro x hx; simp at hx) fun i hi => by
  have : 0 ≤ at4 f i ∧ at4 f i ≤ 4 := all4_at hf hi
  rw [num_at (by intro x hx; simp at hx) hi]; simp; omega
end Go.Proofs.Fa
set_option linter.unusedVariables false
namespace Go.Proofs.Fa
open Go Go.GX Go.Proofs

theorem le00 : (0 : Int) ≤ 0 := Int.le_refl 0
theorem lenI {α : Type} (l : List α) : (0 : Int) ≤ (l.length : Nat) := Int.natCast_nonneg _
theorem VOK.n500 {s : Store} {f : List Spring} (v : VOK s f) : s.1.length ≤ 500 := by have := v.n6; omega
theorem VOK.m500 {s : Store} {f : List Spring} (v : VOK s f) : s.2.2.length ≤ 500 := by have := v.n5; omega
theorem dot_const (s : FansT) (e : Int) : GX.Fa.dot s (tup4 fun _ => e) = sumF s * e := by
  show s.1 * e + s.2.1 * e + s.2.2.1 * e + s.2.2.2 * e = (s.1 + s.2.1 + s.2.2.1 + s.2.2.2) * e
  rw [Int.add_mul, Int.add_mul, Int.add_mul]
theorem isNo_sum {s : FansT} (h : all4 (fun x => 0 ≤ x ∧ x ≤ 4) s) : (GX.Fa.isNo s = true ∧ sumF s = 0) ∨ (GX.Fa.isNo s = false ∧ 1 ≤ sumF s) := by
  obtain ⟨⟨a1, a2⟩, ⟨b1, b2⟩, ⟨c1, c2⟩, ⟨d1, d2⟩⟩ := h
  by_cases g : sumF s = 0
  · refine .inl ⟨?_, g⟩
    unfold sumF at g
    simp only [GX.Fa.isNo, Bool.and_eq_true, beq_iff_eq]
    exact ⟨by omega, by omega, by omega, by omega⟩
  · refine .inr ⟨?_, ?_⟩
    · rw [Bool.eq_false_iff]
      intro hh
      simp only [GX.Fa.isNo, Bool.and_eq_true, beq_iff_eq] at hh
      unfold sumF at g
      omega
    · unfold sumF at g ⊢; omega
theorem leavesR_ok {ls : List Int} {seam : Int} {c : FansT} {each first : Int} (hn : ls.length ≤ 100) (hl : ∀ l, l ∈ ls → bnd 400 l) (hs : bnd 400 seam) (hc : all4 (bnd 400) c) (he : bnd 1000 each) (hf : bnd 1000 first) (h0 : 0 ≤ each) (h1 : 0 ≤ each + first) : Bins0 (leavesR ls seam c each first) := by
  refine ⟨⟨by simp only [leavesR, List.length_map]; omega, fun b hb => ?_⟩, fun b hb s hs5 _ => ?_, by simpa [leavesR] using hn⟩
  · simp only [leavesR, List.mem_map] at hb
    obtain ⟨p, hp, rfl⟩ := hb
    have hp := hl p hp
    refine ⟨all4_tup fun i hi => ?_, all4_tup fun i hi => ?_, ?_, ?_⟩
    · have := all4_at hc hi
      exact ⟨by have := this.1; have := hs.1; omega, by have := this.2; have := hs.2; omega⟩
    · exact ⟨by have := he.1; omega, by have := he.2; omega⟩
    · exact ⟨by show -1000000 ≤ p + seam; have := hp.1; have := hs.1; omega, by show p + seam ≤ 1000000; have := hp.2; have := hs.2; omega⟩
    · exact ⟨by show -1000000 ≤ first; have := hf.1; omega, by show first ≤ 1000000; have := hf.2; omega⟩
  · simp only [leavesR, List.mem_map] at hb
    obtain ⟨p, hp, rfl⟩ := hb
    show 0 ≤ GX.Fa.dot s (tup4 fun _ => each) + (if GX.Fa.isNo s then 0 else first)
    rw [dot_const]
    rcases isNo_sum hs5 with ⟨g1, g2⟩ | ⟨g1, g2⟩
    · rw [g1, g2, if_pos rfl]; omega
    · rw [g1, if_neg (by simp)]
      have := Int.mul_le_mul_of_nonneg_right g2 h0
      omega
theorem lotsR_ok {ls : List Lot} {f : List Spring} {c : FansT} (hn : ls.length ≤ 100) (hl : ∀ l, l ∈ ls → bnd 400 l.1 ∧ bnd 400 l.2) (hsp : ∀ s, s ∈ f → bnd 400 s.2.2) (hc : all4 (bnd 400) c) (h0 : all4 (fun x => 0 ≤ x) c) : Bins0 (lotsR ls f c) := by
  refine ⟨⟨by simp only [lotsR, List.length_map]; omega, fun b hb => ?_⟩, fun b hb s hs5 _ => ?_, by simpa [lotsR] using hn⟩
  · simp only [lotsR, List.mem_map] at hb
    obtain ⟨l, hl', rfl⟩ := hb
    have hl := hl l hl'
    refine ⟨all4_tup fun i hi => ?_, all4_tup fun i hi => ?_, ?_, ⟨by show -1000000 ≤ (0 : Int); omega, by show (0 : Int) ≤ 1000000; omega⟩⟩
    · have := all4_at hc hi
      split
      · split
        · exact ⟨by omega, by omega⟩
        · exact ⟨by have := this.1; omega, by have := this.2; omega⟩
      · exact ⟨by omega, by omega⟩
    · split
      · rename_i hlt
        split
        · exact ⟨by omega, by omega⟩
        · have h1 := all4_at hc hi
          have h2 := hsp _ (getD_mem (d := ((0, 0), 0, 0)) hlt)
          have h3 : bnd 800 (l.1 - (f.getD i ((0, 0), 0, 0)).2.2) := ⟨by have := hl.1.1; have := h2.2; omega, by have := hl.1.2; have := h2.1; omega⟩
          have h4 := bnd_mul (by omega) h1 h3
          exact ⟨by have := h4.1; omega, by have := h4.2; omega⟩
      · exact ⟨by omega, by omega⟩
    · exact ⟨by show -1000000 ≤ l.2; have := hl.2.1; omega, by show l.2 ≤ 1000000; have := hl.2.2; omega⟩
  · simp only [lotsR, List.mem_map] at hb
    obtain ⟨l, hl', rfl⟩ := hb
    have key : all4 (fun x => 0 ≤ x) (lotR f c l).2.1 := all4_tup fun i hi => by
      split
      · split
        · omega
        · rename_i hgt
          exact Int.mul_nonneg (all4_at h0 hi) (by omega)
      · omega
    have : 0 ≤ GX.Fa.dot s (lotR f c l).2.1 := by
      unfold GX.Fa.dot
      have g1 := Int.mul_nonneg hs5.1.1 key.1
      have g2 := Int.mul_nonneg hs5.2.1.1 key.2.1
      have g3 := Int.mul_nonneg hs5.2.2.1.1 key.2.2.1
      have g4 := Int.mul_nonneg hs5.2.2.2.1 key.2.2.2
      omega
    show 0 ≤ GX.Fa.dot s (lotR f c l).2.1 + (if GX.Fa.isNo s then 0 else 0)
    rw [ite_self]; omega
theorem cnt400 {c : FansT} (h : all4 (fun x => 0 ≤ x ∧ x ≤ 40) c) : all4 (bnd 400) c := all4_mono (fun x h => ⟨by omega, by omega⟩) h
theorem cnt0 {c : FansT} (h : all4 (fun x => 0 ≤ x ∧ x ≤ 40) c) : all4 (fun x => 0 ≤ x) c := all4_mono (fun x h => h.1) h
theorem VOK.lv4 {s : Store} {f : List Spring} (v : VOK s f) : ∀ l, l ∈ s.1 → bnd 400 l := fun l hl => by have := v.lv l hl; exact ⟨by omega, by omega⟩
theorem VOK.sm4 {s : Store} {f : List Spring} (v : VOK s f) : bnd 400 s.2.1 := by have := v.sm; exact ⟨by omega, by omega⟩
theorem VOK.lt4 {s : Store} {f : List Spring} (v : VOK s f) : ∀ l, l ∈ s.2.2 → bnd 400 l.1 ∧ bnd 400 l.2 := fun l hl => by have := v.lt l hl; exact ⟨⟨by omega, by omega⟩, ⟨by omega, by omega⟩⟩
theorem VOK.sp4 {s : Store} {f : List Spring} (v : VOK s f) : ∀ s, s ∈ f → bnd 400 s.2.2 := fun x hx => by have := v.sp x hx; exact ⟨by omega, by omega⟩
theorem VOK.lvR {s : Store} {f : List Spring} (v : VOK s f) {c : FansT} (hc : all4 (fun x => 0 ≤ x ∧ x ≤ 40) c) : Bins0 (lvR s c 0 0) :=
  leavesR_ok (by have := v.n6; omega) v.lv4 v.sm4 (cnt400 hc) ⟨by omega, by omega⟩ ⟨by omega, by omega⟩ (by omega) (by omega)
theorem VOK.lvS {s : Store} {f : List Spring} (v : VOK s f) {c : FansT} (hc : all4 (fun x => 0 ≤ x ∧ x ≤ 40) c) : Bins0 (Fa.lvR s c s.2.1 (-s.2.1)) :=
  leavesR_ok (by have := v.n6; omega) v.lv4 v.sm4 (cnt400 hc) (by have := v.sm; exact ⟨by omega, by omega⟩) (by have := v.sm; exact ⟨by omega, by omega⟩) v.sm.1 (by omega)
theorem VOK.ltR {s : Store} {f : List Spring} (v : VOK s f) {c : FansT} (hc : all4 (fun x => 0 ≤ x ∧ x ≤ 40) c) : Bins0 (ltR s f c) :=
  lotsR_ok (by have := v.n5; omega) v.lt4 v.sp4 (cnt400 hc) (cnt0 hc)
theorem tab_at {bs : List BinT} {n : FansT} (hn : F5 n) : (tabF (bs.drop (Int.toNat 0))).getD (idx5 n).toNat 0 = tval bs n := tabF_idx hn
theorem idx_tab {bs : List BinT} {n : FansT} (hn : F5 n) : idx5 n < ((tabF (bs.drop (Int.toNat 0))).length : Int) := by rw [tabF_length]; have := idx_bnd hn; omega

theorem p51 {s : Store} {f : List Spring} {c n : FansT} {Q : Bool → Prop} (h : f51_wp (s, f, c, n, ()) () Q) : V51 s f c n Q := by
  obtain ⟨⟨hc, hct, h5⟩, h⟩ := h
  have v : VOK s f := vok_of hc
  have hct : all4 (fun x => 0 ≤ x ∧ x ≤ 40) c := hct
  have h5 : F5 n := h5
  have h : Q (enR s f c n) := h
  have hi := idx_bnd h5
  refine ⟨_, ⟨⟨v.n500, v.lv4, v.sm4, cnt400 hct⟩, rfl⟩, _, ⟨⟨v.lvR hct, le00, lenI _⟩, rfl⟩, _, ⟨h5, rfl⟩, hi.1, idx_tab h5, ?_⟩
  show cnd (decide ((tabF ((Fa.lvR s c 0 0).drop (Int.toNat 0))).getD (idx5 n).toNat 0 ≥ 0)) _ _
  rw [tab_at h5]
  unfold enR at h
  refine cnd_iff.2 ⟨fun h1 => ?_, fun h1 => ?_⟩
  · refine ⟨_, ⟨⟨v.m500, v.f4, v.lt4, v.sp4, cnt400 hct⟩, rfl⟩, _, ⟨⟨v.ltR hct, le00, lenI _⟩, rfl⟩, _, ⟨h5, rfl⟩, hi.1, idx_tab h5, ?_⟩
    show Q (decide ((tabF ((Fa.ltR s f c).drop (Int.toNat 0))).getD (idx5 n).toNat 0 ≥ 0))
    rw [tab_at h5]
    have h1 : decide (0 ≤ tval (Fa.lvR s c 0 0) n) = true := h1
    rw [h1, Bool.true_and] at h
    exact h
  · have h1 : decide (0 ≤ tval (Fa.lvR s c 0 0) n) = false := h1
    rw [h1, Bool.false_and] at h
    exact h
theorem p40 {s : Store} {f : List Spring} {Q : Int × Int × Unit → Prop} (h : f40_wp (s, f, ()) () Q) : V40 s f Q := by
  obtain ⟨hc, h⟩ := h
  have v : VOK s f := vok_of hc
  have h : Q ((lossR s f).1, (lossR s f).2, ()) := h
  have h5 : F5 (wantF f) := v.want4
  have hi := idx_bnd h5
  have hsm := v.sm
  have e0 : IntKind.wrap .i64 (Int.sub 0 s.2.1) = - s.2.1 := by
    rw [show Int.sub 0 s.2.1 = 0 - s.2.1 from rfl, wrapS (by omega) (by omega)]; omega
  refine ⟨v.f4, v.f4, h5, ?_⟩
  rw [e0]
  refine ⟨_, ⟨⟨v.n500, v.lv4, v.sm4, cnt400 v.cH⟩, rfl⟩, _, ⟨⟨v.lvS v.cH, le00, lenI _⟩, rfl⟩, hi.1, idx_tab h5, ?_⟩
  refine ⟨_, ⟨⟨v.m500, v.f4, v.lt4, v.sp4, cnt400 v.cH⟩, rfl⟩, _, ⟨⟨v.ltR v.cH, le00, lenI _⟩, rfl⟩, hi.1, idx_tab h5, ?_⟩
  show Q ((tabF ((Fa.lvR s (cH f) s.2.1 (-s.2.1)).drop (Int.toNat 0))).getD (idx5 (wantF f)).toNat 0, (tabF ((Fa.ltR s f (cH f)).drop (Int.toNat 0))).getD (idx5 (wantF f)).toNat 0, ())
  rw [tab_at h5, tab_at h5]
  exact h
theorem put_40 {c : FansT} (h : all4 (fun x => 0 ≤ x ∧ x ≤ 40) c) {k : Nat} {u : Int} (hu : 0 ≤ u ∧ u ≤ 40) : all4 (fun x => 0 ≤ x ∧ x ≤ 40) (put4 c k u) := by
  unfold put4
  refine all4_tup fun i hi => ?_
  by_cases e : i = k
  · rw [if_pos e]; exact hu
  · rw [if_neg e]; exact all4_at h hi
theorem p42 {s : Store} {f : List Spring} {k : Int} {Q : Int → Prop} (h : f42_wp (s, f, k, ()) () Q) : V42 s f k Q := by
  obtain ⟨⟨hc, hk0, hk⟩, h⟩ := h
  have v : VOK s f := vok_of hc
  have hk0 : 0 ≤ k := hk0
  have hk : k < f.length := hk
  have h : Q (riseR s f k.toNat) := h
  have hf4 := v.f4
  refine ⟨fun x b => ∃ j : Nat, j ≤ 39 ∧ x = (j : Int) + 2 ∧ b = (List.range j).foldl (fun b (j : Nat) => if enR s f (put4 (cH f) k.toNat ((j : Int) + 2)) (wantF f) then (j : Int) + 2 else b) 0, fun x _ => (41 - x).toNat, ⟨0, by omega, rfl, rfl⟩, ?_⟩
  rintro x b ⟨j, hj, rfl, rfl⟩
  refine cnd_iff.2 ⟨fun h1 => ?_, fun h1 => ?_⟩
  · have h1 : (j : Int) + 2 ≤ 40 := of_decide_eq_true h1
    have hk4 : k.toNat < 4 := by omega
    refine ⟨hf4, hk0, by omega, _, ⟨hf4, rfl⟩, ?_⟩
    show ∃ r, (f51_wp (s, f, set4 (cH f) k.toNat ((j : Int) + 2), wantF f, ()) () fun r' => r' = r) ∧ _
    rw [set4_put _ _ hk4, wrapS (x := (j : Int) + 2 + 1) (by omega) (by omega)]
    refine ⟨_, ⟨⟨hc, put_40 v.cH (by omega), v.want4⟩, rfl⟩, ?_⟩
    refine cnd_iff.2 ⟨fun h2 => ⟨⟨j + 1, by omega, by omega, ?_⟩, by dsimp only; omega⟩, fun h2 => ⟨⟨j + 1, by omega, by omega, ?_⟩, by dsimp only; omega⟩⟩
    · rw [foldl_succ, if_pos h2]
    · rw [foldl_succ, if_neg (by rw [show enR s f (put4 (cH f) k.toNat ((j : Int) + 2)) (wantF f) = false from h2]; simp)]
  · have h1 : ¬ (j : Int) + 2 ≤ 40 := of_decide_eq_false h1
    have : j = 39 := by omega
    subst this
    exact h
theorem p33 {s : Store} {f : List Spring} {p : Int} {Q : Int → Prop} (h : f33_wp (s, f, p, ()) () Q) : V33 s f p Q := by
  obtain ⟨⟨hc, hp⟩, h⟩ := h
  have v : VOK s f := vok_of hc
  have hp : 1 ≤ p ∧ p ≤ 200 := inB_iff.1 hp
  have hn6 := v.n6
  obtain ⟨ok, hok⟩ : ∃ ok : Nat → Bool, ok = fun n => decide (0 ≤ tval (leavesR (s.1 ++ List.replicate n p) s.2.1 (cH f) 0 0) (wantF f)) := ⟨_, rfl⟩
  have h : Q (match (List.range 17).find? ok with | some n => (n : Int) | none => -1) := by rw [hok]; exact h
  refine ⟨by show (0 + s.1.length) * 8 ≤ _; omega, ?_⟩
  refine ⟨fun x l => ∃ j : Nat, j ≤ 17 ∧ x = (j : Int) ∧ l = s.1 ++ List.replicate j p ∧ ∀ i, i < j → ok i = false, fun x _ => (17 - x).toNat, ⟨0, by omega, rfl, by simp, by omega⟩, ?_⟩
  rintro x l ⟨j, hj, rfl, rfl, hno⟩
  refine cnd_iff.2 ⟨fun h1 => ?_, fun h1 => ?_⟩
  · have h1 : (j : Int) ≤ 16 := of_decide_eq_true h1
    have h5 : F5 (wantF f) := v.want4
    have hi := idx_bnd h5
    have hlen : (s.1 ++ List.replicate j p).length ≤ 22 := by simp; omega
    have hl4 : ∀ l, l ∈ s.1 ++ List.replicate j p → bnd 400 l := fun l hl => by
      rcases List.mem_append.1 hl with hl | hl
      · exact v.lv4 l hl
      · rw [(List.mem_replicate.1 hl).2]; exact ⟨by omega, by omega⟩
    have hb : Bins0 (leavesR (s.1 ++ List.replicate j p) s.2.1 (cH f) 0 0) := leavesR_ok (by omega) hl4 v.sm4 (cnt400 v.cH) ⟨by omega, by omega⟩ ⟨by omega, by omega⟩ (by omega) (by omega)
    refine ⟨_, ⟨v.f4, rfl⟩, _, ⟨⟨by show (s.1 ++ List.replicate j p).length ≤ 500; omega, hl4, v.sm4, cnt400 v.cH⟩, rfl⟩, _, ⟨⟨hb, le00, lenI _⟩, rfl⟩, _, ⟨v.f4, rfl⟩, _, ⟨h5, rfl⟩, hi.1, idx_tab h5, ?_⟩
    show cnd (decide ((tabF ((leavesR (s.1 ++ List.replicate j p) s.2.1 (cH f) 0 0).drop (Int.toNat 0))).getD (idx5 (wantF f)).toNat 0 ≥ 0)) _ _
    rw [tab_at h5]
    have eo : decide (tval (leavesR (s.1 ++ List.replicate j p) s.2.1 (cH f) 0 0) (wantF f) ≥ 0) = ok j := by rw [hok]
    rw [eo, wrapS (x := (j : Int) + 1) (by omega) (by omega)]
    refine cnd_iff.2 ⟨fun h2 => ?_, fun h2 => ⟨by show ((s.1 ++ List.replicate j p).length + 1) * 8 ≤ _; omega, ⟨j + 1, by omega, by omega, ?_, fun i hi => ?_⟩, by dsimp only; omega⟩⟩
    · have : (List.range 17).find? ok = some j := by
        rw [List.find?_range_eq_some]
        exact ⟨h2, by simp; omega, fun i hi => by rw [hno i hi]; rfl⟩
      rw [this] at h
      exact h
    · rw [List.append_assoc, List.replicate_succ']
    · rcases Nat.lt_succ_iff_lt_or_eq.1 hi with g | rfl
      · exact hno i g
      · exact h2
  · have h1 : ¬ (j : Int) ≤ 16 := of_decide_eq_false h1
    have : j = 17 := by omega
    subst this
    have : (List.range 17).find? ok = none := by
      rw [List.find?_eq_none]
      intro i hi
      rw [hno i (List.mem_range.1 hi)]; simp
    rw [this] at h
    exact h

end Go.Proofs.Fa
set_option linter.unusedVariables false
set_option maxRecDepth 100000
namespace Go.Proofs.Fa
open Go Go.GX Go.Proofs

end Go.Proofs.Fa
set_option linter.unusedVariables false
namespace Go.Proofs.Fa
open Go Go.GX Go.Proofs

theorem le4.F5 {s f : FansT} (h : le4 s f) (hf : F5 f) : F5 s ∧ F5 (GX.Fa.less f s) := by
  obtain ⟨⟨a1, a2⟩, ⟨b1, b2⟩, ⟨c1, c2⟩, ⟨d1, d2⟩⟩ := h
  obtain ⟨⟨a3, a4⟩, ⟨b3, b4⟩, ⟨c3, c4⟩, ⟨d3, d4⟩⟩ := hf
  refine ⟨⟨⟨by omega, by omega⟩, ⟨by omega, by omega⟩, ⟨by omega, by omega⟩, ⟨by omega, by omega⟩⟩, ⟨⟨?_, ?_⟩, ⟨?_, ?_⟩, ⟨?_, ?_⟩, ⟨?_, ?_⟩⟩⟩ <;> simp only [GX.Fa.less] <;> omega
end Go.Proofs.Fa
set_option linter.unusedVariables false
namespace Go.Proofs.Fa
open Go Go.GX Go.Proofs

end Go.Proofs.Fa
set_option maxRecDepth 100000
namespace Go.Proofs.Fa
open Go Go.GX Go.Proofs
variable [Inhabited BaseD]
theorem ok32 : CallsOK Try.prog (assoc glT) 32 f32_ct :=
  callsOK_mkM [] st_ok mp_ok it_ok mk_ok in_ok AllOK.nil no_an Try.func32 (by kernel_rfl) (by kernel_rfl) f32_ct fun ⟨n, a, b, _⟩ _ Q h => (v32 n a b Q).mp (p32 h)
theorem ok22 : CallsOK Try.prog (assoc glT) 22 f22_ct :=
  callsOK_mkM [] st_ok mp_ok it_ok mk_ok in_ok (AllOK.cons ok32 AllOK.nil) f22_an Try.func22 (by kernel_rfl) (by kernel_rfl) f22_ct fun ⟨s, f, _⟩ _ Q h => (v22 s f Q).mp (p22 h)
theorem ok16 : CallsOK Try.prog (assoc glT) 16 f16_ct :=
  callsOK_mkM [] st_ok mp_ok it_ok mk_ok in_ok AllOK.nil no_an Try.func16 (by kernel_rfl) (by kernel_rfl) f16_ct fun ⟨s, f, _⟩ _ Q h => (v16 s f Q).mp (p16 h)
theorem ok18 : CallsOK Try.prog (assoc glT) 18 f18_ct :=
  callsOK_mkM [] st_ok mp_ok it_ok mk_ok in_ok AllOK.nil no_an Try.func18 (by kernel_rfl) (by kernel_rfl) f18_ct fun s _ Q h => (v18 s Q).mp (p18 h)
theorem ok19 : CallsOK Try.prog (assoc glT) 19 f19_ct :=
  callsOK_mkM [] st_ok mp_ok it_ok mk_ok in_ok AllOK.nil no_an Try.func19 (by kernel_rfl) (by kernel_rfl) f19_ct fun f _ Q h => (v19 f Q).mp (p19 h)
theorem ok38 : CallsOK Try.prog (assoc glT) 38 f38_ct :=
  callsOK_mkM [] st_ok mp_ok it_ok mk_ok in_ok AllOK.nil one_an Try.func38 (by kernel_rfl) (by kernel_rfl) f38_ct fun ⟨a, b, _⟩ _ Q h => (v38 a b Q).mp (p38 h)
theorem ok71 : CallsOK Try.prog (assoc glT) 71 f71_ct :=
  callsOK_mkM [] st_ok mp_ok it_ok mk_ok in_ok AllOK.nil one_an Try.func71 (by kernel_rfl) (by kernel_rfl) f71_ct fun ⟨a, b, _⟩ _ Q h => (v71 a b Q).mp (p71 h)
theorem ok70 : CallsOK Try.prog (assoc glT) 70 f70_ct :=
  callsOK_mkM [] st_ok mp_ok it_ok mk_ok in_ok (AllOK.cons ok38 AllOK.nil) one_an Try.func70 (by kernel_rfl) (by kernel_rfl) f70_ct fun ⟨a, b, _⟩ _ Q h => (v70 a b Q).mp (p70 h)
theorem ok23 : CallsOK Try.prog (assoc glT) 23 f23_ct :=
  callsOK_mkM [] st_ok mp_ok it_ok mk_ok in_ok (AllOK.cons ok70 (AllOK.cons ok71 AllOK.nil)) no_an Try.func23 (by kernel_rfl) (by kernel_rfl) f23_ct fun ⟨a, b, f, g, _⟩ _ Q h => (v23 a b f g Q).mp (p23 h)
theorem ok28 : CallsOK Try.prog (assoc glT) 28 f28_ct :=
  callsOK_mkM [] st_ok mp_ok it_ok mk_ok in_ok (AllOK.cons ok38 AllOK.nil) one_an Try.func28 (by kernel_rfl) (by kernel_rfl) f28_ct fun ⟨a, b, _⟩ _ Q h => (v28 a b Q).mp (p28 h)
theorem ok90 : CallsOK Try.prog (assoc glT) 90 f90_ct :=
  callsOK_mkM [] st_ok mp_ok it_ok mk_ok in_ok AllOK.nil no_an Try.func90 (by kernel_rfl) (by kernel_rfl) f90_ct fun n _ Q h => (v90 n Q).mp (p90 h)
theorem ok73 : CallsOK Try.prog (assoc glT) 73 f73_ct :=
  callsOK_mkM [] st_ok mp_ok it_ok mk_ok in_ok AllOK.nil no_an Try.func73 (by kernel_rfl) (by kernel_rfl) f73_ct fun f _ Q h => (v73 f Q).mp (p73 h)
theorem ok76 : CallsOK Try.prog (assoc glT) 76 f76_ct :=
  callsOK_mkM [] st_ok mp_ok it_ok mk_ok in_ok AllOK.nil f76_an Try.func76 (by kernel_rfl) (by kernel_rfl) f76_ct fun ⟨b, f, _⟩ _ Q h => (v76 b f Q).mp (p76 h)
theorem ok96 : CallsOK Try.prog (assoc glT) 96 f96_ct :=
  callsOK_mkM [] st_ok mp_ok it_ok mk_ok in_ok (AllOK.cons ok73 (AllOK.cons ok90 (AllOK.cons ok76 AllOK.nil))) f96_an Try.func96 (by kernel_rfl) (by kernel_rfl) f96_ct fun ⟨b, rest, f, _⟩ _ Q h => (v96 b rest f Q).mp (p96 h)
theorem ok72 : CallsOK Try.prog (assoc glT) 72 f72_ct :=
  callsOK_mkM [] st_ok mp_ok it_ok mk_ok in_ok (AllOK.cons ok90 (AllOK.cons ok96 AllOK.nil)) f72_an Try.func72 (by kernel_rfl) (by kernel_rfl) f72_ct fun ⟨bs, i, _⟩ _ Q h => (v72 bs i Q).mp (p72 h)
theorem ok26 : CallsOK Try.prog (assoc glT) 26 f26_ct :=
  callsOK_mkM [] st_ok mp_ok it_ok mk_ok in_ok AllOK.nil f26_an Try.func26 (by kernel_rfl) (by kernel_rfl) f26_ct fun ⟨f, m, _⟩ _ Q h => (v26 f m Q).mp (p26 h)
theorem ok27 : CallsOK Try.prog (assoc glT) 27 f27_ct :=
  callsOK_mkM [] st_ok mp_ok it_ok mk_ok in_ok AllOK.nil f27_an Try.func27 (by kernel_rfl) (by kernel_rfl) f27_ct fun f _ Q h => (v27 f Q).mp (p27 h)
theorem ok25 : CallsOK Try.prog (assoc glT) 25 f25_ct :=
  callsOK_mkM [] st_ok mp_ok it_ok mk_ok in_ok AllOK.nil f25_an Try.func25 (by kernel_rfl) (by kernel_rfl) f25_ct fun ⟨ls, seam, c, e, i, _⟩ _ Q h => (v25 ls seam c e i Q).mp (p25 h)
theorem ok30 : CallsOK Try.prog (assoc glT) 30 f30_ct :=
  callsOK_mkM [] st_ok mp_ok it_ok mk_ok in_ok AllOK.nil f30_an Try.func30 (by kernel_rfl) (by kernel_rfl) f30_ct fun ⟨ls, f, c, _⟩ _ Q h => (v30 ls f c Q).mp (p30 h)
theorem ok51 : CallsOK Try.prog (assoc glT) 51 f51_ct :=
  callsOK_mkM [] st_ok mp_ok it_ok mk_ok in_ok (AllOK.cons ok25 (AllOK.cons ok72 (AllOK.cons ok73 (AllOK.cons ok30 AllOK.nil)))) no_an Try.func51 (by kernel_rfl) (by kernel_rfl) f51_ct fun ⟨s, f, c, n, _⟩ _ Q h => (v51 s f c n Q).mp (p51 h)
theorem ok33 : CallsOK Try.prog (assoc glT) 33 f33_ct :=
  callsOK_mkM [] st_ok mp_ok it_ok mk_ok in_ok (AllOK.cons ok26 (AllOK.cons ok25 (AllOK.cons ok72 (AllOK.cons ok27 (AllOK.cons ok73 AllOK.nil))))) f33_an Try.func33 (by kernel_rfl) (by kernel_rfl) f33_ct fun ⟨s, f, p, _⟩ _ Q h => (v33 s f p Q).mp (p33 h)
theorem ok40 : CallsOK Try.prog (assoc glT) 40 f40_ct :=
  callsOK_mkM [] st_ok mp_ok it_ok mk_ok in_ok (AllOK.cons ok26 (AllOK.cons ok27 (AllOK.cons ok73 (AllOK.cons ok25 (AllOK.cons ok72 (AllOK.cons ok30 AllOK.nil)))))) no_an Try.func40 (by kernel_rfl) (by kernel_rfl) f40_ct fun ⟨s, f, _⟩ _ Q h => (v40 s f Q).mp (p40 h)
theorem ok42 : CallsOK Try.prog (assoc glT) 42 f42_ct :=
  callsOK_mkM [] st_ok mp_ok it_ok mk_ok in_ok (AllOK.cons ok26 (AllOK.cons ok27 (AllOK.cons ok51 AllOK.nil))) f42_an Try.func42 (by kernel_rfl) (by kernel_rfl) f42_ct fun ⟨s, f, k, _⟩ _ Q h => (v42 s f k Q).mp (p42 h)
end Go.Proofs.Fa
namespace Go.Proofs.Fa
open Go Go.GX Go.Proofs

def f55_wp : Int × Int × Unit → Unit → (Int × Int → Prop) → Prop := fun a _ Q => Q (a.1, a.2.1)
def f55_ct : Ct := ⟨arg2 k3 k3, .unit, k69, f55_wp, false, false⟩

def stD : Store := ([30, 28, 34], 2, [(35, 40), (25, 40)])
def spD : List Spring := [((14, 16), 2, 20), ((10, 10), 3, 30)]
def f56_wp : Unit → Unit → (Store → Prop) → Prop := fun _ _ Q => Q stD
def f56_ct : Ct := ⟨.unit, .unit, k25, f56_wp, false, false⟩
def f57_wp : Unit → Unit → (List Spring → Prop) → Prop := fun _ _ Q => Q spD
def f57_ct : Ct := ⟨.unit, .unit, k26, f57_wp, false, true⟩
def f17_wp : Unit → Unit → (Bool → Prop) → Prop := fun _ _ Q => Q true
def f17_ct : Ct := ⟨.unit, .unit, .bool, f17_wp, false, false⟩
def fL2_wp : Store × List Spring × Unit → Unit → (Bool → Prop) → Prop := fun _ _ Q => Q true
def fL2_ct : Ct := ⟨arg2 k25 k26, .unit, .bool, fL2_wp, false, false⟩
def f3_ct : Ct := fL2_ct
def f4_ct : Ct := fL2_ct
def f8_ct : Ct := fL2_ct
def fL3_wp : Store × List Spring × Int × Unit → Unit → (Bool → Prop) → Prop := fun _ _ Q => Q true
def fL3_ct : Ct := ⟨arg3 k25 k26 k3, .unit, .bool, fL3_wp, false, false⟩
def f5_ct : Ct := fL3_ct
def f9_ct : Ct := fL3_ct
end Go.Proofs.Fa
set_option linter.unusedVariables false
set_option maxRecDepth 100000
namespace Go.Proofs.Fa
open Go Go.GX Go.Proofs

def V55 (a : Int) (b : Int) (Q : Int × Int → Prop) : Prop := Q (a, b)
theorem v55 (a : Int) (b : Int) (Q : Int × Int → Prop) : V55 a b Q = vcFunc (S0 [] []) f55_ct.own f55_ct.fresh no_an Try.f55 (bodyOf Try.f55) f55_ct.A f55_ct.C f55_ct.R (a, b, ()) () Q := by kernel_rfl

def V56 (Q : List Int × Int × List (Int × Int) → Prop) : Prop := Q ((30 : Int) :: (28 : Int) :: (34 : Int) :: ([] : List Int), (2 : Int), ((35 : Int), (40 : Int)) :: ((25 : Int), (40 : Int)) :: ([] : List (Int × Int)))
theorem v56 (Q : List Int × Int × List (Int × Int) → Prop) : V56 Q = vcFunc (S0 [] []) f56_ct.own f56_ct.fresh no_an Try.f56 (bodyOf Try.f56) f56_ct.A f56_ct.C f56_ct.R () () Q := by kernel_rfl

def V57 (Q : List Spring → Prop) : Prop := f55_wp ((14 : Int), (16 : Int), ()) () fun (r : Int × Int) ↦ f55_wp ((10 : Int), (10 : Int), ()) () fun (r_1 : Int × Int) ↦ Q (((r.1, r.2), (2 : Int), (20 : Int)) :: ((r_1.1, r_1.2), (3 : Int), (30 : Int)) :: ([] : List Spring))
theorem v57 (Q : List Spring → Prop) : V57 Q = vcFunc (S0 [(55, f55_ct)] [104]) f57_ct.own f57_ct.fresh no_an Try.f57 (bodyOf Try.f57) f57_ct.A f57_ct.C f57_ct.R () () Q := by kernel_rfl

def V17 (Q : Bool → Prop) : Prop := f56_wp () () fun (r : List Int × Int × List (Int × Int)) ↦ f57_wp () () fun (r_1 : List Spring) ↦ f21_wp ((r.1, r.2.1, r.2.2), r_1, ()) () fun (r : List (List Int) × Int × Unit) ↦ f56_wp () () fun (r_2 : List Int × Int × List (Int × Int)) ↦ f57_wp () () fun (r_3 : List Spring) ↦ f29_wp ((r_2.1, r_2.2.1, r_2.2.2), r_3, ()) () fun (r_4 : List (List Int) × Int × Unit) ↦ f56_wp () () fun (r_5 : List Int × Int × List (Int × Int)) ↦ f57_wp () () fun (r_6 : List Spring) ↦ f39_wp ((r_5.1, r_5.2.1, r_5.2.2), r_6, ()) () fun (r_7 : Int × Int × Int × Unit) ↦ f57_wp () () fun (r_8 : List Spring) ↦ (0 : Int) ≤ (0 : Int) ∧ (0 : Int) < (↑(List.length r_8) : Int) ∧ f56_wp () () fun (r_9 : List Int × Int × List (Int × Int)) ↦ f50_wp ((r_9.1, r_9.2.1, r_9.2.2), List.set r_8 (Int.toNat (0 : Int)) ((Prod.fst (Prod.fst (List.getD r_8 (Int.toNat (0 : Int)) (((0 : Int), (0 : Int)), (0 : Int), (0 : Int)))), Prod.snd (Prod.fst (List.getD r_8 (Int.toNat (0 : Int)) (((0 : Int), (0 : Int)), (0 : Int), (0 : Int))))), (3 : Int), Prod.snd (Prod.snd (List.getD r_8 (Int.toNat (0 : Int)) (((0 : Int), (0 : Int)), (0 : Int), (0 : Int))))), ()) () fun (r_10 : List Int × Int × Unit) ↦ f56_wp () () fun (r_11 : List Int × Int × List (Int × Int)) ↦ (0 : Int) ≤ (0 : Int) ∧ (0 : Int) ≤ (2 : Int) ∧ (2 : Int) ≤ (↑(List.length r_11.1) : Int) ∧ ∃ (r_12 : List Spring), (f57_wp () () fun (r' : List Spring) ↦ r' = r_12) ∧ ∃ (r_13 : Int × Int × Unit), (f31_wp ((List.drop (Int.toNat (0 : Int)) (List.take (Int.toNat (2 : Int)) r_11.1), r_11.2.1, r_11.2.2), r_12, (40 : Int), ()) () fun (r' : Int × Int × Unit) ↦ r' = r_13) ∧ ∃ (r_14 : List Spring), (f57_wp () () fun (r' : List Spring) ↦ r' = r_14) ∧ ∃ (r_15 : Int × Int × Int × Unit), (f34_wp ((List.drop (Int.toNat (0 : Int)) (List.take (Int.toNat (2 : Int)) r_11.1), r_11.2.1, r_11.2.2), r_14, (40 : Int), ()) () fun (r' : Int × Int × Int × Unit) ↦ r' = r_15) ∧ f56_wp () () fun (r_16 : List Int × Int × List (Int × Int)) ↦ f57_wp () () fun (r_17 : List Spring) ↦ f36_wp ((r_16.1, r_16.2.1, r_16.2.2), r_17, ((0 : Int) :: ([] : List Int)) :: ((0 : Int) :: ([] : List Int)) :: ((1 : Int) :: (1 : Int) :: (1 : Int) :: ([] : List Int)) :: ([] : List (List Int)), ()) () fun (r_18 : List Int × Int × Unit) ↦ f56_wp () () fun (r_19 : List Int × Int × List (Int × Int)) ↦ f57_wp () () fun (r_20 : List Spring) ↦ f41_wp ((r_19.1, r_19.2.1, r_19.2.2), r_20, (0 : Int), ()) () fun (r_21 : Int × Int × Unit) ↦ cnd (r.2.1 != (0 : Int)) (Q false) (cnd (r_4.2.1 != (0 : Int)) (Q false) (cnd (r_7.2.2.1 != (0 : Int)) (Q false) (cnd (r_10.2.1 != (0 : Int)) (Q false) (cnd (r_13.2.1 != (0 : Int)) (Q false) (cnd (r_15.2.2.1 != (0 : Int)) (Q false) (cnd (r_18.2.1 != (0 : Int)) (Q false) (cnd (r_21.2.1 != (0 : Int)) (Q false) (f28_wp (r.1, ((0 : Int) :: ([] : List Int)) :: ((0 : Int) :: ([] : List Int)) :: ((1 : Int) :: (1 : Int) :: (1 : Int) :: ([] : List Int)) :: ([] : List (List Int)), ()) () fun (r : Bool) ↦ cnd r (f28_wp (r_4.1, ((1 : Int) :: (1 : Int) :: (1 : Int) :: ([] : List Int)) :: ((0 : Int) :: (0 : Int) :: ([] : List Int)) :: ([] : List (List Int)), ()) () fun (r : Bool) ↦ cnd r (cnd (r_7.1 == (4 : Int)) (cnd (r_7.2.1 == (310 : Int)) (f38_wp (r_10.1, (3 : Int) :: (2 : Int) :: ([] : List Int), ()) () fun (r : Bool) ↦ cnd r (cnd (r_13.1 == (1 : Int)) (cnd (r_15.1 == (1 : Int)) (cnd (r_15.2.1 == (1 : Int)) (f38_wp (r_18.1, (12 : Int) :: (10 : Int) :: (0 : Int) :: ([] : List Int), ()) () fun (r : Bool) ↦ cnd r (Q (r_21.1 == (20 : Int))) (Q false)) (Q false)) (Q false)) (Q false)) (Q false)) (Q false)) (Q false)) (Q false)) (Q false)))))))))
theorem v17 (Q : Bool → Prop) : V17 Q = vcFunc (S0 [(56, f56_ct), (57, f57_ct), (21, f21_ct), (29, f29_ct), (39, f39_ct), (50, f50_ct), (31, f31_ct), (34, f34_ct), (36, f36_ct), (41, f41_ct), (28, f28_ct), (38, f38_ct)] []) f17_ct.own f17_ct.fresh no_an Try.f17 (bodyOf Try.f17) f17_ct.A f17_ct.C f17_ct.R () () Q := by kernel_rfl

def V3 (s : List Int × Int × List (Int × Int)) (f : List Spring) (Q : Bool → Prop) : Prop := f16_wp ((s.1, s.2.1, s.2.2), f, ()) () fun (r : Bool) ↦ cnd r (f17_wp () () fun (r : Bool) ↦ Q r) (f18_wp (s.1, s.2.1, s.2.2) () fun (r : List Int × Int × List (Int × Int)) ↦ f19_wp f () fun (r_1 : List Spring) ↦ f20_wp ((r.1, r.2.1, r.2.2), r_1, ()) () fun (r_2 : Int) ↦ f21_wp ((r.1, r.2.1, r.2.2), r_1, ()) () fun (r_3 : List (List Int) × Int × Unit) ↦ f22_wp ((s.1, s.2.1, s.2.2), f, ()) () fun (r_4 : Int) ↦ f23_wp ((r.1, r.2.1, r.2.2), (s.1, s.2.1, s.2.2), r_1, f, ()) () fun (r : Bool) ↦ cnd (!r) (Q false) (cnd (r_2 != r_4) (Q false) (cnd (r_4 == (0 : Int)) (∃ (r : Int × Int × Int × Int), (f26_wp (f, true, ()) () fun (r' : Int × Int × Int × Int) ↦ r' = r) ∧ ∃ (r_5 : List BinT), (f25_wp (s.1, s.2.1, (r.1, r.2.1, r.2.2.1, r.2.2.2), (0 : Int), (1 : Int), ()) () fun (r' : List BinT) ↦ r' = r_5) ∧ ∃ (r : Int × Int × Int × Int), (f27_wp f () fun (r' : Int × Int × Int × Int) ↦ r' = r) ∧ ∃ (r_6 : List (List Int) × Bool × Unit), (f24_wp (r_5, (r.1, r.2.1, r.2.2.1, r.2.2.2), ()) () fun (r' : List (List Int) × Bool × Unit) ↦ r' = r_6) ∧ cnd r_6.2.1 (cnd (r_3.2.1 == (0 : Int)) (f28_wp (r_3.1, r_6.1, ()) () fun (r : Bool) ↦ cnd r (f17_wp () () fun (r : Bool) ↦ Q r) (Q false)) (Q false)) (cnd (r_3.2.1 == (9 : Int)) (List.length r_3.1 ≤ (9223372036854775807 : Nat) → cnd ((↑(List.length r_3.1) : Int) == (0 : Int)) (f17_wp () () fun (r : Bool) ↦ Q r) (Q false)) (Q false))) (cnd (r_3.2.1 == r_4) (List.length r_3.1 ≤ (9223372036854775807 : Nat) → cnd ((↑(List.length r_3.1) : Int) == (0 : Int)) (f17_wp () () fun (r : Bool) ↦ Q r) (Q false)) (Q false)))))
theorem v3 (s : List Int × Int × List (Int × Int)) (f : List Spring) (Q : Bool → Prop) : V3 s f Q = vcFunc (S0 [(16, f16_ct), (17, f17_ct), (18, f18_ct), (19, f19_ct), (20, f20_ct), (21, f21_ct), (22, f22_ct), (23, f23_ct), (26, f26_ct), (25, f25_ct), (27, f27_ct), (24, f24_ct), (28, f28_ct)] []) f3_ct.own f3_ct.fresh no_an Try.f3 (bodyOf Try.f3) f3_ct.A f3_ct.C f3_ct.R (s, f, ()) () Q := by kernel_rfl

def V4 (s : List Int × Int × List (Int × Int)) (f : List Spring) (Q : Bool → Prop) : Prop := f16_wp ((s.1, s.2.1, s.2.2), f, ()) () fun (r : Bool) ↦ cnd r (f17_wp () () fun (r : Bool) ↦ Q r) (f18_wp (s.1, s.2.1, s.2.2) () fun (r : List Int × Int × List (Int × Int)) ↦ f19_wp f () fun (r_1 : List Spring) ↦ f29_wp ((r.1, r.2.1, r.2.2), r_1, ()) () fun (r_2 : List (List Int) × Int × Unit) ↦ f22_wp ((s.1, s.2.1, s.2.2), f, ()) () fun (r_3 : Int) ↦ f23_wp ((r.1, r.2.1, r.2.2), (s.1, s.2.1, s.2.2), r_1, f, ()) () fun (r : Bool) ↦ cnd (!r) (Q false) (cnd (r_3 == (0 : Int)) (∃ (r : Int × Int × Int × Int), (f26_wp (f, true, ()) () fun (r' : Int × Int × Int × Int) ↦ r' = r) ∧ ∃ (r_4 : List BinT), (f30_wp (s.2.2, f, (r.1, r.2.1, r.2.2.1, r.2.2.2), ()) () fun (r' : List BinT) ↦ r' = r_4) ∧ ∃ (r : Int × Int × Int × Int), (f27_wp f () fun (r' : Int × Int × Int × Int) ↦ r' = r) ∧ ∃ (r_5 : List (List Int) × Bool × Unit), (f24_wp (r_4, (r.1, r.2.1, r.2.2.1, r.2.2.2), ()) () fun (r' : List (List Int) × Bool × Unit) ↦ r' = r_5) ∧ cnd r_5.2.1 (cnd (r_2.2.1 == (0 : Int)) (f28_wp (r_2.1, r_5.1, ()) () fun (r : Bool) ↦ cnd r (f17_wp () () fun (r : Bool) ↦ Q r) (Q false)) (Q false)) (cnd (r_2.2.1 == (9 : Int)) (List.length r_2.1 ≤ (9223372036854775807 : Nat) → cnd ((↑(List.length r_2.1) : Int) == (0 : Int)) (f17_wp () () fun (r : Bool) ↦ Q r) (Q false)) (Q false))) (cnd (r_2.2.1 == r_3) (List.length r_2.1 ≤ (9223372036854775807 : Nat) → cnd ((↑(List.length r_2.1) : Int) == (0 : Int)) (f17_wp () () fun (r : Bool) ↦ Q r) (Q false)) (Q false))))
theorem v4 (s : List Int × Int × List (Int × Int)) (f : List Spring) (Q : Bool → Prop) : V4 s f Q = vcFunc (S0 [(16, f16_ct), (17, f17_ct), (18, f18_ct), (19, f19_ct), (29, f29_ct), (22, f22_ct), (23, f23_ct), (26, f26_ct), (30, f30_ct), (27, f27_ct), (24, f24_ct), (28, f28_ct)] []) f4_ct.own f4_ct.fresh no_an Try.f4 (bodyOf Try.f4) f4_ct.A f4_ct.C f4_ct.R (s, f, ()) () Q := by kernel_rfl

def V5 (s : List Int × Int × List (Int × Int)) (f : List Spring) (p : Int) (Q : Bool → Prop) : Prop := f16_wp ((s.1, s.2.1, s.2.2), f, ()) () fun (r : Bool) ↦ cnd r (f17_wp () () fun (r : Bool) ↦ Q r) (f18_wp (s.1, s.2.1, s.2.2) () fun (r : List Int × Int × List (Int × Int)) ↦ f19_wp f () fun (r_1 : List Spring) ↦ f31_wp ((r.1, r.2.1, r.2.2), r_1, p, ()) () fun (r_2 : Int × Int × Unit) ↦ f23_wp ((r.1, r.2.1, r.2.2), (s.1, s.2.1, s.2.2), r_1, f, ()) () fun (r : Bool) ↦ cnd (!r) (Q false) (f22_wp ((s.1, s.2.1, s.2.2), f, ()) () fun (r : Int) ↦ cnd (r == (0 : Int)) (f32_wp (p, (1 : Int), (200 : Int), ()) () fun (r_3 : Bool) ↦ cnd (!r_3) (cnd (r_2.2.1 == (7 : Int)) (cnd (r_2.1 == (0 : Int)) (f17_wp () () fun (r : Bool) ↦ Q r) (Q false)) (Q false)) (cnd (r == (0 : Int)) (f33_wp ((s.1, s.2.1, s.2.2), f, p, ()) () fun (r : Int) ↦ cnd (decide (r ≥ (0 : Int))) (cnd (r_2.2.1 == (0 : Int)) (cnd (r_2.1 == r) (f17_wp () () fun (r : Bool) ↦ Q r) (Q false)) (Q false)) (cnd (r_2.2.1 == (9 : Int)) (cnd (r_2.1 == (0 : Int)) (f17_wp () () fun (r : Bool) ↦ Q r) (Q false)) (Q false))) (cnd (r_2.2.1 == r) (cnd (r_2.1 == (0 : Int)) (f17_wp () () fun (r : Bool) ↦ Q r) (Q false)) (Q false)))) (cnd (r == (0 : Int)) (f33_wp ((s.1, s.2.1, s.2.2), f, p, ()) () fun (r : Int) ↦ cnd (decide (r ≥ (0 : Int))) (cnd (r_2.2.1 == (0 : Int)) (cnd (r_2.1 == r) (f17_wp () () fun (r : Bool) ↦ Q r) (Q false)) (Q false)) (cnd (r_2.2.1 == (9 : Int)) (cnd (r_2.1 == (0 : Int)) (f17_wp () () fun (r : Bool) ↦ Q r) (Q false)) (Q false))) (cnd (r_2.2.1 == r) (cnd (r_2.1 == (0 : Int)) (f17_wp () () fun (r : Bool) ↦ Q r) (Q false)) (Q false)))))
theorem v5 (s : List Int × Int × List (Int × Int)) (f : List Spring) (p : Int) (Q : Bool → Prop) : V5 s f p Q = vcFunc (S0 [(16, f16_ct), (17, f17_ct), (18, f18_ct), (19, f19_ct), (31, f31_ct), (23, f23_ct), (22, f22_ct), (32, f32_ct), (33, f33_ct)] []) f5_ct.own f5_ct.fresh no_an Try.f5 (bodyOf Try.f5) f5_ct.A f5_ct.C f5_ct.R (s, f, p, ()) () Q := by kernel_rfl

def V8 (s : List Int × Int × List (Int × Int)) (f : List Spring) (Q : Bool → Prop) : Prop := f16_wp ((s.1, s.2.1, s.2.2), f, ()) () fun (r : Bool) ↦ cnd r (f17_wp () () fun (r : Bool) ↦ Q r) (f18_wp (s.1, s.2.1, s.2.2) () fun (r : List Int × Int × List (Int × Int)) ↦ f19_wp f () fun (r_1 : List Spring) ↦ f39_wp ((r.1, r.2.1, r.2.2), r_1, ()) () fun (r_2 : Int × Int × Int × Unit) ↦ f23_wp ((r.1, r.2.1, r.2.2), (s.1, s.2.1, s.2.2), r_1, f, ()) () fun (r : Bool) ↦ cnd (!r) (Q false) (f22_wp ((s.1, s.2.1, s.2.2), f, ()) () fun (r : Int) ↦ cnd (r == (0 : Int)) (f40_wp ((s.1, s.2.1, s.2.2), f, ()) () fun (r : Int × Int × Unit) ↦ cnd (decide (r.1 ≥ (0 : Int))) (cnd (decide (r.2.1 ≥ (0 : Int))) (cnd (r_2.2.2.1 == (0 : Int)) (cnd (r_2.1 == r.1) (cnd (r_2.2.1 == r.2.1) (f17_wp () () fun (r : Bool) ↦ Q r) (Q false)) (Q false)) (Q false)) (cnd (r_2.2.2.1 == (9 : Int)) (cnd (r_2.1 == (0 : Int)) (cnd (r_2.2.1 == (0 : Int)) (f17_wp () () fun (r : Bool) ↦ Q r) (Q false)) (Q false)) (Q false))) (cnd (r_2.2.2.1 == (9 : Int)) (cnd (r_2.1 == (0 : Int)) (cnd (r_2.2.1 == (0 : Int)) (f17_wp () () fun (r : Bool) ↦ Q r) (Q false)) (Q false)) (Q false))) (cnd (r_2.2.2.1 == r) (cnd (r_2.1 == (0 : Int)) (cnd (r_2.2.1 == (0 : Int)) (f17_wp () () fun (r : Bool) ↦ Q r) (Q false)) (Q false)) (Q false))))
theorem v8 (s : List Int × Int × List (Int × Int)) (f : List Spring) (Q : Bool → Prop) : V8 s f Q = vcFunc (S0 [(16, f16_ct), (17, f17_ct), (18, f18_ct), (19, f19_ct), (39, f39_ct), (23, f23_ct), (22, f22_ct), (40, f40_ct)] []) f8_ct.own f8_ct.fresh no_an Try.f8 (bodyOf Try.f8) f8_ct.A f8_ct.C f8_ct.R (s, f, ()) () Q := by kernel_rfl

def V9 (s : List Int × Int × List (Int × Int)) (f : List Spring) (k : Int) (Q : Bool → Prop) : Prop := f16_wp ((s.1, s.2.1, s.2.2), f, ()) () fun (r : Bool) ↦ cnd r (f17_wp () () fun (r : Bool) ↦ Q r) (f18_wp (s.1, s.2.1, s.2.2) () fun (r : List Int × Int × List (Int × Int)) ↦ f19_wp f () fun (r_1 : List Spring) ↦ f41_wp ((r.1, r.2.1, r.2.2), r_1, k, ()) () fun (r_2 : Int × Int × Unit) ↦ f23_wp ((r.1, r.2.1, r.2.2), (s.1, s.2.1, s.2.2), r_1, f, ()) () fun (r : Bool) ↦ cnd (!r) (Q false) (f22_wp ((s.1, s.2.1, s.2.2), f, ()) () fun (r : Int) ↦ cnd (r == (0 : Int)) (List.length f ≤ (9223372036854775807 : Nat) → f32_wp (k, (0 : Int), IntKind.wrap IntKind.i64 ((↑(List.length f) : Int) - (1 : Int)), ()) () fun (r_3 : Bool) ↦ cnd (!r_3) (cnd (r_2.2.1 == (7 : Int)) (cnd (r_2.1 == (0 : Int)) (f17_wp () () fun (r : Bool) ↦ Q r) (Q false)) (Q false)) (cnd (r == (0 : Int)) (f42_wp ((s.1, s.2.1, s.2.2), f, k, ()) () fun (r : Int) ↦ cnd (decide (r > (0 : Int))) (cnd (r_2.2.1 == (0 : Int)) (cnd (r_2.1 == r) (f17_wp () () fun (r : Bool) ↦ Q r) (Q false)) (Q false)) (cnd (r_2.2.1 == (9 : Int)) (cnd (r_2.1 == (0 : Int)) (f17_wp () () fun (r : Bool) ↦ Q r) (Q false)) (Q false))) (cnd (r_2.2.1 == r) (cnd (r_2.1 == (0 : Int)) (f17_wp () () fun (r : Bool) ↦ Q r) (Q false)) (Q false)))) (cnd (r == (0 : Int)) (f42_wp ((s.1, s.2.1, s.2.2), f, k, ()) () fun (r : Int) ↦ cnd (decide (r > (0 : Int))) (cnd (r_2.2.1 == (0 : Int)) (cnd (r_2.1 == r) (f17_wp () () fun (r : Bool) ↦ Q r) (Q false)) (Q false)) (cnd (r_2.2.1 == (9 : Int)) (cnd (r_2.1 == (0 : Int)) (f17_wp () () fun (r : Bool) ↦ Q r) (Q false)) (Q false))) (cnd (r_2.2.1 == r) (cnd (r_2.1 == (0 : Int)) (f17_wp () () fun (r : Bool) ↦ Q r) (Q false)) (Q false)))))
theorem v9 (s : List Int × Int × List (Int × Int)) (f : List Spring) (k : Int) (Q : Bool → Prop) : V9 s f k Q = vcFunc (S0 [(16, f16_ct), (17, f17_ct), (18, f18_ct), (19, f19_ct), (41, f41_ct), (23, f23_ct), (22, f22_ct), (32, f32_ct), (42, f42_ct)] []) f9_ct.own f9_ct.fresh no_an Try.f9 (bodyOf Try.f9) f9_ct.A f9_ct.C f9_ct.R (s, f, k, ()) () Q := by kernel_rfl

end Go.Proofs.Fa
set_option linter.unusedVariables false
set_option maxRecDepth 100000
namespace Go.Proofs.Fa
open Go Go.GX Go.Proofs

theorem p55 {a b : Int} {Q : Int × Int → Prop} (h : f55_wp (a, b, ()) () Q) : V55 a b Q := h
theorem p56 {Q : Store → Prop} (h : f56_wp () () Q) : V56 Q := h
theorem p57 {Q : List Spring → Prop} (h : f57_wp () () Q) : V57 Q := h
def stL : Store := ([30, 28], 2, [(35, 40), (25, 40)])
def spT : List Spring := [((14, 16), 3, 20), ((10, 10), 3, 30)]
theorem d21 : resLeaves stD spD = ([[0], [0], [1, 1, 1]], 0) := by decide +kernel
theorem d29 : resLots stD spD = ([[1, 1, 1], [0, 0]], 0) := by decide +kernel
theorem d39 : resLoss stD spD = (4, 310, 0) := by decide +kernel
theorem d50 : resMost stD spT = ([3, 2], 0) := by decide +kernel
theorem d31 : resNew stL spD 40 = (1, 0) := by decide +kernel
theorem d34 : resBound stL spD 40 = (1, 1, 0) := by decide +kernel
theorem d36 : resRest stD spD [[0], [0], [1, 1, 1]] = ([12, 10, 0], 0) := by decide +kernel
theorem d41 : resRise stD spD 0 = (20, 0) := by decide +kernel
theorem p17 {Q : Bool → Prop} (h : f17_wp () () Q) : V17 Q := by
  have h : Q true := h
  refine ⟨by decide, by decide, by decide, by decide, by decide, _, rfl, _, rfl, _, rfl, _, rfl, ?_⟩
  show cnd ((resLeaves stD spD).2 != 0) (Q false) (cnd ((resLots stD spD).2 != 0) (Q false) (cnd ((resLoss stD spD).2.2 != 0) (Q false) (cnd ((resMost stD spT).2 != 0) (Q false) (cnd ((resNew stL spD 40).2 != 0) (Q false) (cnd ((resBound stL spD 40).2.2 != 0) (Q false) (cnd ((resRest stD spD [[0], [0], [1, 1, 1]]).2 != 0) (Q false) (cnd ((resRise stD spD 0).2 != 0) _
    (cnd (decide ((resLeaves stD spD).1 = [[0], [0], [1, 1, 1]])) (cnd (decide ((resLots stD spD).1 = [[1, 1, 1], [0, 0]])) (cnd ((resLoss stD spD).1 == 4) (cnd ((resLoss stD spD).2.1 == 310) (cnd (decide ((resMost stD spT).1 = [3, 2])) (cnd ((resNew stL spD 40).1 == 1) (cnd ((resBound stL spD 40).1 == 1) (cnd ((resBound stL spD 40).2.1 == 1) (cnd (decide ((resRest stD spD [[0], [0], [1, 1, 1]]).1 = [12, 10, 0])) (Q ((resRise stD spD 0).1 == 20)) (Q false)) (Q false)) (Q false)) (Q false)) (Q false)) (Q false)) (Q false)) (Q false)) (Q false)))))))))
  rw [d21, d29, d39, d50, d31, d34, d36, d41]
  exact h
theorem known {Q : Bool → Prop} (h : Q true) : f17_wp () () fun r => Q r := h
theorem beqT {a b : Int} (h : a = b) : (a == b) = true := by simp [h]
theorem cndE {a b : Int} {p q : Prop} (h : a = b) (hp : p) : cnd (a == b) p q := by rw [beqT h]; exact hp
theorem cndD {c : Prop} [Decidable c] {p q : Prop} (h : c) (hp : p) : cnd (decide c) p q := by rw [decide_eq_true h]; exact hp
theorem cndN {a b : Int} {p q : Prop} (h : a = b) (hq : q) : cnd (a != b) p q := by rw [bne, beqT h]; exact hq
theorem cndEe {a b : Int} {p q : Prop} (h : a ≠ b) (hq : q) : cnd (a == b) p q := by
  have : (a == b) = false := by simp [h]
  rw [this]; exact hq
theorem large_iff {s : Store} {f : List Spring} {Q : Bool → Prop} {T : Prop} (h : Q true) (hT : s.1.length ≤ 8 → s.2.2.length ≤ 8 → f.length ≤ 8 → T) : cnd (decide (8 < s.1.length ∨ 8 < s.2.2.length ∨ 8 < f.length)) (f17_wp () () fun r => Q r) T :=
  cnd_iff.2 ⟨fun _ => known h, fun h1 => by
    have h1 := of_decide_eq_false h1
    exact hT (by omega) (by omega) (by omega)⟩
theorem same_iff {s : Store} {f : List Spring} {p q : Prop} (h : q) : cnd (!(decide (s = s ∧ f = f))) p q := by
  rw [decide_eq_true ⟨rfl, rfl⟩]; exact h
end Go.Proofs.Fa
set_option maxRecDepth 100000
set_option maxHeartbeats 0
namespace Go.Proofs.Fa
open Go Go.GX Go.Proofs
variable [Inhabited BaseD]
theorem ok55 : CallsOK Try.prog (assoc glT) 55 f55_ct :=
  callsOK_mkM [] st_ok mp_ok it_ok mk_ok in_ok AllOK.nil no_an Try.func55 (by kernel_rfl) (by kernel_rfl) f55_ct fun ⟨a, b, _⟩ _ Q h => (v55 a b Q).mp (p55 h)
theorem ok56 : CallsOK Try.prog (assoc glT) 56 f56_ct :=
  callsOK_mkM [] st_ok mp_ok it_ok mk_ok in_ok AllOK.nil no_an Try.func56 (by kernel_rfl) (by kernel_rfl) f56_ct fun _ _ Q h => (v56  Q).mp (p56 h)
theorem ok57 : CallsOK Try.prog (assoc glT) 57 f57_ct :=
  callsOK_mkM [104] st_ok mp_ok it_ok mk_ok in_ok (AllOK.cons ok55 AllOK.nil) no_an Try.func57 (by kernel_rfl) (by kernel_rfl) f57_ct fun _ _ Q h => (v57  Q).mp (p57 h)
theorem ok17 : CallsOK Try.prog (assoc glT) 17 f17_ct :=
  callsOK_mkM [] st_ok mp_ok it_ok mk_ok in_ok (AllOK.cons ok56 (AllOK.cons ok57 (AllOK.cons ok21 (AllOK.cons ok29 (AllOK.cons ok39 (AllOK.cons ok50 (AllOK.cons ok31 (AllOK.cons ok34 (AllOK.cons ok36 (AllOK.cons ok41 (AllOK.cons ok28 (AllOK.cons ok38 AllOK.nil)))))))))))) no_an Try.func17 (by kernel_rfl) (by kernel_rfl) f17_ct fun _ _ Q h => (v17  Q).mp (p17 h)
end Go.Proofs.Fa
set_option linter.unusedVariables false
namespace Go.Proofs.Fa
open Go Go.GX Go.Proofs

theorem ge0_iff {f s : FansT} : ge0 (GX.Fa.less f s) = true ↔ s.1 ≤ f.1 ∧ s.2.1 ≤ f.2.1 ∧ s.2.2.1 ≤ f.2.2.1 ∧ s.2.2.2 ≤ f.2.2.2 := by
  show (decide (0 ≤ f.1 - s.1) && decide (0 ≤ f.2.1 - s.2.1) && decide (0 ≤ f.2.2.1 - s.2.2.1) && decide (0 ≤ f.2.2.2 - s.2.2.2)) = true ↔ _
  simp only [Bool.and_eq_true, decide_eq_true_eq]
  constructor
  · rintro ⟨⟨⟨h1, h2⟩, h3⟩, h4⟩; exact ⟨by omega, by omega, by omega, by omega⟩
  · rintro ⟨h1, h2, h3, h4⟩; exact ⟨⟨⟨by omega, by omega⟩, by omega⟩, by omega⟩
theorem le4_of {f s : FansT} (hs : F5 s) (h : ge0 (GX.Fa.less f s) = true) : le4 s f := by
  obtain ⟨h1, h2, h3, h4⟩ := ge0_iff.1 h
  exact ⟨⟨hs.1.1, h1⟩, ⟨hs.2.1.1, h2⟩, ⟨hs.2.2.1.1, h3⟩, ⟨hs.2.2.2.1, h4⟩⟩
theorem le4_ge {f s : FansT} (h : le4 s f) : ge0 (GX.Fa.less f s) = true := ge0_iff.2 ⟨h.1.2, h.2.1.2, h.2.2.1.2, h.2.2.2.2⟩
theorem le4_F5 {s f : FansT} (h : le4 s f) (hf : F5 f) : F5 s ∧ F5 (GX.Fa.less f s) := by
  obtain ⟨⟨a1, a2⟩, ⟨b1, b2⟩, ⟨c1, c2⟩, ⟨d1, d2⟩⟩ := h
  obtain ⟨⟨a3, a4⟩, ⟨b3, b4⟩, ⟨c3, c4⟩, ⟨d3, d4⟩⟩ := hf
  refine ⟨⟨⟨by omega, by omega⟩, ⟨by omega, by omega⟩, ⟨by omega, by omega⟩, ⟨by omega, by omega⟩⟩, ⟨⟨?_, ?_⟩, ⟨?_, ?_⟩, ⟨?_, ?_⟩, ⟨?_, ?_⟩⟩⟩ <;> simp only [GX.Fa.less] <;> omega
theorem le4_idx {s f : FansT} (h : le4 s f) : idx5 s ≤ idx5 f := by
  obtain ⟨⟨a1, a2⟩, ⟨b1, b2⟩, ⟨c1, c2⟩, ⟨d1, d2⟩⟩ := h
  unfold idx5; omega

theorem lst_fold (b : BinT) (rest : FansT → Int) (f : FansT) : ∀ k : Nat,
    ((List.range k).foldl (fun best (n : Nat) => lstStep b rest f best (atF n)) (-1) = -1 ∧ ∀ m : Nat, m < k → ge0 (GX.Fa.less f (atF m)) = true → 0 ≤ rest (GX.Fa.less f (atF m)) → 0 ≤ costF b (atF m) → False) ∨
    ∃ n : Nat, n < k ∧ (ge0 (GX.Fa.less f (atF n)) = true ∧ 0 ≤ rest (GX.Fa.less f (atF n)) ∧ 0 ≤ costF b (atF n)) ∧ (List.range k).foldl (fun best (n : Nat) => lstStep b rest f best (atF n)) (-1) = costF b (atF n) + rest (GX.Fa.less f (atF n)) ∧
      ∀ m : Nat, m < k → ge0 (GX.Fa.less f (atF m)) = true → 0 ≤ rest (GX.Fa.less f (atF m)) → 0 ≤ costF b (atF m) → (List.range k).foldl (fun best (n : Nat) => lstStep b rest f best (atF n)) (-1) ≤ costF b (atF m) + rest (GX.Fa.less f (atF m))
  | 0 => .inl ⟨rfl, fun m hm => absurd hm (Nat.not_lt_zero _)⟩
  | k + 1 => by
    have ih := lst_fold b rest f k
    rw [foldl_succ]
    generalize (List.range k).foldl (fun best (n : Nat) => lstStep b rest f best (atF n)) (-1) = v at ih ⊢
    by_cases hC : ge0 (GX.Fa.less f (atF k)) = true ∧ 0 ≤ rest (GX.Fa.less f (atF k)) ∧ 0 ≤ costF b (atF k)
    · obtain ⟨c1, c2, c3⟩ := hC
      have e : lstStep b rest f v (atF k) = if decide (v < 0) || decide (costF b (atF k) + rest (GX.Fa.less f (atF k)) < v) then costF b (atF k) + rest (GX.Fa.less f (atF k)) else v := by
        unfold lstStep
        rw [c1, decide_eq_false (show ¬ rest (GX.Fa.less f (atF k)) < 0 by omega), decide_eq_true c3]
        simp
      rw [e]
      by_cases hb : v < 0 ∨ costF b (atF k) + rest (GX.Fa.less f (atF k)) < v
      · rw [if_pos (by simpa using hb)]
        refine .inr ⟨k, by omega, ⟨c1, c2, c3⟩, rfl, fun m hm h1 h2 h3 => ?_⟩
        rcases Nat.lt_succ_iff_lt_or_eq.1 hm with q | rfl
        · rcases ih with ⟨_, ih⟩ | ⟨n, _, ⟨_, g2, g3⟩, hv, ih⟩
          · exact (ih m q h1 h2 h3).elim
          · have := ih m q h1 h2 h3
            rcases hb with hb | hb
            · omega
            · omega
        · exact Int.le_refl _
      · rw [if_neg (by simpa using hb)]
        rcases ih with ⟨hv, ih⟩ | ⟨n, hn, g, hv, ih⟩
        · exact absurd (.inl (by omega)) hb
        · refine .inr ⟨n, by omega, g, hv, fun m hm h1 h2 h3 => ?_⟩
          rcases Nat.lt_succ_iff_lt_or_eq.1 hm with q | rfl
          · exact ih m q h1 h2 h3
          · omega
    · have e : lstStep b rest f v (atF k) = v := by
        unfold lstStep
        by_cases c1 : ge0 (GX.Fa.less f (atF k)) = true
        · by_cases c2 : 0 ≤ rest (GX.Fa.less f (atF k))
          · have c3 : ¬ 0 ≤ costF b (atF k) := fun c3 => hC ⟨c1, c2, c3⟩
            rw [decide_eq_false c3]
            simp
          · rw [decide_eq_true (show rest (GX.Fa.less f (atF k)) < 0 by omega)]; simp
        · rw [Bool.eq_false_iff.2 c1]; simp
      rw [e]
      rcases ih with ⟨hv, ih⟩ | ⟨n, hn, g, hv, ih⟩
      · refine .inl ⟨hv, fun m hm h1 h2 h3 => ?_⟩
        rcases Nat.lt_succ_iff_lt_or_eq.1 hm with q | rfl
        · exact ih m q h1 h2 h3
        · exact hC ⟨h1, h2, h3⟩
      · refine .inr ⟨n, by omega, g, hv, fun m hm h1 h2 h3 => ?_⟩
        rcases Nat.lt_succ_iff_lt_or_eq.1 hm with q | rfl
        · exact ih m q h1 h2 h3
        · exact absurd ⟨h1, h2, h3⟩ hC
theorem lstR_spec {b : BinT} {rest : FansT → Int} {f : FansT} (hf : F5 f) :
    (lstR b rest f = -1 ∧ ∀ s, le4 s f → 0 ≤ rest (GX.Fa.less f s) → 0 ≤ costF b s → False) ∨
    ∃ s, le4 s f ∧ 0 ≤ rest (GX.Fa.less f s) ∧ 0 ≤ costF b s ∧ lstR b rest f = costF b s + rest (GX.Fa.less f s) ∧ ∀ t, le4 t f → 0 ≤ rest (GX.Fa.less f t) → 0 ≤ costF b t → lstR b rest f ≤ costF b t + rest (GX.Fa.less f t) := by
  have hi := idx_bnd hf
  have to : ∀ s, le4 s f → (idx5 s).toNat < (idx5 f).toNat + 1 ∧ atF ((idx5 s).toNat : Nat) = s := fun s hs => by
    have h5 := (le4_F5 hs hf).1
    have := idx_bnd h5
    have := le4_idx hs
    refine ⟨by omega, ?_⟩
    rw [show (((idx5 s).toNat : Nat) : Int) = idx5 s by omega]
    exact at_idx h5
  rcases lst_fold b rest f ((idx5 f).toNat + 1) with ⟨h1, h2⟩ | ⟨n, hn, ⟨g1, g2, g3⟩, h1, h2⟩
  · refine .inl ⟨h1, fun s hs a1 a2 => ?_⟩
    obtain ⟨t1, t2⟩ := to s hs
    exact h2 _ t1 (by rw [t2]; exact le4_ge hs) (by rw [t2]; exact a1) (by rw [t2]; exact a2)
  · refine .inr ⟨atF n, le4_of (atF_bnd (by omega) (by omega)) g1, g2, g3, h1, fun s hs a1 a2 => ?_⟩
    obtain ⟨t1, t2⟩ := to s hs
    have := h2 _ t1 (by rw [t2]; exact le4_ge hs) (by rw [t2]; exact a1) (by rw [t2]; exact a2)
    rw [t2] at this
    exact this
theorem least_fold (b : BinT) (r : List BinT) (f : FansT) : ∀ (l : List FansT) (v : Int), l.foldl (leastStep b r f) v ≤ v ∧
    (∀ s, s ∈ l → GX.Fa.fitsB b s = true → l.foldl (leastStep b r f) v ≤ GX.Fa.lossV b s + GX.Fa.least r (GX.Fa.less f s)) ∧
    (l.foldl (leastStep b r f) v = v ∨ ∃ s, s ∈ l ∧ GX.Fa.fitsB b s = true ∧ l.foldl (leastStep b r f) v = GX.Fa.lossV b s + GX.Fa.least r (GX.Fa.less f s))
  | [], v => ⟨Int.le_refl _, fun s hs => by simp at hs, .inl rfl⟩
  | x :: l, v => by
    rw [List.foldl_cons]
    obtain ⟨h1, h2, h3⟩ := least_fold b r f l (leastStep b r f v x)
    have hx : leastStep b r f v x ≤ v ∧ (GX.Fa.fitsB b x = true → leastStep b r f v x ≤ GX.Fa.lossV b x + GX.Fa.least r (GX.Fa.less f x)) ∧ (leastStep b r f v x = v ∨ (GX.Fa.fitsB b x = true ∧ leastStep b r f v x = GX.Fa.lossV b x + GX.Fa.least r (GX.Fa.less f x))) := by
      unfold leastStep
      by_cases hf : GX.Fa.fitsB b x = true
      · rw [if_pos hf]
        split
        · exact ⟨by omega, fun _ => Int.le_refl _, .inr ⟨hf, rfl⟩⟩
        · exact ⟨Int.le_refl _, fun _ => by omega, .inl rfl⟩
      · rw [if_neg hf]
        exact ⟨Int.le_refl _, fun h => absurd h hf, .inl rfl⟩
    refine ⟨by omega, fun s hs hf => ?_, ?_⟩
    · rcases List.mem_cons.1 hs with rfl | hs
      · have := hx.2.1 hf; omega
      · exact h2 s hs hf
    · rcases h3 with h3 | ⟨s, hs, hf, h3⟩
      · rcases hx.2.2 with h4 | ⟨hf, h4⟩
        · exact .inl (h3.trans h4)
        · exact .inr ⟨x, by simp, hf, h3.trans h4⟩
      · exact .inr ⟨s, by simp [hs], hf, h3⟩

def supp (n : Nat) (f : FansT) : Prop := ∀ i, i < 4 → n ≤ i → at4 f i = 0
theorem at4_less (f s : FansT) : ∀ {i : Nat}, i < 4 → at4 (GX.Fa.less f s) i = at4 f i - at4 s i
  | 0, _ => rfl
  | 1, _ => rfl
  | 2, _ => rfl
  | 3, _ => rfl
  | k + 4, h => absurd h (by omega)
theorem le4_at {s f : FansT} (h : le4 s f) : ∀ {i : Nat}, i < 4 → 0 ≤ at4 s i ∧ at4 s i ≤ at4 f i
  | 0, _ => h.1
  | 1, _ => h.2.1
  | 2, _ => h.2.2.1
  | 3, _ => h.2.2.2
  | k + 4, h => absurd h (by omega)
theorem supp.le {n : Nat} {f s : FansT} (h : supp n f) (hs : le4 s f) : supp n s ∧ supp n (GX.Fa.less f s) := by
  refine ⟨fun i hi hn => ?_, fun i hi hn => ?_⟩
  · have := h i hi hn
    have := le4_at hs hi
    omega
  · have := h i hi hn
    have := le4_at hs hi
    rw [at4_less _ _ hi]; omega
def agree (n : Nat) (b b' : BinT) : Prop := ∀ s, F5 s → supp n s → GX.Fa.fitsB b s = GX.Fa.fitsB b' s ∧ (GX.Fa.fitsB b s = true → GX.Fa.lossV b s = GX.Fa.lossV b' s)
def agrees (n : Nat) : List BinT → List BinT → Prop
  | [], [] => True
  | b :: r, b' :: r' => agree n b b' ∧ agrees n r r'
  | _, _ => False
theorem cost_fit {b : BinT} {s : FansT} (hb : GX.Fa.fitsB b s = true → 0 ≤ GX.Fa.lossV b s) : 0 ≤ costF b s ↔ GX.Fa.fitsB b s = true := by
  unfold costF
  by_cases h : GX.Fa.fitsB b s = true
  · rw [if_pos h]; exact ⟨fun _ => h, fun _ => hb h⟩
  · rw [if_neg h]; exact ⟨fun h => by omega, fun h' => absurd h' h⟩
theorem cost_loss {b : BinT} {s : FansT} (h : GX.Fa.fitsB b s = true) : costF b s = GX.Fa.lossV b s := if_pos h
theorem tval_top {bs : List BinT} (h : Bins0 bs) {f : FansT} (hf : F5 f) : tval bs f < GX.Fa.NONE := by
  have h1 := (tval_bnd h f hf).2
  have := h.k
  unfold GX.Fa.NONE
  omega
theorem tval_least {n : Nat} : ∀ {bs bs' : List BinT}, agrees n bs bs' → Bins0 bs → ∀ {f : FansT}, F5 f → supp n f → GX.Fa.least bs' f = if tval bs f < 0 then GX.Fa.NONE else tval bs f
  | [], [], _, _, f, _, _ => by
    rw [GX.Fa.least]
    unfold tval
    by_cases h : GX.Fa.isNo f = true
    · rw [if_pos h, if_pos h]; rfl
    · rw [if_neg h, if_neg h]; rfl
  | [], _ :: _, h, _, _, _, _ => h.elim
  | _ :: _, [], h, _, _, _, _ => h.elim
  | b :: r, b' :: r', h, hb, f, hf, hs => by
    obtain ⟨ha, hr⟩ := h
    obtain ⟨b1, b2, b3⟩ := hb.cons
    have htop := tval_top hb hf
    obtain ⟨l1, l2, l3⟩ := least_fold b' r' f (GX.Fa.upTo f) GX.Fa.NONE
    rw [← least_cons] at l1 l2 l3
    have IH : ∀ s, le4 s f → GX.Fa.least r' (GX.Fa.less f s) = if tval r (GX.Fa.less f s) < 0 then GX.Fa.NONE else tval r (GX.Fa.less f s) := fun s h => tval_least hr b3 (le4_F5 h hf).2 (hs.le h).2
    have att : GX.Fa.least (b' :: r') f = GX.Fa.NONE ∨ ∃ s, le4 s f ∧ 0 ≤ costF b s ∧ 0 ≤ tval r (GX.Fa.less f s) ∧ GX.Fa.least (b' :: r') f = costF b s + tval r (GX.Fa.less f s) := by
      rcases l3 with l3 | ⟨s, hm, hfit, l3⟩
      · exact .inl l3
      · have hle := (mem_upTo hf.fok).1 hm
        have h5 := (le4_F5 hle hf).1
        have hsp := (hs.le hle).1
        obtain ⟨q1, q2⟩ := ha s h5 hsp
        rw [hfit] at q1
        have hc : 0 ≤ costF b s := (cost_fit (b2 s h5)).2 q1
        rw [IH s hle, ← q2 q1, ← cost_loss q1] at l3
        by_cases ht : tval r (GX.Fa.less f s) < 0
        · rw [if_pos ht] at l3; exact .inl (by omega)
        · rw [if_neg ht] at l3; exact .inr ⟨s, hle, hc, by omega, l3⟩
    have low : ∀ s, le4 s f → 0 ≤ tval r (GX.Fa.less f s) → 0 ≤ costF b s → GX.Fa.least (b' :: r') f ≤ costF b s + tval r (GX.Fa.less f s) := fun s hle ht hc => by
      have h5 := (le4_F5 hle hf).1
      have hfit := (cost_fit (b2 s h5)).1 hc
      obtain ⟨q1, q2⟩ := ha s h5 (hs.le hle).1
      have := l2 s ((mem_upTo hf.fok).2 hle) (q1 ▸ hfit)
      rw [IH s hle, if_neg (by omega), ← q2 hfit, ← cost_loss hfit] at this
      exact this
    have e : tval (b :: r) f = lstR b (tval r) f := rfl
    rw [e] at htop ⊢
    rcases lstR_spec (b := b) (rest := tval r) hf with ⟨v, hno⟩ | ⟨s, hle, ht, hc, v, hmin⟩
    · rw [v, if_pos (by omega)]
      rcases att with att | ⟨s, hle, hc, ht, _⟩
      · exact att
      · exact (hno s hle ht hc).elim
    · rw [if_neg (by omega)]
      have h1 := low s hle ht hc
      rcases att with att | ⟨s', hle', hc', ht', h'⟩
      · omega
      · have := hmin s' hle' ht' hc'
        omega
theorem can_tval {n : Nat} {bs bs' : List BinT} (h : agrees n bs bs') (hb : Bins0 bs) {f : FansT} (hf : F5 f) (hs : supp n f) : canF bs' f = decide (0 ≤ tval bs f) := by
  have h1 := tval_least h hb hf hs
  have h2 := tval_top hb hf
  unfold canF
  rw [h1, decide_eq_decide]
  split <;> omega

theorem leL_trans {a b c : List Int} (h1 : cmpL a b ≤ 0) (h2 : cmpL b c ≤ 0) : cmpL a c ≤ 0 := by
  by_cases e1 : cmpL a b = 0
  · rw [cmpL_zero e1]; exact h2
  · by_cases e2 : cmpL b c = 0
    · rw [← cmpL_zero e2]; exact h1
    · exact Int.le_of_lt (cmpL_trans (b := b) (by omega) (by omega))
theorem leL_anti {a b : List Int} (h1 : cmpL a b ≤ 0) (h2 : cmpL b a ≤ 0) : a = b := by
  rw [cmpL_neg a b] at h2
  exact cmpL_zero (by omega)

def smD (b : BinT) (r : List BinT) (f : FansT) (left : Int) (s : FansT) : Bool := GX.Fa.fitsB b s && decide (GX.Fa.lossV b s + GX.Fa.least r (GX.Fa.less f s) = left)
theorem pick_fold (b : BinT) (r : List BinT) (f : FansT) (left : Int) : ∀ (l : List FansT) (st : List Int × FansT × Bool), (st.2.2 = true → st.1 = listF st.2.1) →
    (l.foldl (smStep b r f left) st = st ∧ (∀ s, s ∈ l → smD b r f left s = true → st.2.2 = true ∧ cmpL st.1 (listF s) ≤ 0)) ∨
    ((l.foldl (smStep b r f left) st).2.2 = true ∧ (l.foldl (smStep b r f left) st).1 = listF (l.foldl (smStep b r f left) st).2.1 ∧ ((l.foldl (smStep b r f left) st).2.1 ∈ l ∧ smD b r f left (l.foldl (smStep b r f left) st).2.1 = true) ∧
      (∀ s, s ∈ l → smD b r f left s = true → cmpL (l.foldl (smStep b r f left) st).1 (listF s) ≤ 0) ∧ (st.2.2 = true → cmpL (l.foldl (smStep b r f left) st).1 st.1 ≤ 0))
  | [], st, h => .inl ⟨rfl, fun s hs => by simp at hs⟩
  | x :: l, st, h => by
    rw [List.foldl_cons]
    have hx : (smStep b r f left st x = st ∧ (smD b r f left x = true → st.2.2 = true ∧ cmpL st.1 (listF x) ≤ 0)) ∨ (smStep b r f left st x = (listF x, x, true) ∧ smD b r f left x = true ∧ (st.2.2 = true → cmpL (listF x) st.1 ≤ 0)) := by
      have e : smStep b r f left st x = if smD b r f left x then (if !st.2.2 || decide (cmpL (listF x) st.1 < 0) then (listF x, x, true) else st) else st := rfl
      rw [e]
      by_cases hd : smD b r f left x = true
      · rw [if_pos hd]
        by_cases hc : (!st.2.2 || decide (cmpL (listF x) st.1 < 0)) = true
        · rw [if_pos hc]
          refine .inr ⟨rfl, hd, fun ht => ?_⟩
          rw [ht] at hc
          have : cmpL (listF x) st.1 < 0 := by simpa using hc
          omega
        · rw [if_neg hc]
          refine .inl ⟨rfl, fun _ => ?_⟩
          simp only [Bool.or_eq_true, Bool.not_eq_true', decide_eq_true_eq, not_or] at hc
          refine ⟨by cases h : st.2.2 <;> simp_all, ?_⟩
          have := cmpL_neg (listF x) st.1
          omega
      · rw [if_neg hd]
        exact .inl ⟨rfl, fun h => absurd h hd⟩
    rcases hx with ⟨e, hx⟩ | ⟨e, hd, hx⟩
    · rw [e]
      rcases pick_fold b r f left l st h with ⟨g1, g2⟩ | ⟨g1, g2, ⟨g3, g4⟩, g5, g6⟩
      · refine .inl ⟨g1, fun s hs hd => ?_⟩
        rcases List.mem_cons.1 hs with rfl | hs
        · exact hx hd
        · exact g2 s hs hd
      · refine .inr ⟨g1, g2, ⟨by simp [g3], g4⟩, fun s hs hd => ?_, g6⟩
        rcases List.mem_cons.1 hs with rfl | hs
        · obtain ⟨q1, q2⟩ := hx hd
          exact leL_trans (g6 q1) q2
        · exact g5 s hs hd
    · rw [e]
      rcases pick_fold b r f left l (listF x, x, true) (fun _ => rfl) with ⟨g1, g2⟩ | ⟨g1, g2, ⟨g3, g4⟩, g5, g6⟩
      · rw [g1]
        refine .inr ⟨rfl, rfl, ⟨by simp, hd⟩, fun s hs hd => ?_, hx⟩
        rcases List.mem_cons.1 hs with rfl | hs
        · show cmpL (listF s) (listF s) ≤ 0
          rw [cmpL_self]; exact Int.le_refl _
        · exact (g2 s hs hd).2
      · refine .inr ⟨g1, g2, ⟨by simp [g3], g4⟩, fun s hs hd => ?_, fun ht => leL_trans (g6 rfl) (hx ht)⟩
        rcases List.mem_cons.1 hs with rfl | hs
        · exact g6 rfl
        · exact g5 s hs hd
theorem pick_spec {b : BinT} {r : List BinT} {f : FansT} {left : Int} (hf : FOK f) {s0 : FansT} (h0 : le4 s0 f) (hd : smD b r f left s0 = true) :
    (smPick b r f left).1 = listF (smPick b r f left).2.1 ∧ le4 (smPick b r f left).2.1 f ∧ smD b r f left (smPick b r f left).2.1 = true ∧ ∀ s, le4 s f → smD b r f left s = true → cmpL (smPick b r f left).1 (listF s) ≤ 0 := by
  rcases pick_fold b r f left (GX.Fa.upTo f) ([], NO4, false) (fun h => by cases h) with ⟨g1, g2⟩ | ⟨g1, g2, ⟨g3, g4⟩, g5, g6⟩
  · have := (g2 s0 ((mem_upTo hf).2 h0) hd).1
    cases this
  · exact ⟨g2, (mem_upTo hf).1 g3, g4, fun s hs hd => g5 s ((mem_upTo hf).2 hs) hd⟩
theorem sm_eq {n : Nat} : ∀ {bs bs' : List BinT}, agrees n bs bs' → Bins0 bs → ∀ {f : FansT}, F5 f → supp n f → 0 ≤ tval bs f → smR bs (tval bs f) f = smGo bs' (tval bs f) f
  | [], [], _, _, f, _, _, _ => rfl
  | [], _ :: _, h, _, _, _, _, _ => h.elim
  | _ :: _, [], h, _, _, _, _, _ => h.elim
  | b :: r, b' :: r', h, hb, f, hf, hs, h0 => by
    obtain ⟨ha, hr⟩ := h
    obtain ⟨b1, b2, b3⟩ := hb.cons
    have htop := tval_top hb hf
    have same : ∀ s, le4 s f → smOK b r (tval (b :: r) f) f (listF s) = smD b' r' f (tval (b :: r) f) s := fun s hle => by
      have h5 := le4_F5 hle hf
      obtain ⟨q1, q2⟩ := ha s h5.1 (hs.le hle).1
      unfold smOK smD
      rw [numF_list h5.1.fok, tval_least hr b3 h5.2 (hs.le hle).2]
      by_cases hfit : GX.Fa.fitsB b s = true
      · have hc := (cost_fit (b2 s h5.1)).2 hfit
        rw [← q1, hfit, ← q2 hfit, ← cost_loss hfit, decide_eq_true hc, Bool.true_and, Bool.true_and]
        by_cases ht : tval r (GX.Fa.less f s) < 0
        · rw [if_pos ht, decide_eq_false (show ¬ 0 ≤ tval r (GX.Fa.less f s) by omega), Bool.false_and]
          exact (decide_eq_false (by omega)).symm
        · rw [if_neg ht, decide_eq_true (show 0 ≤ tval r (GX.Fa.less f s) by omega), Bool.true_and]
      · have hc : ¬ 0 ≤ costF b s := fun hc => hfit ((cost_fit (b2 s h5.1)).1 hc)
        rw [← q1, Bool.eq_false_iff.2 hfit, decide_eq_false hc]; rfl
    obtain ⟨s0, hle0, hok0⟩ : ∃ s, le4 s f ∧ smOK b r (tval (b :: r) f) f (listF s) = true := by
      have e : tval (b :: r) f = lstR b (tval r) f := rfl
      rcases lstR_spec (b := b) (rest := tval r) hf with ⟨v, hno⟩ | ⟨s, hle, ht, hc, v, hmin⟩
      · rw [e, v] at h0; omega
      · refine ⟨s, hle, ?_⟩
        unfold smOK
        rw [numF_list (le4_F5 hle hf).1.fok, decide_eq_true hc, decide_eq_true ht, e, v]
        simp
    obtain ⟨p1, p2, p3, p4⟩ := pick_spec (b := b') (r := r') (left := tval (b :: r) f) hf.fok hle0 (by rw [← same s0 hle0]; exact hok0)
    simp only [smR, smGo]
    cases hfd : (allL f).find? (smOK b r (tval (b :: r) f) f) with
    | none =>
      have := List.find?_eq_none.1 hfd (listF s0) ((allL_mem hf).2 ⟨s0, hle0, rfl⟩)
      exact absurd hok0 this
    | some l =>
      obtain ⟨q1, i, hi, hil, q2⟩ := List.find?_eq_some_iff_getElem.1 hfd
      obtain ⟨s, hle, rfl⟩ := (allL_mem hf).1 (hil ▸ List.getElem_mem hi)
      have hfirst : ∀ t, le4 t f → smOK b r (tval (b :: r) f) f (listF t) = true → cmpL (listF s) (listF t) ≤ 0 := fun t ht hok => by
        obtain ⟨j, hj, hjl⟩ := List.mem_iff_getElem.1 ((allL_mem hf).2 ⟨t, ht, rfl⟩)
        by_cases hij : j < i
        · have := q2 j hij
          rw [hjl, hok] at this
          cases this
        · by_cases e : i = j
          · subst e
            rw [← hil, ← hjl, cmpL_self]; exact Int.le_refl _
          · have := (List.pairwise_iff_getElem.1 (allL_order hf)) i j hi hj (by omega)
            rw [hil, hjl] at this
            omega
      have e1 : listF s = (smPick b' r' f (tval (b :: r) f)).1 := by
        refine leL_anti ?_ ?_
        · rw [p1]
          exact hfirst _ p2 (by rw [same _ p2]; exact p3)
        · exact p4 s hle (by rw [← same s hle]; exact q1)
      have hsf := (le4_F5 hle hf)
      have e2 : (smPick b' r' f (tval (b :: r) f)).2.1 = s := by
        have := congrArg numF (e1.trans p1)
        rw [numF_list hsf.1.fok, numF_list (le4_F5 p2 hf).1.fok] at this
        exact this.symm
      simp only
      rw [numF_list hsf.1.fok, e2, ← e1]
      unfold smOK at q1
      rw [numF_list hsf.1.fok] at q1
      simp only [Bool.and_eq_true, decide_eq_true_eq] at q1
      obtain ⟨⟨c1, c2⟩, c3⟩ := q1
      have hfit := (cost_fit (b2 s hsf.1)).1 c1
      have hq := (ha s hsf.1 (hs.le hle).1).2 hfit
      have e3 : tval (b :: r) f - costF b s = tval r (GX.Fa.less f s) := by omega
      have e4 : tval (b :: r) f - GX.Fa.lossV b' s = tval r (GX.Fa.less f s) := by rw [← hq, ← cost_loss hfit]; omega
      rw [e3, e4, sm_eq hr b3 hsf.2 (hs.le hle).2 c2]
theorem small_eq {n : Nat} {bs bs' : List BinT} (h : agrees n bs bs') (hb : Bins0 bs) {f : FansT} (hf : F5 f) (hs : supp n f) : listedF bs' f = if (smallR bs f).2 then ((smallR bs f).1, 0) else ([], 9) := by
  have h1 := tval_least h hb hf hs
  have h2 := tval_top hb hf
  unfold listedF smallR
  rw [h1]
  by_cases h3 : tval bs f < 0
  · rw [if_pos h3, if_pos h3, if_pos (Int.le_refl _)]; rfl
  · rw [if_neg h3, if_neg h3, if_neg (by omega)]
    unfold smallF
    rw [h1, if_neg h3, if_neg (by omega), sm_eq h hb hf hs (by omega)]
    rfl
end Go.Proofs.Fa
set_option linter.unusedVariables false
namespace Go.Proofs.Fa
open Go Go.GX Go.Proofs

theorem dot_at (s t : FansT) : GX.Fa.dot s t = at4 s 0 * at4 t 0 + at4 s 1 * at4 t 1 + at4 s 2 * at4 t 2 + at4 s 3 * at4 t 3 := rfl
theorem dot_supp {s : FansT} {g g' : Nat → Int} (h : ∀ i, i < 4 → at4 s i = 0 ∨ g i = g' i) : GX.Fa.dot s (tup4 g) = GX.Fa.dot s (tup4 g') := by
  have key : ∀ i, i < 4 → at4 s i * at4 (tup4 g) i = at4 s i * at4 (tup4 g') i := fun i hi => by
    rw [at4_tup _ hi, at4_tup _ hi]
    rcases h i hi with h | h
    · rw [h, Int.zero_mul, Int.zero_mul]
    · rw [h]
  rw [dot_at, dot_at, key 0 (by omega), key 1 (by omega), key 2 (by omega), key 3 (by omega)]
theorem dot_ge {s : FansT} {g : Nat → Int} (hs : ∀ i, i < 4 → 0 ≤ at4 s i) (hg : ∀ i, i < 4 → 0 ≤ g i) {i : Nat} (hi : i < 4) : at4 s i * g i ≤ GX.Fa.dot s (tup4 g) := by
  have key : ∀ i, i < 4 → 0 ≤ at4 s i * g i := fun i hi => Int.mul_nonneg (hs i hi) (hg i hi)
  rw [dot_at, at4_tup _ (show 0 < 4 by omega), at4_tup _ (show 1 < 4 by omega), at4_tup _ (show 2 < 4 by omega), at4_tup _ (show 3 < 4 by omega)]
  have h0 := key 0 (by omega)
  have h1 := key 1 (by omega)
  have h2 := key 2 (by omega)
  have h3 := key 3 (by omega)
  match i, hi with
  | 0, _ => omega
  | 1, _ => omega
  | 2, _ => omega
  | 3, _ => omega
theorem leaf_agree {n : Nat} {seam p : Int} {c : FansT} {e fi : Int} : agree n (tup4 fun i => at4 c i + seam, tup4 fun _ => e, p + seam, fi) (tup4 fun i => if i < n then at4 c i + seam else 0, tup4 fun i => if i < n then e else 0, p + seam, fi) := by
  intro s h5 hs
  have h1 : GX.Fa.dot s (tup4 fun i => at4 c i + seam) = GX.Fa.dot s (tup4 fun i => if i < n then at4 c i + seam else 0) := dot_supp fun i hi => by
    by_cases hn : i < n
    · exact .inr (by rw [if_pos hn])
    · exact .inl (hs i hi (by omega))
  have h2 : GX.Fa.dot s (tup4 fun _ => e) = GX.Fa.dot s (tup4 fun i => if i < n then e else 0) := dot_supp fun i hi => by
    by_cases hn : i < n
    · exact .inr (by rw [if_pos hn])
    · exact .inl (hs i hi (by omega))
  refine ⟨?_, fun _ => ?_⟩
  · show decide (GX.Fa.dot s (tup4 fun i => at4 c i + seam) ≤ p + seam) = decide (GX.Fa.dot s (tup4 fun i => if i < n then at4 c i + seam else 0) ≤ p + seam)
    rw [h1]
  · show GX.Fa.dot s (tup4 fun _ => e) + (if GX.Fa.isNo s then 0 else fi) = GX.Fa.dot s (tup4 fun i => if i < n then e else 0) + (if GX.Fa.isNo s then 0 else fi)
    rw [h2]
theorem leaves_agree {n : Nat} {seam : Int} {c : FansT} {e fi : Int} : ∀ ls : List Int, agrees n (leavesR ls seam c e fi) (leavesF ls seam n c e fi)
  | [] => trivial
  | p :: r => ⟨leaf_agree, leaves_agree r⟩
theorem F5.at0 {s : FansT} (h : F5 s) : ∀ i, i < 4 → 0 ≤ at4 s i := fun i hi => (all4_at h hi).1
theorem lot_agree {f : List Spring} {c : FansT} {l : Lot} (hl : 0 ≤ l.2 ∧ l.2 ≤ 200) (hc : all4 (fun x => 0 ≤ x) c) : agree f.length (lotR f c l) (lotB f c l) := by
  intro s h5 hs
  by_cases hx : ∃ i, i < 4 ∧ i < f.length ∧ (f.getD i ((0, 0), 0, 0)).2.2 > l.1 ∧ 1 ≤ at4 s i
  · obtain ⟨i, hi, hn, hw, h1⟩ := hx
    have r1 : GX.Fa.fitsB (lotR f c l) s = false := by
      have h := dot_ge (s := s) (g := fun i => if i < f.length then (if (f.getD i ((0, 0), 0, 0)).2.2 > l.1 then 1000 else at4 c i) else 0) h5.at0 (fun j hj => by
        split
        · split
          · omega
          · exact all4_at hc hj
        · omega) hi
      simp only [if_pos hn, if_pos hw] at h
      refine decide_eq_false ?_
      show ¬ GX.Fa.dot s (tup4 fun i => if i < f.length then (if (f.getD i ((0, 0), 0, 0)).2.2 > l.1 then 1000 else at4 c i) else 0) ≤ l.2
      omega
    have r2 : GX.Fa.fitsB (lotB f c l) s = false := by
      have h := dot_ge (s := s) (g := fun i => if i < f.length then (if (f.getD i ((0, 0), 0, 0)).2.2 > l.1 then l.2 + 1 else at4 c i) else 0) h5.at0 (fun j hj => by
        split
        · split
          · omega
          · exact all4_at hc hj
        · omega) hi
      simp only [if_pos hn, if_pos hw] at h
      have h2 : 1 * (l.2 + 1) ≤ at4 s i * (l.2 + 1) := Int.mul_le_mul_of_nonneg_right h1 (by omega)
      refine decide_eq_false ?_
      show ¬ GX.Fa.dot s (tup4 fun i => if i < f.length then (if (f.getD i ((0, 0), 0, 0)).2.2 > l.1 then l.2 + 1 else at4 c i) else 0) ≤ l.2
      omega
    exact ⟨r1.trans r2.symm, fun h => by rw [r1] at h; cases h⟩
  · have hz : ∀ i, i < 4 → i < f.length → (f.getD i ((0, 0), 0, 0)).2.2 > l.1 → at4 s i = 0 := fun i hi hn hw => by
      have h0 := h5.at0 i hi
      have : ¬ 1 ≤ at4 s i := fun h => hx ⟨i, hi, hn, hw, h⟩
      omega
    have h1 : GX.Fa.dot s (lotR f c l).1 = GX.Fa.dot s (lotB f c l).1 := dot_supp fun i hi => by
      by_cases hn : i < f.length
      · by_cases hw : (f.getD i ((0, 0), 0, 0)).2.2 > l.1
        · exact .inl (hz i hi hn hw)
        · exact .inr (by rw [if_pos hn, if_pos hn, if_neg hw, if_neg hw])
      · exact .inl (hs i hi (by omega))
    have h2 : GX.Fa.dot s (lotR f c l).2.1 = GX.Fa.dot s (lotB f c l).2.1 := dot_supp fun i hi => by
      by_cases hn : i < f.length
      · by_cases hw : (f.getD i ((0, 0), 0, 0)).2.2 > l.1
        · exact .inl (hz i hi hn hw)
        · exact .inr (by rw [if_pos hn, if_pos hn, if_neg hw])
      · exact .inl (hs i hi (by omega))
    refine ⟨?_, fun _ => ?_⟩
    · show decide (GX.Fa.dot s (lotR f c l).1 ≤ l.2) = decide (GX.Fa.dot s (lotB f c l).1 ≤ l.2)
      rw [h1]
    · show GX.Fa.dot s (lotR f c l).2.1 + (if GX.Fa.isNo s then 0 else 0) = GX.Fa.dot s (lotB f c l).2.1 + (if GX.Fa.isNo s then 0 else 0)
      rw [h2]
theorem lots_agree {f : List Spring} {c : FansT} (hc : all4 (fun x => 0 ≤ x) c) : ∀ ls : List Lot, (∀ l, l ∈ ls → 0 ≤ l.2 ∧ l.2 ≤ 200) → agrees f.length (lotsR ls f c) (lotsF ls f c)
  | [], _ => trivial
  | l :: r, h => ⟨lot_agree (h l (by simp)) hc, lots_agree hc r fun x hx => h x (by simp [hx])⟩
theorem want_supp (f : List Spring) : supp f.length (wantF f) := fun i hi hn => by
  show at4 (tup4 _) i = 0
  rw [at4_tup _ hi]
  exact if_neg (by omega)
theorem VOK.lva {s : Store} {f : List Spring} (v : VOK s f) {c : FansT} {e fi : Int} : agrees f.length (Fa.lvR s c e fi) (lvs (s, f, c) e fi) := leaves_agree _
theorem VOK.lta {s : Store} {f : List Spring} (v : VOK s f) {c : FansT} (hc : all4 (fun x => 0 ≤ x ∧ x ≤ 40) c) : agrees f.length (Fa.ltR s f c) (lts (s, f, c)) := lots_agree (cnt0 hc) _ fun l hl => (v.lt l hl).2
theorem en_eq {s : Store} {f : List Spring} (v : VOK s f) {c n : FansT} (hc : all4 (fun x => 0 ≤ x ∧ x ≤ 40) c) (hn : F5 n) (hs : supp f.length n) : makesF (s, f, c) n = enR s f c n := by
  unfold makesF enR
  rw [can_tval v.lva (v.lvR hc) hn hs, can_tval (v.lta hc) (v.ltR hc) hn hs]

theorem rise_eq {s : Store} {f : List Spring} (v : VOK s f) {k : Nat} : ∀ n : Nat, n ≤ 39 →
    riseGo s f k (n + 1) = (if (List.range n).foldl (fun b (j : Nat) => if enR s f (put4 (cH f) k ((j : Int) + 2)) (wantF f) then (j : Int) + 2 else b) 0 > 0 then ((List.range n).foldl (fun b (j : Nat) => if enR s f (put4 (cH f) k ((j : Int) + 2)) (wantF f) then (j : Int) + 2 else b) 0, 0) else (0, 9))
  | 0, _ => by simp [riseGo]
  | n + 1, h => by
    have ih := rise_eq v (k := k) n (by omega)
    rw [foldl_succ, riseGo, if_neg (by omega)]
    have e : ((n + 1 + 1 : Nat) : Int) = (n : Int) + 2 := by omega
    have eo : riseOK s f k ((n : Int) + 2) = enR s f (put4 (cH f) k ((n : Int) + 2)) (wantF f) := by
      unfold riseOK
      exact en_eq v (put_40 v.cH (by omega)) v.want4 (want_supp f)
    rw [e, eo]
    by_cases ho : enR s f (put4 (cH f) k ((n : Int) + 2)) (wantF f) = true
    · rw [if_pos ho, if_pos ho, if_pos (by omega)]
    · rw [if_neg ho, if_neg ho]; exact ih

theorem can_cons {b : BinT} {r : List BinT} {f : FansT} (hf : F5 f) : 0 ≤ tval (b :: r) f ↔ ∃ s, le4 s f ∧ 0 ≤ tval r (GX.Fa.less f s) ∧ 0 ≤ costF b s := by
  have e : tval (b :: r) f = lstR b (tval r) f := rfl
  rw [e]
  rcases lstR_spec (b := b) (rest := tval r) hf with ⟨v, hno⟩ | ⟨s, hle, ht, hc, v, hmin⟩
  · rw [v]
    exact ⟨fun h => by omega, fun ⟨s, h1, h2, h3⟩ => (hno s h1 h2 h3).elim⟩
  · exact ⟨fun _ => ⟨s, hle, ht, hc⟩, fun _ => by omega⟩
theorem NO4_le {f : FansT} (hf : F5 f) : le4 NO4 f := ⟨⟨Int.le_refl _, hf.1.1⟩, ⟨Int.le_refl _, hf.2.1.1⟩, ⟨Int.le_refl _, hf.2.2.1.1⟩, ⟨Int.le_refl _, hf.2.2.2.1⟩⟩
theorem less_NO4 (f : FansT) : GX.Fa.less f NO4 = f := by
  show (f.1 - 0, f.2.1 - 0, f.2.2.1 - 0, f.2.2.2 - 0) = f
  simp
theorem sum_less (f s : FansT) : sumF (GX.Fa.less f s) = sumF f - sumF s := by
  show (f.1 - s.1) + (f.2.1 - s.2.1) + (f.2.2.1 - s.2.2.1) + (f.2.2.2 - s.2.2.2) = (f.1 + f.2.1 + f.2.2.1 + f.2.2.2) - (s.1 + s.2.1 + s.2.2.1 + s.2.2.2)
  omega
theorem can_rep {b : BinT} (h0 : 0 ≤ costF b NO4) : ∀ (n m : Nat) {f : FansT}, F5 f → sumF f ≤ m → 0 ≤ tval (List.replicate n b) f → 0 ≤ tval (List.replicate m b) f
  | 0, m, f, hf, hm, h => by
    have hno : GX.Fa.isNo f = true := by
      cases hh : GX.Fa.isNo f with
      | true => rfl
      | false =>
        exfalso
        have h : 0 ≤ (if GX.Fa.isNo f then (0 : Int) else -1) := h
        rw [hh] at h
        exact absurd h (by decide)
    have key : ∀ m : Nat, 0 ≤ tval (List.replicate m b) f := by
      intro m
      induction m with
      | zero => show 0 ≤ (if GX.Fa.isNo f then (0 : Int) else -1); rw [hno]; decide
      | succ m ih =>
        rw [List.replicate_succ, can_cons hf]
        exact ⟨NO4, NO4_le hf, by rw [less_NO4]; exact ih, h0⟩
    exact key m
  | n + 1, m, f, hf, hm, h => by
    rw [List.replicate_succ, can_cons hf] at h
    obtain ⟨s, hle, ht, hc⟩ := h
    have h5 := le4_F5 hle hf
    rcases isNo_sum h5.1 with ⟨g1, g2⟩ | ⟨g1, g2⟩
    · have es : s = NO4 := by
        simp only [GX.Fa.isNo, Bool.and_eq_true, beq_iff_eq] at g1
        exact Prod.ext g1.1 (Prod.ext g1.2.1 (Prod.ext g1.2.2.1 g1.2.2.2))
      rw [es, less_NO4] at ht
      exact can_rep h0 n m hf hm ht
    · have hsl := sum_less f s
      have h0s : 0 ≤ sumF (GX.Fa.less f s) := by
        obtain ⟨⟨x1, _⟩, ⟨x2, _⟩, ⟨x3, _⟩, ⟨x4, _⟩⟩ := h5.2
        unfold sumF; omega
      cases m with
      | zero => omega
      | succ m =>
        rw [List.replicate_succ, can_cons hf]
        exact ⟨s, hle, can_rep h0 n m h5.2 (by omega) ht, hc⟩
theorem can_app {b : BinT} (h0 : 0 ≤ costF b NO4) (n m : Nat) : ∀ (A : List BinT) {f : FansT}, F5 f → sumF f ≤ m → 0 ≤ tval (A ++ List.replicate n b) f → 0 ≤ tval (A ++ List.replicate m b) f
  | [], f, hf, hm, h => can_rep h0 n m hf hm h
  | a :: A, f, hf, hm, h => by
    rw [List.cons_append, can_cons hf] at h ⊢
    obtain ⟨s, hle, ht, hc⟩ := h
    have h5 := le4_F5 hle hf
    have hs0 : 0 ≤ sumF s := by
      obtain ⟨⟨x1, _⟩, ⟨x2, _⟩, ⟨x3, _⟩, ⟨x4, _⟩⟩ := h5.1
      unfold sumF; omega
    exact ⟨s, hle, can_app h0 n m A h5.2 (by rw [sum_less]; omega) ht, hc⟩
theorem leaves_app (s : Store) (p : Int) (n : Nat) (c : FansT) : leavesR (s.1 ++ List.replicate n p) s.2.1 c 0 0 = leavesR s.1 s.2.1 c 0 0 ++ List.replicate n (tup4 fun i => at4 c i + s.2.1, tup4 fun _ => 0, p + s.2.1, 0) := by
  simp [leavesR]
theorem new_eq {s : Store} {f : List Spring} (v : VOK s f) {p : Int} (hp : 1 ≤ p ∧ p ≤ 200) : newF s f p = if newR s f p ≥ 0 then (newR s f p, 0) else (0, 9) := by
  have hw : F5 (wantF f) := v.want4
  have hsm := v.sm
  have hn6 := v.n6
  have hb : ∀ n, n ≤ 17 → Bins0 (leavesR (s.1 ++ List.replicate n p) s.2.1 (cH f) 0 0) := fun n hn => by
    have hl4 : ∀ l, l ∈ s.1 ++ List.replicate n p → bnd 400 l := fun l hl => by
      rcases List.mem_append.1 hl with hl | hl
      · exact v.lv4 l hl
      · rw [(List.mem_replicate.1 hl).2]; exact ⟨by omega, by omega⟩
    exact leavesR_ok (by simp; omega) hl4 v.sm4 (cnt400 v.cH) ⟨by omega, by omega⟩ ⟨by omega, by omega⟩ (by omega) (by omega)
  obtain ⟨ok, hok⟩ : ∃ ok : Nat → Bool, ok = fun n => decide (0 ≤ tval (leavesR (s.1 ++ List.replicate n p) s.2.1 (cH f) 0 0) (wantF f)) := ⟨_, rfl⟩
  have eN : newR s f p = match (List.range 17).find? ok with | some n => (n : Int) | none => -1 := by rw [hok]; rfl
  have e1 : ∀ n, n ≤ 17 → newOK s f p n = ok n := fun n hn => by
    rw [hok]
    exact can_tval (leaves_agree _) (hb n hn) hw (want_supp f)
  have hsum : 0 ≤ sumF (wantF f) ∧ sumF (wantF f) ≤ 16 := by
    obtain ⟨⟨a1, a2⟩, ⟨b1, b2⟩, ⟨c1, c2⟩, ⟨d1, d2⟩⟩ := hw
    unfold sumF; omega
  have h0 : 0 ≤ costF (tup4 fun i => at4 (cH f) i + s.2.1, tup4 fun _ => 0, p + s.2.1, 0) NO4 := by
    have hd : ∀ t : FansT, GX.Fa.dot NO4 t = 0 := fun t => by
      show (0 : Int) * t.1 + 0 * t.2.1 + 0 * t.2.2.1 + 0 * t.2.2.2 = 0
      simp
    have hf : GX.Fa.fitsB (tup4 fun i => at4 (cH f) i + s.2.1, tup4 fun _ => 0, p + s.2.1, 0) NO4 = true := decide_eq_true (by rw [hd]; show (0 : Int) ≤ p + s.2.1; omega)
    unfold costF
    rw [if_pos hf]
    unfold GX.Fa.lossV
    rw [hd]
    show (0 : Int) ≤ 0 + (if GX.Fa.isNo NO4 then 0 else 0)
    simp
  have more : ∀ n m : Nat, n ≤ 17 → m ≤ 17 → sumF (wantF f) ≤ m → ok n = true → ok m = true := fun n m hn hm hs h => by
    rw [hok] at h ⊢
    have h := of_decide_eq_true h
    refine decide_eq_true ?_
    rw [leaves_app] at h ⊢
    exact can_app h0 n m _ hw hs h
  have eF : newF s f p = match (List.range ((sumF (wantF f)).toNat + 1)).find? (newOK s f p) with | some n => ((n : Int), 0) | none => (0, 9) := rfl
  rw [eF, eN]
  cases hfd : (List.range ((sumF (wantF f)).toNat + 1)).find? (newOK s f p) with
  | some n =>
    rw [List.find?_range_eq_some] at hfd
    obtain ⟨g1, g2, g3⟩ := hfd
    have g2 : n < (sumF (wantF f)).toNat + 1 := by simpa using g2
    have : (List.range 17).find? ok = some n := by
      rw [List.find?_range_eq_some]
      refine ⟨by rw [← e1 n (by omega)]; exact g1, by simp; omega, fun j hj => ?_⟩
      have := g3 j hj
      rw [e1 j (by omega)] at this
      exact this
    rw [this]
    simp
  | none =>
    rw [List.find?_eq_none] at hfd
    have : (List.range 17).find? ok = none := by
      rw [List.find?_eq_none]
      intro n hn ho
      have hn : n < 17 := by simpa using hn
      have h1 := more n (sumF (wantF f)).toNat (by omega) (by omega) (by omega) ho
      exact hfd (sumF (wantF f)).toNat (by simp) (by rw [e1 _ (by omega)]; exact h1)
    rw [this]
    simp
end Go.Proofs.Fa
set_option linter.unusedVariables false
namespace Go.Proofs.Fa
open Go Go.GX Go.Proofs

theorem tail_list {l due : List (List Int)} {ok : Bool} {e : Int} {Q : Bool → Prop} (h : Q true) (he : (l, e) = if ok then (due, 0) else ([], 9)) :
    cnd ok (cnd (e == 0) (cnd (decide (l = due)) (f17_wp () () fun r => Q r) (Q false)) (Q false)) (cnd (e == 9) (l.length ≤ 9223372036854775807 → cnd ((l.length : Int) == 0) (f17_wp () () fun r => Q r) (Q false)) (Q false)) := by
  cases ok with
  | true =>
    obtain ⟨rfl, rfl⟩ := Prod.mk.inj he
    exact cndT (cndE rfl (cndD (c := l = l) rfl (known h)))
  | false =>
    obtain ⟨rfl, rfl⟩ := Prod.mk.inj he
    exact cndF (cndE rfl fun _ => cndE rfl (known h))
theorem p3 {s : Store} {f : List Spring} {Q : Bool → Prop} (h : fL2_wp (s, f, ()) () Q) : V3 s f Q := by
  have h : Q true := h
  refine large_iff (s := s) (f := f) h fun n1 n2 n3 => ⟨⟨n1, n2⟩, n3, ?_⟩
  refine same_iff (s := s) (f := f) (cndN rfl ?_)
  by_cases hc : checkF s f = 0
  · have v : VOK s f := vok_of hc
    have hb : Bins0 (Fa.lvR s (cH f) 0 1) := leavesR_ok (by have := v.n6; omega) v.lv4 v.sm4 (cnt400 v.cH) ⟨by omega, by omega⟩ ⟨by omega, by omega⟩ (by omega) (by omega)
    have e : resLeaves s f = if (smallR (Fa.lvR s (cH f) 0 1) (wantF f)).2 then ((smallR (Fa.lvR s (cH f) 0 1) (wantF f)).1, 0) else ([], 9) := by
      unfold resLeaves
      rw [if_neg (by simp [hc])]
      exact small_eq v.lva hb v.want4 (want_supp f)
    exact cndE hc ⟨_, ⟨v.f4, rfl⟩, _, ⟨⟨v.n500, v.lv4, v.sm4, cnt400 v.cH⟩, rfl⟩, _, ⟨v.f4, rfl⟩, _, ⟨⟨hb, v.want4⟩, rfl⟩, tail_list h e⟩
  · have e : resLeaves s f = ([], checkF s f) := by unfold resLeaves; rw [if_pos hc]
    refine cndEe hc ?_
    show cnd ((resLeaves s f).2 == checkF s f) ((resLeaves s f).1.length ≤ _ → cnd (((resLeaves s f).1.length : Int) == 0) _ _) _
    rw [e]
    exact cndE rfl fun _ => cndE rfl (known h)
theorem p4 {s : Store} {f : List Spring} {Q : Bool → Prop} (h : fL2_wp (s, f, ()) () Q) : V4 s f Q := by
  have h : Q true := h
  refine large_iff (s := s) (f := f) h fun n1 n2 n3 => ⟨⟨n1, n2⟩, n3, ?_⟩
  refine same_iff (s := s) (f := f) ?_
  by_cases hc : checkF s f = 0
  · have v : VOK s f := vok_of hc
    have hb := v.ltR v.cH
    have e : resLots s f = if (smallR (Fa.ltR s f (cH f)) (wantF f)).2 then ((smallR (Fa.ltR s f (cH f)) (wantF f)).1, 0) else ([], 9) := by
      unfold resLots
      rw [if_neg (by simp [hc])]
      exact small_eq (v.lta v.cH) hb v.want4 (want_supp f)
    exact cndE hc ⟨_, ⟨v.f4, rfl⟩, _, ⟨⟨v.m500, v.f4, v.lt4, v.sp4, cnt400 v.cH⟩, rfl⟩, _, ⟨v.f4, rfl⟩, _, ⟨⟨hb, v.want4⟩, rfl⟩, tail_list h e⟩
  · have e : resLots s f = ([], checkF s f) := by unfold resLots; rw [if_pos hc]
    refine cndEe hc ?_
    show cnd ((resLots s f).2 == checkF s f) ((resLots s f).1.length ≤ _ → cnd (((resLots s f).1.length : Int) == 0) _ _) _
    rw [e]
    exact cndE rfl fun _ => cndE rfl (known h)
theorem p5 {s : Store} {f : List Spring} {p : Int} {Q : Bool → Prop} (h : fL3_wp (s, f, p, ()) () Q) : V5 s f p Q := by
  have h : Q true := h
  refine large_iff (s := s) (f := f) h fun n1 n2 n3 => ⟨⟨n1, n2⟩, n3, ?_⟩
  show cnd (!(decide (s = s ∧ f = f))) _ (cnd (checkF s f == 0) (cnd (!(inB 1 200 p)) (cnd ((resNew s f p).2 == 7) (cnd ((resNew s f p).1 == 0) _ _) _) (cnd (checkF s f == 0) (_ ∧ cnd (decide (newR s f p ≥ 0)) (cnd ((resNew s f p).2 == 0) (cnd ((resNew s f p).1 == newR s f p) _ _) _) (cnd ((resNew s f p).2 == 9) (cnd ((resNew s f p).1 == 0) _ _) _)) _))
    (cnd (checkF s f == 0) _ (cnd ((resNew s f p).2 == checkF s f) (cnd ((resNew s f p).1 == 0) _ _) _)))
  refine same_iff ?_
  by_cases hc : checkF s f = 0
  · have v : VOK s f := vok_of hc
    refine cndE hc (cnd_iff.2 ⟨fun hp => ?_, fun hp => ?_⟩)
    · have hp : inB 1 200 p = false := by simpa using hp
      have e : resNew s f p = (0, 7) := by unfold resNew; rw [if_neg (by simp [hc]), if_pos hp]
      rw [e]
      exact cndE rfl (cndE rfl (known h))
    · have hp : inB 1 200 p = true := by simpa using hp
      have e : resNew s f p = if newR s f p ≥ 0 then (newR s f p, 0) else (0, 9) := by
        unfold resNew; rw [if_neg (by simp [hc]), if_neg (by simp [hp])]
        exact new_eq v (inB_iff.1 hp)
      refine cndE hc ⟨⟨hc, hp⟩, ?_⟩
      rw [e]
      by_cases hn : newR s f p ≥ 0
      · rw [if_pos hn]
        exact cndD hn (cndE rfl (cndE rfl (known h)))
      · rw [if_neg hn, decide_eq_false hn]
        exact cndF (cndE rfl (cndE rfl (known h)))
  · have e : resNew s f p = (0, checkF s f) := by unfold resNew; rw [if_pos hc]
    rw [e]
    exact cndEe hc (cndEe hc (cndE rfl (cndE rfl (known h))))
theorem loss_eq {s : Store} {f : List Spring} (v : VOK s f) : lossF s f = if (lossR s f).1 ≥ 0 ∧ (lossR s f).2 ≥ 0 then ((lossR s f).1, (lossR s f).2, 0) else (0, 0, 9) := by
  have hw : F5 (wantF f) := v.want4
  have h1 := tval_least (bs' := lvs (s, f, cH f) s.2.1 (-s.2.1)) v.lva (v.lvS v.cH) hw (want_supp f)
  have h2 := tval_least (v.lta v.cH) (v.ltR v.cH) hw (want_supp f)
  have b1 := tval_bnd (v.lvS v.cH) _ hw
  have b2 := tval_top (v.ltR v.cH) hw
  have n6 := v.n6
  have hl : (Fa.lvR s (cH f) s.2.1 (-s.2.1)).length = s.1.length := by simp [Fa.lvR, leavesR]
  rw [hl] at b1
  unfold lossF lossR
  rw [h1, h2]
  simp only
  by_cases c1 : tval (Fa.lvR s (cH f) s.2.1 (-s.2.1)) (wantF f) < 0
  · rw [if_pos c1, if_pos (by simp [GX.Fa.NONE]), if_neg (by omega)]
  · by_cases c2 : tval (Fa.ltR s f (cH f)) (wantF f) < 0
    · rw [if_pos c2, if_pos (by simp [GX.Fa.NONE]), if_neg (by omega)]
    · rw [if_neg c1, if_neg c2, if_neg, if_pos ⟨by omega, by omega⟩]
      simp only [Bool.or_eq_true, decide_eq_true_eq]
      omega
theorem p8 {s : Store} {f : List Spring} {Q : Bool → Prop} (h : fL2_wp (s, f, ()) () Q) : V8 s f Q := by
  have h : Q true := h
  refine large_iff (s := s) (f := f) h fun n1 n2 n3 => ⟨⟨n1, n2⟩, n3, ?_⟩
  show cnd (!(decide (s = s ∧ f = f))) _ (cnd (checkF s f == 0) (_ ∧ cnd (decide ((lossR s f).1 ≥ 0)) (cnd (decide ((lossR s f).2 ≥ 0)) (cnd ((resLoss s f).2.2 == 0) (cnd ((resLoss s f).1 == (lossR s f).1) (cnd ((resLoss s f).2.1 == (lossR s f).2) _ _) _) _)
    (cnd ((resLoss s f).2.2 == 9) (cnd ((resLoss s f).1 == 0) (cnd ((resLoss s f).2.1 == 0) _ _) _) _)) (cnd ((resLoss s f).2.2 == 9) (cnd ((resLoss s f).1 == 0) (cnd ((resLoss s f).2.1 == 0) _ _) _) _))
    (cnd ((resLoss s f).2.2 == checkF s f) (cnd ((resLoss s f).1 == 0) (cnd ((resLoss s f).2.1 == 0) _ _) _) _))
  refine same_iff ?_
  by_cases hc : checkF s f = 0
  · have v : VOK s f := vok_of hc
    have e : resLoss s f = if (lossR s f).1 ≥ 0 ∧ (lossR s f).2 ≥ 0 then ((lossR s f).1, (lossR s f).2, 0) else (0, 0, 9) := by
      unfold resLoss; rw [if_neg (by simp [hc])]
      exact loss_eq v
    rw [e]
    refine cndE hc ⟨hc, ?_⟩
    by_cases c1 : (lossR s f).1 ≥ 0
    · by_cases c2 : (lossR s f).2 ≥ 0
      · rw [if_pos ⟨c1, c2⟩]
        exact cndD c1 (cndD c2 (cndE rfl (cndE rfl (cndE rfl (known h)))))
      · rw [if_neg (fun h => c2 h.2), decide_eq_false c2]
        exact cndD c1 (cndF (cndE rfl (cndE rfl (cndE rfl (known h)))))
    · rw [if_neg (fun h => c1 h.1), decide_eq_false c1]
      exact cndF (cndE rfl (cndE rfl (cndE rfl (known h))))
  · have e : resLoss s f = (0, 0, checkF s f) := by unfold resLoss; rw [if_pos hc]
    rw [e]
    exact cndEe hc (cndE rfl (cndE rfl (cndE rfl (known h))))
theorem p9 {s : Store} {f : List Spring} {k : Int} {Q : Bool → Prop} (h : fL3_wp (s, f, k, ()) () Q) : V9 s f k Q := by
  have h : Q true := h
  refine large_iff (s := s) (f := f) h fun n1 n2 n3 => ⟨⟨n1, n2⟩, n3, ?_⟩
  have eW : IntKind.wrap .i64 ((f.length : Int) - 1) = (f.length : Int) - 1 := wrapS (by omega) (by omega)
  show cnd (!(decide (s = s ∧ f = f))) _ (cnd (checkF s f == 0) (_ → cnd (!(inB 0 (IntKind.wrap .i64 ((f.length : Int) - 1)) k)) (cnd ((resRise s f k).2 == 7) (cnd ((resRise s f k).1 == 0) _ _) _) (cnd (checkF s f == 0) (_ ∧ cnd (decide (riseR s f k.toNat > 0)) (cnd ((resRise s f k).2 == 0) (cnd ((resRise s f k).1 == riseR s f k.toNat) _ _) _) (cnd ((resRise s f k).2 == 9) (cnd ((resRise s f k).1 == 0) _ _) _)) _))
    (cnd (checkF s f == 0) _ (cnd ((resRise s f k).2 == checkF s f) (cnd ((resRise s f k).1 == 0) _ _) _)))
  rw [eW]
  refine same_iff ?_
  by_cases hc : checkF s f = 0
  · have v : VOK s f := vok_of hc
    refine cndE hc fun _ => cnd_iff.2 ⟨fun hp => ?_, fun hp => ?_⟩
    · have hp : inB 0 ((f.length : Int) - 1) k = false := by simpa using hp
      have e : resRise s f k = (0, 7) := by unfold resRise; rw [if_neg (by simp [hc]), if_pos hp]
      rw [e]
      exact cndE rfl (cndE rfl (known h))
    · have hp : inB 0 ((f.length : Int) - 1) k = true := by simpa using hp
      have e : resRise s f k = if riseR s f k.toNat > 0 then (riseR s f k.toNat, 0) else (0, 9) := by
        unfold resRise; rw [if_neg (by simp [hc]), if_neg (by simp [hp])]
        exact rise_eq v 39 (by omega)
      have hk := inB_iff.1 hp
      refine cndE hc ⟨⟨hc, hk.1, by show k < (f.length : Int); omega⟩, ?_⟩
      rw [e]
      by_cases hn : riseR s f k.toNat > 0
      · rw [if_pos hn]
        exact cndD hn (cndE rfl (cndE rfl (known h)))
      · rw [if_neg hn, decide_eq_false hn]
        exact cndF (cndE rfl (cndE rfl (known h)))
  · have e : resRise s f k = (0, checkF s f) := by unfold resRise; rw [if_pos hc]
    rw [e]
    exact cndEe hc (cndEe hc (cndE rfl (cndE rfl (known h))))
end Go.Proofs.Fa
set_option maxRecDepth 100000
set_option maxHeartbeats 0
namespace Go.Proofs.Fa
open Go Go.GX Go.Proofs
variable [Inhabited BaseD]
theorem ok5 : CallsOK Try.prog (assoc glT) 5 f5_ct :=
  callsOK_mkM [] st_ok mp_ok it_ok mk_ok in_ok (AllOK.cons ok16 (AllOK.cons ok17 (AllOK.cons ok18 (AllOK.cons ok19 (AllOK.cons ok31 (AllOK.cons ok23 (AllOK.cons ok22 (AllOK.cons ok32 (AllOK.cons ok33 AllOK.nil))))))))) no_an Try.func5 (by kernel_rfl) (by kernel_rfl) f5_ct fun ⟨s, f, p, _⟩ _ Q h => (v5 s f p Q).mp (p5 h)
theorem ok8 : CallsOK Try.prog (assoc glT) 8 f8_ct :=
  callsOK_mkM [] st_ok mp_ok it_ok mk_ok in_ok (AllOK.cons ok16 (AllOK.cons ok17 (AllOK.cons ok18 (AllOK.cons ok19 (AllOK.cons ok39 (AllOK.cons ok23 (AllOK.cons ok22 (AllOK.cons ok40 AllOK.nil)))))))) no_an Try.func8 (by kernel_rfl) (by kernel_rfl) f8_ct fun ⟨s, f, _⟩ _ Q h => (v8 s f Q).mp (p8 h)
theorem ok9 : CallsOK Try.prog (assoc glT) 9 f9_ct :=
  callsOK_mkM [] st_ok mp_ok it_ok mk_ok in_ok (AllOK.cons ok16 (AllOK.cons ok17 (AllOK.cons ok18 (AllOK.cons ok19 (AllOK.cons ok41 (AllOK.cons ok23 (AllOK.cons ok22 (AllOK.cons ok32 (AllOK.cons ok42 AllOK.nil))))))))) no_an Try.func9 (by kernel_rfl) (by kernel_rfl) f9_ct fun ⟨s, f, k, _⟩ _ Q h => (v9 s f k Q).mp (p9 h)
end Go.Proofs.Fa
set_option linter.unusedVariables false
namespace Go.GX
variable [Inhabited BaseD]
open Go.RowKit Go.Shelf Go.Proofs

inductive Tgt where
  | ty (t : TypeId)
  | fs (l : List Field) (off : Nat)

def Tgt.one (P : Program) (n : Nat) : Tgt → Option TypeId
  | .ty t => some t
  | .fs [f] off => cond (Nat.beq f.offset off && Nat.beq (P.cellsOf f.type) n) (some f.type) none
  | .fs _ _ => none

def arrF (P : Program) (e : TypeId) (n : Nat) : List Field := (List.range n).map fun i => ⟨"", e, i * P.cellsOf e, false, "", "", 0⟩

def Kd.rng : (K : Kd) → K.T → Prop
  | .int k, x => (Lit.int k x).wf = true
  | .pair A B, x => A.rng x.1 ∧ B.rng x.2
  | .agg K, x => K.rng x
  | .sl _ K, xs => ∀ x, x ∈ (show List K.T from xs) → K.rng x
  | _, _ => True

def fitK (P : Program) : Kd → Tgt → Bool
  | .pair A B, .fs (f :: r) off => Nat.beq f.offset off && Nat.beq (P.cellsOf f.type) A.n && fitK P A (.ty f.type) && fitK P B (.fs r (off + A.n))
  | .pair _ _, _ => false
  | .unit, _ => false
  | .int k, s => match s.one P 1 with
    | some t => match P.underlying t with
      | some (.int k') => decide (k' = k)
      | _ => false
    | none => false
  | .bool, s => match s.one P 1 with
    | some t => match P.underlying t with
      | some .bool => true
      | _ => false
    | none => false
  | .sl e K, s => match s.one P 1 with
    | some t => match P.underlying t with
      | some (.slice e') => Nat.beq e' e && Nat.beq (P.cellsOf e) K.n && Nat.ble 1 K.n && fitK P K (.ty e)
      | _ => false
    | none => false
  | .agg K, s => match s.one P K.n with
    | some t => match P.underlying t with
      | some (.struct fs) => Nat.beq (P.cellsOf t) K.n && fitK P K (.fs fs.toList 0)
      | some (.array n e) => Nat.beq (P.cellsOf t) K.n && fitK P K (.fs (arrF P e n) 0)
      | _ => false
    | none => false
  | _, _ => false

section
variable {H : Type} {enc : TypeId × Value → H} {P : Program} {W : World} {base : Nat} {spare : Nat → Bool} {held : Bool}

def Reads (enc : TypeId × Value → H) (P : Program) (W : World) (base : Nat) (spare : Nat → Bool) (held : Bool) : Tgt → List Value → Prop
  | .ty t, cs => ∃ fuel x, DataW.trod enc P W base spare held fuel t cs = some x
  | .fs l off, cs => ∀ (i : Nat) (f : Field), l[i]? = some f → ∃ fuel x, DataW.trod enc P W base spare held fuel f.type ((cs.drop f.offset).take (P.cellsOf f.type)) = some x

def Tgt.cut (n : Nat) : Tgt → List Value → List Value
  | .ty _, cs => cs
  | .fs _ off, cs => (cs.drop off).take n

theorem one_reads {n : Nat} {s : Tgt} {t : TypeId} {cs : List Value} (h : s.one P n = some t) (hr : Reads enc P W base spare held s cs) : ∃ fuel x, DataW.trod enc P W base spare held fuel t (s.cut n cs) = some x := by
  cases s with
  | ty t' => cases h; exact hr
  | fs l off =>
    match l, h with
    | [f], h =>
      simp only [Tgt.one] at h
      cases hb : Nat.beq f.offset off && Nat.beq (P.cellsOf f.type) n with
      | false => rw [hb] at h; cases h
      | true =>
        rw [hb] at h; cases h
        rw [Bool.and_eq_true] at hb
        have h1 := Nat.eq_of_beq_eq_true hb.1
        have h2 := Nat.eq_of_beq_eq_true hb.2
        obtain ⟨fuel, x, hx⟩ := hr 0 f rfl
        exact ⟨fuel, x, by rw [h1, h2] at hx; exact hx⟩

theorem cut0 {l : List Field} {n : Nat} {z : List Value} (h : z.length = n) : (Tgt.fs l 0).cut n z = z := by
  show (z.drop 0).take n = z
  rw [List.drop_zero]
  exact List.take_of_length_le (by omega)
theorem cells?_cell {a : Addr} {n : Nat} {cs : List Value} (h : W.cells? base a n = some cs) : ∀ (i : Nat) u, cs[i]? = some u → W.cell? (a.add i) = some u := by
  unfold World.cells? at h
  split at h
  · intro i u hu
    have hl := mapM_some_length h
    have hi : i < cs.length := (List.getElem?_eq_some_iff.1 hu).1
    have hln : cs.length = n := by simpa using hl
    have := mapM_some_get h i i (List.getElem?_range (by omega))
    rw [this, hu]
  · cases h

theorem fit_rng : ∀ (K : Kd) (s : Tgt) (cs : List Value), fitK P K s = true → Reads enc P W base spare held s cs → (∀ l off, s = .fs l off → off + K.n ≤ cs.length) → ∃ y : K.T, (K.sem P).cells (fun _ => False) W y (s.cut K.n cs) ∧ K.rng y := by
  intro K
  induction K with
  | int k =>
    intro s cs h hr hl
    simp only [fitK] at h
    split at h
    · rename_i t ht
      obtain ⟨fuel, x, hx⟩ := one_reads ht hr
      split at h
      · rename_i k' hu
        have hk := of_decide_eq_true h
        subst hk
        obtain ⟨n, hn, _, hwf⟩ := DataW.trod_int hu hx
        exact ⟨n, ⟨_, hn, rfl, rfl⟩, hwf⟩
      · cases h
    · cases h
  | bool =>
    intro s cs h hr hl
    simp only [fitK] at h
    split at h
    · rename_i t ht
      obtain ⟨fuel, x, hx⟩ := one_reads ht hr
      split at h
      · rename_i hu
        obtain ⟨b, hb, _⟩ := DataW.trod_bool hu hx
        exact ⟨b, ⟨_, hb, rfl, rfl⟩, trivial⟩
      · cases h
    · cases h
  | sl e K ih =>
    intro s cs h hr hl
    simp only [fitK] at h
    split at h
    · rename_i t ht
      obtain ⟨fuel, x, hx⟩ := one_reads ht hr
      split at h
      · rename_i e' hu
        simp only [Bool.and_eq_true] at h
        obtain ⟨⟨⟨h1, h2⟩, hpos⟩, h3⟩ := h
        have hpos := Nat.le_of_ble_eq_true hpos
        obtain rfl := Nat.eq_of_beq_eq_true h1
        have hc := Nat.eq_of_beq_eq_true h2
        rcases DataW.trod_slice hu hx with ⟨hcs, _⟩ | ⟨a, len, cap, elems, rest, n, _, hcs, _, hb, hlc, hcap, hlen, hel, _, _⟩
        · exact ⟨([] : List K.T), ⟨_, hcs, rfl, none, 0, rfl, Nat.le_refl _, by unfold maxLen; omega, fun h => absurd rfl h⟩, fun x hx => (by cases hx)⟩
        · have key : ∀ i : Nat, i < len → ∃ y : K.T, ∃ ecs : List Value, W.cells? base (a.add (i * K.n)) K.n = some ecs ∧ (K.sem P).cells (fun _ => False) W y ecs ∧ K.rng y := by
            intro i hi
            have he := hel i hi
            rw [List.getElem?_eq_getElem (by omega)] at he
            obtain ⟨cs', g1, g2⟩ := Option.bind_eq_some_iff.1 he
            rw [hc] at g1
            obtain ⟨y, hy⟩ := ih (.ty e') cs' h3 ⟨_, _, g2⟩ (fun _ _ h => by cases h)
            exact ⟨y, cs', g1, hy⟩
          have all : ∀ k : Nat, k ≤ len → ∃ ys : List K.T, ys.length = k ∧ ∀ (i : Nat) y, ys[i]? = some y → ∃ ecs : List Value, W.cells? base (a.add (i * K.n)) K.n = some ecs ∧ (K.sem P).cells (fun _ => False) W y ecs ∧ K.rng y := by
            intro k
            induction k with
            | zero => intro _; exact ⟨[], rfl, fun i y h => by simp at h⟩
            | succ k ihk =>
              intro hk
              obtain ⟨ys, hyl, hys⟩ := ihk (by omega)
              obtain ⟨y, ecs, g1, g2⟩ := key k (by omega)
              refine ⟨ys ++ [y], by simp [hyl], fun i z hz => ?_⟩
              by_cases hi : i < ys.length
              · rw [List.getElem?_append_left hi] at hz
                exact hys i z hz
              · have hi' : i = ys.length := by
                  have := (List.getElem?_eq_some_iff.1 hz).1
                  simp at this; omega
                subst hi'
                rw [List.getElem?_concat_length] at hz
                cases hz
                rw [hyl]
                exact ⟨ecs, g1, g2⟩
          obtain ⟨ys, hyl, hys⟩ := all len (Nat.le_refl _)
          refine ⟨ys, ⟨_, hcs, rfl, some a, cap, by rw [hyl], by rw [hyl]; exact hlc, hcap, fun hne => ⟨a, rfl, fun h => h, ?_, fun j y hy => ?_⟩⟩, fun y hy => by
            obtain ⟨j, hj, rfl⟩ := List.mem_iff_getElem.1 hy
            obtain ⟨_, _, _, g3⟩ := hys j _ (List.getElem?_eq_getElem hj)
            exact g3⟩
          · obtain ⟨y0, hy0⟩ : ∃ y0, ys[0]? = some y0 := ⟨ys[0]'(List.length_pos_iff.2 hne), List.getElem?_eq_getElem _⟩
            obtain ⟨ecs, g1, g2, _⟩ := hys 0 y0 hy0
            rw [Nat.zero_mul] at g1
            have hn : 0 < ecs.length := by rw [Kd.cells_length P K g2]; exact hpos
            have := World.block_lt_of_cell? W _ (cells?_cell g1 0 (ecs[0]'hn) (List.getElem?_eq_getElem hn))
            simpa [add_block] using this
          · obtain ⟨ecs, g1, g2, _⟩ := hys j y hy
            refine ⟨ecs, g2, fun i u hu => ?_⟩
            have := cells?_cell g1 i u hu
            rwa [addAdd] at this
      · cases h
    · cases h
  | agg K ih =>
    intro s cs h hr hl
    simp only [fitK] at h
    split at h
    · rename_i t ht
      obtain ⟨fuel, x, hx⟩ := one_reads ht hr
      split at h
      · rename_i fs hu
        rw [Bool.and_eq_true] at h
        have hc := Nat.eq_of_beq_eq_true h.1
        obtain ⟨xs, n, _, _, hlen, hxl, hf⟩ := DataW.trod_struct hu hx
        obtain ⟨y, hy⟩ := ih (.fs fs.toList 0) (s.cut K.n cs) h.2 (fun i f hi => by
          have hi' : fs[i]? = some f := by simpa using hi
          have := hf i f hi'
          have hlt : i < xs.length := by rw [hxl]; exact (Array.getElem?_eq_some_iff.1 hi').1
          rw [List.getElem?_eq_getElem hlt] at this
          exact ⟨_, _, this⟩) (fun l off h => by cases h; rw [hlen, hc]; omega)
        refine ⟨y, ?_⟩
        have := cut0 (l := fs.toList) (n := K.n) (z := s.cut K.n cs) (by rw [hlen, hc])
        rw [this] at hy
        exact hy
      · rename_i n e hu
        rw [Bool.and_eq_true] at h
        have hc := Nat.eq_of_beq_eq_true h.1
        obtain ⟨xs, n', _, _, hlen, hxl, hf⟩ := DataW.trod_array hu hx
        obtain ⟨y, hy⟩ := ih (.fs (arrF P e n) 0) (s.cut K.n cs) h.2 (fun i f hi => by
          unfold arrF at hi
          rw [List.getElem?_map] at hi
          obtain ⟨i', hi', rfl⟩ := Option.map_eq_some_iff.1 hi
          have hin : i < n := by
            have := (List.getElem?_eq_some_iff.1 hi').1
            simpa using this
          rw [List.getElem?_range hin] at hi'
          cases hi'
          have := hf i hin
          rw [List.getElem?_eq_getElem (by omega)] at this
          exact ⟨_, _, this⟩) (fun l off h => by cases h; rw [hlen, hc]; omega)
        refine ⟨y, ?_⟩
        have := cut0 (l := arrF P e n) (n := K.n) (z := s.cut K.n cs) (by rw [hlen, hc])
        rw [this] at hy
        exact hy
      · cases h
    · cases h
  | pair A B ihA ihB =>
    intro s cs h hr hl
    match s, h with
    | .fs (f :: r) off, h =>
      simp only [fitK, Bool.and_eq_true] at h
      obtain ⟨⟨⟨h1, h2⟩, h3⟩, h4⟩ := h
      have h1 := Nat.eq_of_beq_eq_true h1
      have h2 := Nat.eq_of_beq_eq_true h2
      have hll := hl _ _ rfl
      simp only [Kd.n] at hll
      obtain ⟨fuel, x, hx⟩ := hr 0 f rfl
      obtain ⟨ya, hya, rya⟩ := ihA (.ty f.type) _ h3 ⟨fuel, x, hx⟩ (fun _ _ h => by cases h)
      obtain ⟨yb, hyb, ryb⟩ := ihB (.fs r (off + A.n)) cs h4 (fun i f' hi => hr (i + 1) f' (by simpa using hi)) (fun l o h => by cases h; omega)
      refine ⟨(ya, yb), ⟨_, _, ?_, hya, hyb⟩, rya, ryb⟩
      simp only [Tgt.cut, h1, h2, Kd.n]
      rw [List.take_add, List.drop_drop]
  | _ =>
    intro s cs h hr hl
    first
      | (simp only [fitK] at h; done)
      | (unfold fitK at h; cases h)
      | cases h
end
end Go.GX
set_option maxRecDepth 100000
set_option linter.unusedVariables false
namespace Go.Proofs.Fa
open Go Go.GX Go.Proofs Go.ChangeShapes Go.WideShapes Go.ChangeAt Go.RowKit
open Go.Proofs.Ytacedikpdmdodaa

theorem own11 : ownKnob Try.prog.godebug = none := by kernel_rfl
theorem laidOut11 : laidOutB Try.prog = true := by kernel_rfl
abbrev atW (W : World) : Inhabited BaseD := ⟨⟨W.heap.size⟩⟩
theorem glb11 (W : World) : @GlbOK (atW W) Try.prog (assoc glT) (fun _ => False) W :=
  ⟨Nat.le_refl _, fun g v h => by cases h⟩
section
variable {H : Type} {enc : TypeId × Value → H} {W : World} {base b0 : Nat} {spare : Nat → Bool} {held : Bool} {v : Value} {d : DataW H} {p : List MemPlace} [Inhabited BaseD]
theorem arg_agg {K : Kd} {t : TypeId} {fs : Array Field} (hu : Try.prog.underlying t = some (.struct fs)) (hf : fitK Try.prog (.agg K) (.ty t) = true) (hv : Value.okWide Try.prog W .any b0 t v) (h : DataW.Trod enc Try.prog W base spare held t v d p) :
    ∃ x : K.T, ((Kd.agg K).sem Try.prog).val (fun _ => False) W x v ∧ K.rng x := by
  obtain ⟨cs, rfl, _⟩ := okWide_struct hu hv
  obtain ⟨fuel, h⟩ := h
  obtain ⟨x, hx, hr⟩ := fit_rng (.agg K) (.ty t) _ hf ⟨fuel, _, h⟩ (fun _ _ h => by cases h)
  exact ⟨x, ⟨cs.toList, by simp, hx⟩, hr⟩
theorem arg_sl {K : Kd} {e' : TypeId} {t e : TypeId} (hu : Try.prog.underlying t = some (.slice e)) (hf : fitK Try.prog (.sl e' K) (.ty t) = true) (hv : Value.okWide Try.prog W .any b0 t v) (h : DataW.Trod enc Try.prog W base spare held t v d p) :
    ∃ x : List K.T, ((Kd.sl e' K).sem Try.prog).val (fun _ => False) W x v ∧ ∀ y, y ∈ x → K.rng y := by
  obtain ⟨a, n, c, rfl⟩ := okWide_slice hu hv
  obtain ⟨fuel, h⟩ := h
  obtain ⟨x, ⟨v', he, hr⟩, hg⟩ := fit_rng (.sl e' K) (.ty t) _ hf ⟨fuel, _, h⟩ (fun _ _ h => by cases h)
  have he : [Value.slice a n c] = [v'] := he
  cases he
  exact ⟨x, hr.2, hg⟩
theorem arg_int {k : IntKind} {t : TypeId} (hu : Try.prog.underlying t = some (.int k)) (hf : fitK Try.prog (.int k) (.ty t) = true) (hv : Value.okWide Try.prog W .any b0 t v) (h : DataW.Trod enc Try.prog W base spare held t v d p) :
    ∃ x : Int, ((Kd.int k).sem Try.prog).val (fun _ => False) W x v ∧ (Lit.int k x).wf = true := by
  obtain ⟨n, rfl⟩ := okWide_int hu hv
  obtain ⟨fuel, h⟩ := h
  obtain ⟨x, ⟨v', he, hr⟩, hg⟩ := fit_rng (.int k) (.ty t) _ hf ⟨fuel, _, h⟩ (fun _ _ h => by cases h)
  have he : [Value.int k n] = [v'] := he
  cases he
  exact ⟨x, hr.2, hg⟩
end
theorem uS25 : ∃ fs, Try.prog.underlying 25 = some (.struct fs) := ⟨_, rfl⟩
theorem uS26 : Try.prog.underlying 26 = some (.slice 71) := by kernel_rfl
theorem uInt3 : Try.prog.underlying 3 = some (.int .i64) := by kernel_rfl
theorem fit25 : fitK Try.prog k25 (.ty 25) = true := by kernel_rfl
theorem fit26 : fitK Try.prog k26 (.ty 26) = true := by kernel_rfl
theorem fit3 : fitK Try.prog k3 (.ty 3) = true := by kernel_rfl
theorem belowOf {W W' : World} (h : @Bel (atW W) (fun k => k < W.heap.size) W W') : Below W.heap.size W W' :=
  letI := atW W
  ⟨h.os, h.tape, h.output, h.size, fun k hk => h.block k hk fun _ _ _ => hk⟩
section
variable {H : Type} {enc : TypeId × Value → H} {W : World} {base b0 b1 b2 : Nat} {spare : Nat → Bool} {held : Bool} {v0 v1 v2 : Value} {d0 d1 d2 : DataW H} {p0 p1 p2 : List MemPlace}

theorem lawA {f : FuncId} {ct : Ct} (hA : ct = ⟨arg2 k25 k26, .unit, .bool, fun _ _ Q => Q true, false, false⟩) (ok : ∀ [Inhabited BaseD], CallsOK Try.prog (assoc glT) f ct)
    (o0 : Value.okWide Try.prog W .any b0 25 v0) (h0 : DataW.Trod enc Try.prog W base spare held 25 v0 d0 p0) (o1 : Value.okWide Try.prog W .any b1 26 v1) (h1 : DataW.Trod enc Try.prog W base spare held 26 v1 d1 p1) :
    Calls Try.prog f #[v0, v1] W fun e W' => e = .returned (.bool true) ∧ Below W.heap.size W W' := by
  subst hA
  obtain ⟨fs, hu⟩ := uS25
  letI := atW W
  obtain ⟨g, hg, _⟩ := arg_agg hu fit25 o0 h0
  obtain ⟨a, ha, _⟩ := arg_sl uS26 fit26 o1 h1
  have := ok.calls (fun _ => False) W (g, a, ()) () [v0, v1] [] (fun _ h => h.elim) (glb11 W) ⟨v0, [v1], rfl, hg, v1, [], rfl, ha, rfl⟩ rfl (fun r => r = true) rfl
  refine this.mono fun e W' h => ?_
  obtain ⟨r, v, he, hv, hb, hr⟩ := h
  have hv : v = .bool r := hv
  subst hr
  exact ⟨by rw [he, hv], belowOf hb⟩
theorem lawB {f : FuncId} {ct : Ct} (hA : ct = ⟨arg3 k25 k26 k3, .unit, .bool, fun _ _ Q => Q true, false, false⟩) (ok : ∀ [Inhabited BaseD], CallsOK Try.prog (assoc glT) f ct)
    (o0 : Value.okWide Try.prog W .any b0 25 v0) (h0 : DataW.Trod enc Try.prog W base spare held 25 v0 d0 p0) (o1 : Value.okWide Try.prog W .any b1 26 v1) (h1 : DataW.Trod enc Try.prog W base spare held 26 v1 d1 p1) (o2 : Value.okWide Try.prog W .any b2 3 v2) (h2 : DataW.Trod enc Try.prog W base spare held 3 v2 d2 p2) :
    Calls Try.prog f #[v0, v1, v2] W fun e W' => e = .returned (.bool true) ∧ Below W.heap.size W W' := by
  subst hA
  obtain ⟨fs, hu⟩ := uS25
  letI := atW W
  obtain ⟨g, hg, _⟩ := arg_agg hu fit25 o0 h0
  obtain ⟨a, ha, _⟩ := arg_sl uS26 fit26 o1 h1
  obtain ⟨b, hb, _⟩ := arg_int uInt3 fit3 o2 h2
  have := ok.calls (fun _ => False) W (g, a, b, ()) () [v0, v1, v2] [] (fun _ h => h.elim) (glb11 W) ⟨v0, [v1, v2], rfl, hg, v1, [v2], rfl, ha, v2, [], rfl, hb, rfl⟩ rfl (fun r => r = true) rfl
  refine this.mono fun e W' h => ?_
  obtain ⟨r, v, he, hv, hb, hr⟩ := h
  have hv : v = .bool r := hv
  subst hr
  exact ⟨by rw [he, hv], belowOf hb⟩
end
end Go.Proofs.Fa
namespace Go.Proofs.Fa
open Go Go.GX Go.Proofs
variable [Inhabited BaseD]
theorem roots2 : True := by
  have _ := @ok5
  have _ := @ok8
  have _ := @ok9
  have _ := @lawA
  have _ := @lawB
  trivial
end Go.Proofs.Fa
