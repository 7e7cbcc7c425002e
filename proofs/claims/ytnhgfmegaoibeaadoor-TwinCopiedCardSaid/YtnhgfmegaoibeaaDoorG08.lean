/- Part 8 of the texts behind the proof: TwP22, TwP23, TwP24, TwP25, TwO9, TwC11, TwV15, TwM2, TwM10, TwM11, TwP27, TwC12, TwV16b, TwC13, TwV19, TwP29, TwO11, TwV15b, TwP27b, TwP26, TwO11b, Gx25, TwBr. -/
import Derived.Test.YtnhgfmegaoibeaaDoorG07
import Derived.Test.YtnhgfmegaoibeaaDoorProg
import Derived.ProofKit
import Derived.OpenShut
import Derived.Test.YtnhgfmegaoibeaaDoorRows
import Derived.LaidMore
import Derived.Lay
import Derived.SevenTiedAt
set_option linter.unusedSimpArgs false
set_option linter.unusedVariables false
set_option linter.unusedVariables false
set_option maxRecDepth 100000
namespace Go.Proofs.Tw
open Go Go.GX Go.Proofs
theorem p49 {n : Int} {s : Span} {Q : Bool → Prop} (h : f49_wp (n, s, ()) () Q) : V49 n s Q := by
  have h : Q (inB s.1 s.2 n) := h
  refine cnd_iff.2 ⟨fun h1 => ?_, fun h1 => ?_⟩
  · have h1 : s.1 ≤ n := of_decide_eq_true h1
    have : inB s.1 s.2 n = decide (n ≤ s.2) := by unfold inB; rw [decide_eq_true h1, Bool.true_and]
    rwa [this] at h
  · have h1 : ¬ s.1 ≤ n := of_decide_eq_false h1
    have : inB s.1 s.2 n = false := by unfold inB; rw [decide_eq_false h1, Bool.false_and]
    rwa [this] at h
theorem p47 {g : Gauge} {Q : Gauge → Prop} (h : f47_wp g () Q) : V47 g Q := by
  obtain ⟨⟨h1, h2, h3⟩, h⟩ := h
  refine ⟨?_, ?_, ?_, h⟩ <;> simp only [List.length_nil] <;> omega
theorem miss_bound {s : Span} {b : Int} (h1 : -1000 ≤ s.1) (h2 : s.1 ≤ 1000) (h3 : -1000 ≤ s.2) (h4 : s.2 ≤ 1000) (hb : byteB b) : -520000 ≤ b * (s.2 - s.1) ∧ b * (s.2 - s.1) ≤ 520000 ∧ -2100 ≤ Int.tdiv (b * (s.2 - s.1)) 255 ∧ Int.tdiv (b * (s.2 - s.1)) 255 ≤ 2100 := by
  obtain ⟨b1, b2⟩ := hb
  have u : b * (s.2 - s.1) ≤ 510000 := by
    have a1 : b * (s.2 - s.1) ≤ b * 2000 := Int.mul_le_mul_of_nonneg_left (by omega) b1
    have a2 : b * 2000 ≤ 255 * 2000 := Int.mul_le_mul_of_nonneg_right b2 (by omega)
    omega
  have l : -510000 ≤ b * (s.2 - s.1) := by
    have a1 : b * (-2000) ≤ b * (s.2 - s.1) := Int.mul_le_mul_of_nonneg_left (by omega) b1
    have a2 : b * (-2000) = -(b * 2000) := Int.mul_neg _ _
    have a3 : b * 2000 ≤ 255 * 2000 := Int.mul_le_mul_of_nonneg_right b2 (by omega)
    omega
  generalize b * (s.2 - s.1) = x at *
  refine ⟨by omega, by omega, ?_, ?_⟩
  · rcases Int.lt_or_le x 0 with hx | hx
    · have : Int.tdiv x 255 = -(Int.tdiv (-x) 255) := by rw [Int.neg_tdiv]; omega
      rw [this, Int.tdiv_eq_ediv_of_nonneg (by omega)]; omega
    · rw [Int.tdiv_eq_ediv_of_nonneg hx]; omega
  · rcases Int.lt_or_le x 0 with hx | hx
    · have : Int.tdiv x 255 = -(Int.tdiv (-x) 255) := by rw [Int.neg_tdiv]; omega
      rw [this, Int.tdiv_eq_ediv_of_nonneg (by omega)]; omega
    · rw [Int.tdiv_eq_ediv_of_nonneg hx]; omega
theorem p96 {s : Span} {b : Int} {Q : Int → Prop} (h : f96_wp (s, b, ()) () Q) : V96 s b Q := by
  obtain ⟨⟨h1, h2, h3, h4, hb⟩, h⟩ := h
  simp only at h1 h2 h3 h4 hb
  have h : Q (s.1 + Int.tdiv (b * (s.2 - s.1)) 255) := h
  obtain ⟨m1, m2, m3, m4⟩ := miss_bound h1 h2 h3 h4 hb
  refine ⟨by decide, ?_⟩
  rw [wrapS (x := s.2 - s.1) (by omega) (by omega), wrapS (x := b * (s.2 - s.1)) (by omega) (by omega), wrapS (x := Int.tdiv (b * (s.2 - s.1)) 255) (by omega) (by omega), wrapS (by omega) (by omega)]
  exact h
theorem p98 {g : Gauge} {r : Int × Int} {v : By4} {Q : List Int → Prop} (h : f98_wp (g, r, v, ()) () Q) : V98 g r v Q := by
  obtain ⟨⟨hl, h0, h1, r1, r2, hv⟩, h⟩ := h
  simp only at hl h0 h1 r1 r2 hv
  obtain ⟨v1, v2, v3, v4⟩ := hv
  have h : Q [r.1 + missF (-(g.1.getD 0 0), g.1.getD 0 0) v.2.2.1, r.2 + missF (-(g.1.getD 1 0), g.1.getD 1 0) v.2.2.2] := h
  have n0 : IntKind.wrap .i64 (Int.sub 0 (g.1.getD 0 0)) = -(g.1.getD 0 0) := by show IntKind.wrap .i64 (0 - g.1.getD 0 0) = _; rw [wrapS (by omega) (by omega)]; omega
  have n1 : IntKind.wrap .i64 (Int.sub 0 (g.1.getD 1 0)) = -(g.1.getD 1 0) := by show IntKind.wrap .i64 (0 - g.1.getD 1 0) = _; rw [wrapS (by omega) (by omega)]; omega
  have w3 : IntKind.wrap .i64 v.2.2.1 = v.2.2.1 := wrapS (by have := v3.1; omega) (by have := v3.2; omega)
  have w4 : IntKind.wrap .i64 v.2.2.2 = v.2.2.2 := wrapS (by have := v4.1; omega) (by have := v4.2; omega)
  have b0 := miss_bound (s := (-(g.1.getD 0 0), g.1.getD 0 0)) (by simp only; omega) (by simp only; omega) (by simp only; omega) (by simp only; omega) v3
  have b1 := miss_bound (s := (-(g.1.getD 1 0), g.1.getD 1 0)) (by simp only; omega) (by simp only; omega) (by simp only; omega) (by simp only; omega) v4
  have m0 : -2200 ≤ missF (-(g.1.getD 0 0), g.1.getD 0 0) v.2.2.1 ∧ missF (-(g.1.getD 0 0), g.1.getD 0 0) v.2.2.1 ≤ 2200 := by unfold missF; simp only at b0 ⊢; omega
  have m1 : -2200 ≤ missF (-(g.1.getD 1 0), g.1.getD 1 0) v.2.2.2 ∧ missF (-(g.1.getD 1 0), g.1.getD 1 0) v.2.2.2 ≤ 2200 := by unfold missF; simp only at b1 ⊢; omega
  refine ⟨by omega, by omega, by omega, by omega, (-(g.1.getD 0 0), g.1.getD 0 0), ?_, missF (-(g.1.getD 0 0), g.1.getD 0 0) v.2.2.1, ?_, by omega, by omega, by omega, by omega, (-(g.1.getD 1 0), g.1.getD 1 0), ?_, missF (-(g.1.getD 1 0), g.1.getD 1 0) v.2.2.2, ?_, ?_⟩
  · show (IntKind.wrap .i64 (Int.sub 0 (g.1.getD 0 0)), g.1.getD 0 0) = _
    rw [n0]
  · refine ⟨⟨by simp only; omega, by simp only; omega, by simp only; omega, by simp only; omega, by simp only; rw [w3]; exact v3⟩, ?_⟩
    simp only [w3]
  · show (IntKind.wrap .i64 (Int.sub 0 (g.1.getD 1 0)), g.1.getD 1 0) = _
    rw [n1]
  · refine ⟨⟨by simp only; omega, by simp only; omega, by simp only; omega, by simp only; omega, by simp only; rw [w4]; exact v4⟩, ?_⟩
    simp only [w4]
  · rw [wrapS (x := r.1 + missF (-(g.1.getD 0 0), g.1.getD 0 0) v.2.2.1) (by omega) (by omega), wrapS (x := r.2 + missF (-(g.1.getD 1 0), g.1.getD 1 0) v.2.2.2) (by omega) (by omega)]
    exact h
end Go.Proofs.Tw
set_option linter.unusedVariables false
set_option maxRecDepth 100000
namespace Go.Proofs.Tw
open Go Go.GX Go.Proofs
theorem tmod_nn {a : Int} (h : 0 ≤ a) (b : Int) : Int.tmod a b = a % b := Int.tmod_eq_emod_of_nonneg h
theorem tdiv_nn {a : Int} (h : 0 ≤ a) (b : Int) : Int.tdiv a b = a / b := Int.tdiv_eq_ediv_of_nonneg h
theorem p45 {x : Gauged} {Q : Gauge → Prop} (h : f45_wp x () Q) : V45 x Q := by
  obtain ⟨⟨⟨a1, a2⟩, ⟨b1, b2⟩, ⟨c1, c2⟩, ⟨d1, d2⟩⟩, h⟩ := h
  obtain ⟨⟨a, b, c, d⟩, y⟩ := x
  simp only at a1 a2 b1 b2 c1 c2 d1 d2
  have h : Q ([a % 4, a / 8 % 3], [b % 9, b / 16], [(-(c % 9) - 1, -(c % 9) - 1 + d % 6), (-(d / 16 % 4), c / 16 % 3)]) := h
  have wa : IntKind.wrap .i64 a = a := wrapS (by omega) (by omega)
  have wb : IntKind.wrap .i64 b = b := wrapS (by omega) (by omega)
  have wc : IntKind.wrap .i64 c = c := wrapS (by omega) (by omega)
  have wd : IntKind.wrap .i64 d = d := wrapS (by omega) (by omega)
  have s0 : ∀ z : Int, Int.sub 0 z = -z := fun z => by show (0 : Int) - z = -z; omega
  have wnc : IntKind.wrap .i64 (-c) = -c := wrapS (by omega) (by omega)
  have wnd : IntKind.wrap .i64 (-d) = -d := wrapS (by omega) (by omega)
  have t1 : Int.tmod (-c) 9 = -(c % 9) := by rw [Int.neg_tmod, tmod_nn c1]
  have t2 : Int.tdiv (-d) 16 = -(d / 16) := by rw [Int.neg_tdiv, tdiv_nn d1]
  have w1 : IntKind.wrap .i64 (-(c % 9) - 1) = -(c % 9) - 1 := wrapS (by omega) (by omega)
  have w2 : IntKind.wrap .i64 (-(c % 9) - 1 + d % 6) = -(c % 9) - 1 + d % 6 := wrapS (by omega) (by omega)
  have w3 : IntKind.wrap .i64 (-(d / 16)) = -(d / 16) := wrapS (by omega) (by omega)
  have t3 : Int.tmod (-(d / 16)) 4 = -(d / 16 % 4) := by rw [Int.neg_tmod, tmod_nn (by omega)]
  have w4 : IntKind.wrap .i64 (c / 16) = c / 16 := wrapS (by omega) (by omega)
  have w5 : IntKind.wrap .i64 (a / 8) = a / 8 := wrapS (by omega) (by omega)
  have w6 : IntKind.wrap .i64 (b / 16) = b / 16 := wrapS (by omega) (by omega)
  have t4 : Int.tmod (c / 16) 3 = c / 16 % 3 := tmod_nn (by omega) 3
  have t5 : Int.tmod (a / 8) 3 = a / 8 % 3 := tmod_nn (by omega) 3
  unfold V45
  simp only [wa, wb, wc, wd, s0, wnc, wnd, t1, t2, w1, tmod_nn d1, w2, w3, t3, tdiv_nn c1, w4, t4, tmod_nn a1, tdiv_nn a1, w5, t5, tmod_nn b1, tdiv_nn b1, w6]
  exact ⟨by decide, by decide, by decide, by decide, by decide, by decide, by decide, (_, _), rfl, by decide, by decide, by decide, by decide, (_, _), rfl, h⟩
end Go.Proofs.Tw
set_option linter.unusedVariables false
set_option maxRecDepth 100000
namespace Go.Proofs.Tw
open Go Go.GX Go.Proofs
theorem GgOK.facts {g : Gauge} (h : GgOK g) : g.1.length = 2 ∧ g.2.1.length = 2 ∧ g.2.2.length = 2 ∧ (0 ≤ g.1.getD 0 0 ∧ g.1.getD 0 0 ≤ 5) ∧ (0 ≤ g.1.getD 1 0 ∧ g.1.getD 1 0 ≤ 5) ∧ (0 ≤ g.2.1.getD 0 0 ∧ g.2.1.getD 0 0 ≤ 100) ∧ (0 ≤ g.2.1.getD 1 0 ∧ g.2.1.getD 1 0 ≤ 100) ∧
    (-100 ≤ (g.2.2.getD 0 (0, 0)).1 ∧ (g.2.2.getD 0 (0, 0)).1 ≤ (g.2.2.getD 0 (0, 0)).2 ∧ (g.2.2.getD 0 (0, 0)).2 ≤ 100) ∧ (-100 ≤ (g.2.2.getD 1 (0, 0)).1 ∧ (g.2.2.getD 1 (0, 0)).1 ≤ (g.2.2.getD 1 (0, 0)).2 ∧ (g.2.2.getD 1 (0, 0)).2 ≤ 100) := by
  obtain ⟨⟨a, b, e1, a1, b1⟩, ⟨c, d, e2, c1, d1⟩, ⟨p, q, e3, p1, q1⟩⟩ := h
  rw [e1, e2, e3]
  exact ⟨rfl, rfl, rfl, a1, b1, c1, d1, p1, q1⟩
theorem by_wrap {b : Int} (h : byteB b) : IntKind.wrap .i64 b = b := wrapS (by have := h.1; omega) (by have := h.2; omega)
theorem miss_b {s : Span} {b : Int} (h1 : -1000 ≤ s.1) (h2 : s.1 ≤ 1000) (h3 : -1000 ≤ s.2) (h4 : s.2 ≤ 1000) (hb : byteB b) : -3100 ≤ missF s b ∧ missF s b ≤ 3100 := by
  obtain ⟨_, _, m3, m4⟩ := miss_bound h1 h2 h3 h4 hb
  unfold missF
  omega
end Go.Proofs.Tw
set_option linter.unusedVariables false
set_option maxRecDepth 100000
namespace Go.Proofs.Tw
open Go Go.GX Go.Proofs
theorem cop_len (x : Gauged) (g : Gauge) : ∀ k, (copS x g k).1.length = k ∧ (copS x g k).2.1.length = k ∧ (copS x g k).2.2.length = k
  | 0 => ⟨rfl, rfl, rfl⟩
  | k + 1 => by
    obtain ⟨h1, h2, h3⟩ := cop_len x g k
    simp [copS, h1, h2, h3]
theorem of_rng {v : By4} (hv : by4 v) (k : Nat) : -1 ≤ ofG k v ∧ ofG k v < k := by
  obtain ⟨⟨h1, h2⟩, _⟩ := hv
  unfold ofG
  have a := Int.emod_nonneg v.1 (show ((k : Int) + 1) ≠ 0 by omega)
  have b := Int.emod_lt_of_pos v.1 (show (0 : Int) < (k : Int) + 1 by omega)
  omega
def inK (M : Int) (p : Int × Int) : Prop := -M ≤ p.1 ∧ p.1 ≤ M ∧ -M ≤ p.2 ∧ p.2 ≤ M
theorem real_rng {x : Gauged} (hx : GdOK x) {g : Gauge} (hg : GgOK g) {v : By4} (hv : by4 v) {k : Nat} (hk : k < 5) {t : List (Int × Int)} {M : Int} (hM : 2500 ≤ M) (ht : ∀ p, p ∈ t → inK M p) (hl : t.length = k) : inK (M + 3100) (realC x g t k v) := by
  obtain ⟨l1, l2, l3, o0, o1, k0, k1, c0, c1⟩ := hg.facts
  have hof := of_rng hv k
  obtain ⟨y1, y2, y3, y4⟩ := hv
  obtain ⟨⟨q1, q2⟩, q3, q4⟩ := hx.p
  unfold realC
  split
  · rename_i h
    have hp := ht _ (getD_mem (d := ((0 : Int), (0 : Int))) (show (ofG k v).toNat < t.length by omega))
    have m0 := miss_b (s := g.2.2.getD 0 (0, 0)) (by omega) (by omega) (by omega) (by omega) y2
    have yb : byteB (v.2.1 / 2 + v.1 / 2) := by unfold byteB at *; omega
    have m1 := miss_b (s := g.2.2.getD 1 (0, 0)) (by omega) (by omega) (by omega) (by omega) yb
    unfold inK at *
    simp only
    omega
  · unfold inK; simp only; omega
theorem cop_rng {x : Gauged} (hx : GdOK x) {g : Gauge} (hg : GgOK g) : ∀ k, k ≤ 5 → k ≤ x.2.2.length → ∀ p, p ∈ (copS x g k).2.1 → inK (2500 + 3100 * k) p
  | 0, _, _, p, hp => by cases hp
  | k + 1, hk, hl, p, hp => by
    have ih := cop_rng hx hg k (by omega) (by omega)
    have hp : p ∈ (copS x g k).2.1 ++ [realC x g (copS x g k).2.1 k (x.2.2.getD k (0, 0, 0, 0))] := hp
    rcases List.mem_append.1 hp with hp | hp
    · have := ih p hp
      unfold inK at *
      push_cast
      omega
    · obtain rfl := List.mem_singleton.1 hp
      have := real_rng hx hg (hx.f _ (getD_mem (d := ((0 : Int), (0 : Int), (0 : Int), (0 : Int))) (show k < x.2.2.length by omega))) (show k < 5 by omega) (M := 2500 + 3100 * (k : Int)) (by omega) ih (cop_len x g k).2.1
      unfold inK at *
      push_cast
      omega
theorem p52 {x : Gauged} {g : Gauge} {Q : Fans × List (Int × Int) × List Int × Unit → Prop} (h : f52_wp (x, g, ()) () Q) : V52 x g Q := by
  obtain ⟨⟨hx, hg⟩, h⟩ := h
  simp only at hx hg
  have h : Q ((copS x g (copN x)).1, (copS x g (copN x)).2.1, (copS x g (copN x)).2.2, ()) := h
  obtain ⟨l1, l2, l3, o0, o1, k0, k1, c0, c1⟩ := hg.facts
  obtain ⟨q0, q1⟩ := hx.p
  have wp0 := by_wrap q0
  have wp1 := by_wrap q1
  have q0' := q0
  have q1' := q1
  unfold byteB at q0' q1'
  unfold V52
  refine ⟨fun y F T O => ∃ k : Nat, k ≤ x.2.2.length ∧ k ≤ 5 ∧ y = k ∧ F = (copS x g k).1 ∧ T = (copS x g k).2.1 ∧ O = (copS x g k).2.2, fun y _ _ _ => (5 - y).toNat, ⟨0, by omega, by omega, rfl, rfl, rfl, rfl⟩, ?_⟩
  rintro y F T O ⟨k, hk, hk5, rfl, rfl, rfl, rfl⟩ hlen
  have fin : ¬ (k < x.2.2.length ∧ k < 5) → Q (List.map (fun x => x) (copS x g k).1, (copS x g k).2.1, (copS x g k).2.2, ()) := by
    intro hc
    have e : k = copN x := by unfold copN; omega
    rw [map_self, e]
    exact h
  refine cnd_iff.2 ⟨fun h1 => cnd_iff.2 ⟨fun h2 => ?_, fun h2 => ?_⟩, fun h1 => ?_⟩
  · have h1 : (k : Int) < x.2.2.length := of_decide_eq_true h1
    have h2 : (k : Int) < 5 := of_decide_eq_true h2
    have hkl : k < x.2.2.length := by omega
    obtain ⟨v, hv⟩ : ∃ v, v = x.2.2.getD k (0, 0, 0, 0) := ⟨_, rfl⟩
    have hvm : v ∈ x.2.2 := hv ▸ getD_mem hkl
    have hby := hx.f v hvm
    have hof := of_rng hby k
    have hrl := real_rng hx hg hby (show k < 5 by omega) (M := 2500 + 3100 * (k : Int)) (by omega) (cop_rng hx hg k hk5 hk) (cop_len x g k).2.1
    obtain ⟨n1, n2, n3⟩ := cop_len x g k
    have e1 : (copS x g (k + 1)).1 = (copS x g k).1 ++ [shownF g (realC x g (copS x g k).2.1 k v) v] := by rw [hv]; rfl
    have e2 : (copS x g (k + 1)).2.1 = (copS x g k).2.1 ++ [realC x g (copS x g k).2.1 k v] := by rw [hv]; rfl
    have e3 : (copS x g (k + 1)).2.2 = (copS x g k).2.2 ++ [ofG k v] := by rw [hv]; rfl
    obtain ⟨y1, y2, y3, y4⟩ := hby
    have wy1 := by_wrap y1
    have wy2 := by_wrap y2
    have y1' := y1
    have y2' := y2
    unfold byteB at y1' y2'
    have hw : IntKind.wrap .i64 ((k : Int) + 1) = (k : Int) + 1 := wrapS (by omega) (by omega)
    have wof : IntKind.wrap .i64 (Int.tmod v.1 ((k : Int) + 1) - 1) = ofG k v := by
      rw [tmod_nn (by omega)]
      exact wrapS (by unfold ofG at hof; omega) (by unfold ofG at hof; omega)
    simp only [Int.toNat_natCast, ← hv, hw, wy1, wy2, wof, wp0, wp1]
    refine ⟨by omega, by omega, by omega, cnd_iff.2 ⟨fun h3 => ?_, fun h3 => ?_⟩⟩
    · have h3 : 0 ≤ ofG k v := of_decide_eq_true h3
      have er : realC x g (copS x g k).2.1 k v = (((copS x g k).2.1.getD (ofG k v).toNat (0, 0)).1 + missF (g.2.2.getD 0 (0, 0)) v.2.1, ((copS x g k).2.1.getD (ofG k v).toNat (0, 0)).2 + missF (g.2.2.getD 1 (0, 0)) (v.2.1 / 2 + v.1 / 2)) := by unfold realC; rw [if_pos h3]
      have u8 : ∀ z : Int, 0 ≤ z → z ≤ 255 → IntKind.wrap .u8 z = z := by
        intro z z1 z2
        unfold IntKind.wrap
        simp [IntKind.bits, IntKind.signed]
        omega
      have d1 : IntKind.wrap .u8 (Int.tdiv v.2.1 2) = v.2.1 / 2 := by rw [tdiv_nn y2'.1]; exact u8 _ (by omega) (by omega)
      have d2 : IntKind.wrap .u8 (Int.tdiv v.1 2) = v.1 / 2 := by rw [tdiv_nn y1'.1]; exact u8 _ (by omega) (by omega)
      have d3 : IntKind.wrap .u8 (v.2.1 / 2 + v.1 / 2) = v.2.1 / 2 + v.1 / 2 := u8 _ (by omega) (by omega)
      have d4 : IntKind.wrap .i64 (v.2.1 / 2 + v.1 / 2) = v.2.1 / 2 + v.1 / 2 := wrapS (by omega) (by omega)
      have yb : byteB (v.2.1 / 2 + v.1 / 2) := by unfold byteB; omega
      rw [er] at hrl e1 e2
      unfold inK at hrl
      simp only at hrl
      have r0 : IntKind.wrap .i64 (((copS x g k).2.1.getD (ofG k v).toNat (0, 0)).1 + missF (g.2.2.getD 0 (0, 0)) v.2.1) = ((copS x g k).2.1.getD (ofG k v).toNat (0, 0)).1 + missF (g.2.2.getD 0 (0, 0)) v.2.1 := wrapS (by omega) (by omega)
      have r1 : IntKind.wrap .i64 (((copS x g k).2.1.getD (ofG k v).toNat (0, 0)).2 + missF (g.2.2.getD 1 (0, 0)) (v.2.1 / 2 + v.1 / 2)) = ((copS x g k).2.1.getD (ofG k v).toNat (0, 0)).2 + missF (g.2.2.getD 1 (0, 0)) (v.2.1 / 2 + v.1 / 2) := wrapS (by omega) (by omega)
      have A1 : -1000 ≤ (g.2.2.getD 0 (0, 0)).1 := by omega
      have A2 : (g.2.2.getD 0 (0, 0)).1 ≤ 1000 := by omega
      have A3 : -1000 ≤ (g.2.2.getD 0 (0, 0)).2 := by omega
      have A4 : (g.2.2.getD 0 (0, 0)).2 ≤ 1000 := by omega
      have B1 : -1000 ≤ (g.2.2.getD 1 (0, 0)).1 := by omega
      have B2 : (g.2.2.getD 1 (0, 0)).1 ≤ 1000 := by omega
      have B3 : -1000 ≤ (g.2.2.getD 1 (0, 0)).2 := by omega
      have B4 : (g.2.2.getD 1 (0, 0)).2 ≤ 1000 := by omega
      simp only [d1, d2, d3, d4]
      refine ⟨by omega, by omega, by omega, by omega, missF (g.2.2.getD 0 (0, 0)) v.2.1, ⟨⟨A1, A2, A3, A4, y2⟩, rfl⟩, by omega, by omega, by omega, by omega, by decide, by decide, missF (g.2.2.getD 1 (0, 0)) (v.2.1 / 2 + v.1 / 2), ⟨⟨B1, B2, B3, B4, yb⟩, rfl⟩, ?_⟩
      simp only [r0, r1]
      refine ⟨_, ⟨⟨by simp only; omega, by simp only; omega, by simp only; omega, by simp only; omega, by simp only; omega, ⟨y1, y2, y3, y4⟩⟩, rfl⟩, by simp; omega, by simp, by simp; omega, by simp; omega, ⟨k + 1, by omega, by omega, by push_cast; rfl, ?_, e2.symm, e3.symm⟩, ?_⟩
      · rw [e1, map_self, map_self]
      · show (5 - ((k : Int) + 1)).toNat < (5 - (k : Int)).toNat; omega
    · have h3 : ¬ 0 ≤ ofG k v := of_decide_eq_false h3
      have er : realC x g (copS x g k).2.1 k v = (1000 + 20 * (k : Int) + x.2.1.1, 2000 + x.2.1.2) := by unfold realC; rw [if_neg h3]
      rw [er] at e1 e2
      have r0 : IntKind.wrap .i64 (20 * (k : Int)) = 20 * k := wrapS (by omega) (by omega)
      have r1 : IntKind.wrap .i64 (1000 + 20 * (k : Int)) = 1000 + 20 * k := wrapS (by omega) (by omega)
      have r2 : IntKind.wrap .i64 (1000 + 20 * (k : Int) + x.2.1.1) = 1000 + 20 * k + x.2.1.1 := wrapS (by omega) (by omega)
      have r3 : IntKind.wrap .i64 (2000 + x.2.1.2) = 2000 + x.2.1.2 := wrapS (by omega) (by omega)
      simp only [r0, r1, r2, r3]
      refine ⟨_, ⟨⟨by simp only; omega, by simp only; omega, by simp only; omega, by simp only; omega, by simp only; omega, ⟨y1, y2, y3, y4⟩⟩, rfl⟩, by simp; omega, by simp, by simp; omega, by simp; omega, ⟨k + 1, by omega, by omega, by push_cast; rfl, ?_, e2.symm, e3.symm⟩, ?_⟩
      · rw [e1, map_self, map_self]
      · show (5 - ((k : Int) + 1)).toNat < (5 - (k : Int)).toNat; omega
  · have h2 : ¬ (k : Int) < 5 := of_decide_eq_false h2
    exact fin (by omega)
  · have h1 : ¬ (k : Int) < x.2.2.length := of_decide_eq_false h1
    exact fin (by omega)
end Go.Proofs.Tw
set_option maxRecDepth 100000
namespace Go.Proofs.Tw
open Go Go.GX Go.Proofs

theorem ok45 : CallsOK Tryd.prog (assoc glT) 45 f45_ct :=
  callsOK_mk [] st_ok mk_ok in_ok (AllOK.cons ok64 AllOK.nil) no_an Tryd.func45 (by kernel_rfl) (by kernel_rfl) f45_ct fun x _ Q h => (v45 x Q).mp (p45 h)
theorem ok47 : CallsOK Tryd.prog (assoc glT) 47 f47_ct :=
  callsOK_mk [] st_ok mk_ok in_ok AllOK.nil no_an Tryd.func47 (by kernel_rfl) (by kernel_rfl) f47_ct fun g _ Q h => (v47 g Q).mp (p47 h)
theorem ok49 : CallsOK Tryd.prog (assoc glT) 49 f49_ct :=
  callsOK_mk [] st_ok mk_ok in_ok AllOK.nil no_an Tryd.func49 (by kernel_rfl) (by kernel_rfl) f49_ct fun ⟨n, s, _⟩ _ Q h => (v49 n s Q).mp (p49 h)
theorem ok96 : CallsOK Tryd.prog (assoc glT) 96 f96_ct :=
  callsOK_mk [] st_ok mk_ok in_ok AllOK.nil no_an Tryd.func96 (by kernel_rfl) (by kernel_rfl) f96_ct fun ⟨s, b, _⟩ _ Q h => (v96 s b Q).mp (p96 h)
theorem ok98 : CallsOK Tryd.prog (assoc glT) 98 f98_ct :=
  callsOK_mk [134] st_ok mk_ok in_ok (AllOK.cons ok64 (AllOK.cons ok96 AllOK.nil)) no_an Tryd.func98 (by kernel_rfl) (by kernel_rfl) f98_ct fun ⟨g, r, v, _⟩ _ Q h => (v98 g r v Q).mp (p98 h)
theorem ok52 : CallsOK Tryd.prog (assoc glT) 52 f52_ct :=
  callsOK_mk [100,1006] st_ok mk_ok in_ok (AllOK.cons ok96 (AllOK.cons ok98 AllOK.nil)) f52_an Tryd.func52 (by kernel_rfl) (by kernel_rfl) f52_ct fun ⟨x, g, _⟩ _ Q h => (v52 x g Q).mp (p52 h)
end Go.Proofs.Tw
namespace Go.Proofs.Tw
open Go Go.GX Go.Proofs

structure FsOK (l : Fans) : Prop where
  n : l.length ≤ 5
  len : ∀ f, f ∈ l → f.length = 2
  val : ∀ f, f ∈ l → ∀ x, x ∈ f → -1000000 ≤ x ∧ x ≤ 1000000
def copyB (g : Gauge) (l : Fans) (i o m : Nat) : Bool :=
  decide ((g.2.2.getD m (0, 0)).1 ≤ (l.getD i []).getD m 0 - (l.getD o []).getD m 0 + 2 * g.1.getD m 0) && decide ((l.getD i []).getD m 0 - (l.getD o []).getD m 0 - 2 * g.1.getD m 0 ≤ (g.2.2.getD m (0, 0)).2)
def copiesB (g : Gauge) (l : Fans) (f : List Int) : Bool :=
  decide (f.length = l.length) && (List.range f.length).all fun i => decide (-1 ≤ f.getD i 0) && (decide (f.getD i 0 < l.length) && (!decide (f.getD i 0 = (i : Int)) && (decide (f.getD i 0 < 0) || (List.range g.1.length).all fun m => copyB g l i (f.getD i 0).toNat m)))
def f53_wp : Gauge × Fans × List Int × Unit → Unit → (Bool → Prop) → Prop := fun a _ Q => (GgOK a.1 ∧ FsOK a.2.1) ∧ Q (copiesB a.1 a.2.1 a.2.2.1)
def f53_ct : Ct := ⟨arg3 kG kFs kIs, .unit, .bool, f53_wp, false, false⟩
def f53_an : Nat → Items
  | 0 => [.t 7 kI]
  | 2 => [.t 8 kI]
  | _ => []
def f56_wp : List Int → Unit → (Int → Prop) → Prop := fun f _ Q => f.length ≤ 1000 ∧ Q (f.countP fun x => decide (x < 0) : Nat)
def f56_ct : Ct := ⟨kIs, .unit, .int .i64, f56_wp, false, false⟩
def f56_an : Nat → Items
  | 0 => [.t 4 kI, .t 3 kI]
  | _ => []
end Go.Proofs.Tw
set_option linter.unusedVariables false
set_option maxRecDepth 100000
namespace Go.Proofs.Tw
open Go Go.GX Go.Proofs

end Go.Proofs.Tw
set_option linter.unusedVariables false
set_option maxRecDepth 100000
namespace Go.Proofs.Tw
open Go Go.GX Go.Proofs
theorem all_mem {α : Type} {p q : α → Bool} : ∀ l : List α, (∀ x, x ∈ l → p x = q x) → l.all p = l.all q
  | [], _ => rfl
  | a :: l, h => by rw [List.all_cons, List.all_cons, h a (by simp), all_mem l (fun x hx => h x (by simp [hx]))]
theorem le5 {n : Nat} (h : n ≤ 5) : n = 0 ∨ n = 1 ∨ n = 2 ∨ n = 3 ∨ n = 4 ∨ n = 5 := by omega
theorem sets_eq {n : Nat} (h : n ≤ 5) : setsR n = setsF n := by
  rcases le5 h with rfl | rfl | rfl | rfl | rfl | rfl <;> decide +kernel

def setFacts (n : Nat) (s : List Int) : Bool :=
  (decide (s.length = n) == (List.range n).all fun i => hasF s i) && (decide (s = []) || (List.range n).any fun i => hasF s i) && decide ((othersF n s).length + s.length = n) && (List.range n).all fun i => hasF (othersF n s) i == !hasF s i
theorem set_facts {n : Nat} (h : n ≤ 5) : ∀ s, s ∈ setsF n → setFacts n s = true := by
  rw [← List.all_eq_true]
  rcases le5 h with rfl | rfl | rfl | rfl | rfl | rfl <;> decide +kernel
theorem patF_congr {g : Gauge} {fs : Fans} {m : Nat} {p q : Int → Bool} (h : ∀ i : Nat, i < fs.length → p i = q i) : patF g fs m p = patF g fs m q := by
  unfold patF
  have : ∀ (l : List Nat) (s : Span), (∀ i, i ∈ l → i < fs.length) → l.foldl (fun (s : Span) (f : Nat) => if p (f : Int) then meetF s (aroundF (trulyF g fs m f) (g.2.1.getD m 0)) else s) s = l.foldl (fun (s : Span) (f : Nat) => if q (f : Int) then meetF s (aroundF (trulyF g fs m f) (g.2.1.getD m 0)) else s) s := by
    intro l
    induction l with
    | nil => intro s _; rfl
    | cons i l ih =>
      intro s hl
      rw [List.foldl_cons, List.foldl_cons, h i (hl i (by simp)), ih _ (fun j hj => hl j (by simp [hj]))]
  exact this _ _ (fun i hi => List.mem_range.1 hi)
theorem patF_none {g : Gauge} {fs : Fans} {m : Nat} {p : Int → Bool} (h : ∀ i : Nat, i < fs.length → p i = false) : patF g fs m p = anything := by
  rw [patF_congr (q := fun _ => false) h]
  unfold patF
  have : ∀ (l : List Nat) (s : Span), l.foldl (fun (s : Span) (f : Nat) => if (fun _ => false) (f : Int) then meetF s (aroundF (trulyF g fs m f) (g.2.1.getD m 0)) else s) s = s := by
    intro l
    induction l with
    | nil => intro s; rfl
    | cons i l ih => intro s; rw [List.foldl_cons]; exact ih _
  exact this _ _
theorem twinR_nil {g : Gauge} {fs : Fans} (v : VB g fs) : twinR g fs [] = twinsF g fs fun _ => true := by
  unfold twinR twinsF
  by_cases h0 : fs.length = 0
  · have : decide (fs.length ≤ ([] : List Int).length) = true := by simp [h0]
    rw [this, Bool.true_or]
    symm
    rw [List.all_eq_true]
    intro m _
    rw [patF_none (fun i hi => by omega)]
    decide
  · have : decide (fs.length ≤ ([] : List Int).length) = false := by rw [decide_eq_false_iff_not, List.length_nil]; omega
    rw [this, Bool.false_or]
    refine all_mem _ ?_
    intro m hm
    exact (patR_eq v (List.mem_range.1 hm) [] (i := 0) (by omega) rfl).1
theorem facts_of {n : Nat} {s : List Int} (h : setFacts n s = true) : (s.length = n ↔ ∀ i : Nat, i < n → hasF s i = true) ∧ (s ≠ [] → ∃ i : Nat, i < n ∧ hasF s i = true) ∧ (othersF n s).length + s.length = n ∧ ∀ i : Nat, i < n → hasF (othersF n s) i = !hasF s i := by
  simp only [setFacts, Bool.and_eq_true, Bool.or_eq_true, beq_iff_eq, decide_eq_true_eq] at h
  obtain ⟨⟨⟨h1, h2⟩, h3⟩, h4⟩ := h
  refine ⟨?_, fun hne => ?_, h3, fun i hi => ?_⟩
  · constructor
    · intro he i hi
      have : decide (s.length = n) = true := by simp [he]
      rw [this] at h1
      exact List.all_eq_true.1 h1.symm i (List.mem_range.2 hi)
    · intro ha
      have : ((List.range n).all fun i => hasF s i) = true := List.all_eq_true.2 fun i hi => ha i (List.mem_range.1 hi)
      rw [this] at h1
      simpa using h1
  · rcases h2 with h2 | h2
    · exact absurd h2 hne
    · obtain ⟨i, hi, hh⟩ := List.any_eq_true.1 h2
      exact ⟨i, List.mem_range.1 hi, hh⟩
  · have := List.all_eq_true.1 h4 i (List.mem_range.2 hi)
    simpa using this
theorem twinR_set {g : Gauge} {fs : Fans} (v : VB g fs) {s : List Int} (hs : s ∈ setsF fs.length) (hne : s ≠ []) : twinR g fs (othersF fs.length s) = twinsF g fs (hasF s) := by
  obtain ⟨_, h2, h3, h4⟩ := facts_of (set_facts v.f5 s hs)
  obtain ⟨i, hi, hhi⟩ := h2 hne
  have hl : 0 < s.length := List.length_pos_iff.2 hne
  unfold twinR twinsF
  have : decide (fs.length ≤ (othersF fs.length s).length) = false := by rw [decide_eq_false_iff_not]; omega
  rw [this, Bool.false_or]
  refine all_mem _ ?_
  intro m hm
  rw [(patR_eq v (List.mem_range.1 hm) (othersF fs.length s) (i := i) hi (by rw [h4 i hi, hhi]; rfl)).1]
  rw [patF_congr (q := hasF s) (fun j hj => by rw [h4 j hj]; simp)]
theorem most_eq {g : Gauge} {fs : Fans} (v : VB g fs) : mostR g fs = mostF g fs := by
  unfold mostR mostF
  rw [sets_eq v.f5]
  have : ∀ (l : List (List Int)) (b : List Int), (∀ s, s ∈ l → s ∈ setsF fs.length) → l.foldl (mostRStep g fs) b = l.foldl (mostStep g fs) b := by
    intro l
    induction l with
    | nil => intro b _; rfl
    | cons s l ih =>
      intro b hl
      have e : mostRStep g fs b s = mostStep g fs b s := by
        unfold mostRStep mostStep
        by_cases hlt : b.length < s.length
        · rw [twinR_set v (hl s (by simp)) (by intro h; subst h; simp at hlt)]
        · simp [hlt]
      rw [List.foldl_cons, List.foldl_cons, e, ih _ (fun t ht => hl t (by simp [ht]))]
  exact this _ _ (fun s hs => hs)
theorem surely_eq {g : Gauge} {fs : Fans} (v : VB g fs) : surelyR g fs = surelyF g fs := by
  rw [Bool.eq_iff_iff]
  unfold surelyR surelyF surelyK sMs sRow
  simp only [List.all_eq_true, List.mem_range]
  constructor
  · intro h m hm x hx y hy
    unfold sOne trulyF
    have b := v.make_v hm
    rcases Nat.lt_trichotomy x y with hlt | rfl | hlt
    · have := h m hm y hy x hlt
      unfold sureOne at this
      rw [decide_eq_true_eq] at this
      obtain ⟨x1, x2, x3⟩ := mx_cases ((fs.getD y []).getD m 0 - (fs.getD x []).getD m 0) ((fs.getD x []).getD m 0 - (fs.getD y []).getD m 0)
      rw [Bool.or_eq_true]; exact .inr (by simp only [decide_eq_true_eq]; omega)
    · simp
    · have := h m hm x hx y hlt
      unfold sureOne at this
      rw [decide_eq_true_eq] at this
      obtain ⟨x1, x2, x3⟩ := mx_cases ((fs.getD x []).getD m 0 - (fs.getD y []).getD m 0) ((fs.getD y []).getD m 0 - (fs.getD x []).getD m 0)
      rw [Bool.or_eq_true]; exact .inr (by simp only [decide_eq_true_eq]; omega)
  · intro h m hm i hi k hk
    have h1 := h m hm i hi k (by omega)
    have h2 := h m hm k (by omega) i hi
    unfold sOne trulyF at h1 h2
    rw [Bool.or_eq_true, decide_eq_true_eq, beq_iff_eq] at h1 h2
    unfold sureOne
    rw [decide_eq_true_eq]
    obtain ⟨x1, x2, x3⟩ := mx_cases ((fs.getD i []).getD m 0 - (fs.getD k []).getD m 0) ((fs.getD k []).getD m 0 - (fs.getD i []).getD m 0)
    simp only at h1 h2
    omega
end Go.Proofs.Tw
set_option linter.unusedVariables false
set_option maxRecDepth 100000
namespace Go.Proofs.Tw
open Go Go.GX Go.Proofs
theorem gauge_gg {v : By4} (h : by4 v) : GgOK (gaugeG v) := by
  obtain ⟨⟨a1, a2⟩, ⟨b1, b2⟩, ⟨c1, c2⟩, d1, d2⟩ := h
  refine ⟨⟨_, _, rfl, ?_, ?_⟩, ⟨_, _, rfl, ?_, ?_⟩, ⟨_, _, rfl, ?_, ?_⟩⟩ <;> (try simp only) <;> omega
theorem check0 {g : Gauge} {fs : Fans} (v : VB g fs) : checkF g fs = 0 := by
  have a1 : inB 1 4 g.1.length = true := inB_iff.2 ⟨by have := v.n1; omega, by have := v.n4; omega⟩
  have b1 : g.1.all (inB 0 5) = true := List.all_eq_true.2 fun x hx => inB_iff.2 (v.off x hx)
  have b2 : g.2.1.all (inB 0 100) = true := List.all_eq_true.2 fun x hx => inB_iff.2 (v.make x hx)
  have b3 : g.2.2.all isCopyF = true := List.all_eq_true.2 fun x hx => by
    have := v.copy x hx
    simp [isCopyF, inB]; omega
  have d1 : fs.all (fanF g.1.length) = true := List.all_eq_true.2 fun f hf => by
    have h1 := v.fl f hf
    simp only [fanF, Bool.and_eq_true, List.all_eq_true, decide_eq_true_eq]
    exact ⟨by rw [h1], fun x hx => inB_iff.2 (v.fv f hf x hx)⟩
  unfold checkF
  rw [if_neg (by rw [a1, v.mkl, v.cp]; simp), if_neg (by rw [b1, b2, b3]; simp), if_neg (by have := v.f5; omega), if_neg (by rw [d1]; simp)]
theorem vb_of {g : Gauge} (hg : GgOK g) {fs : Fans} (hn : fs.length ≤ 5) (hl : ∀ f, f ∈ fs → f.length = 2) (hv : ∀ f, f ∈ fs → ∀ x, x ∈ f → 0 ≤ x ∧ x ≤ 10000) : VB g fs := by
  obtain ⟨a, b, ho, ha, hb⟩ := hg.o
  obtain ⟨c, d, hm, hc, hd⟩ := hg.m
  obtain ⟨s, t, hcp, hs, ht⟩ := hg.c
  have l1 : g.1.length = 2 := by rw [ho]; rfl
  refine ⟨by omega, by omega, by rw [l1, hm]; rfl, by rw [l1, hcp]; rfl, fun x hx => ?_, fun x hx => ?_, fun x hx => ?_, hn, fun f hf => by rw [l1]; exact hl f hf, hv⟩
  · rw [ho] at hx; simp at hx; rcases hx with rfl | rfl <;> omega
  · rw [hm] at hx; simp at hx; rcases hx with rfl | rfl <;> omega
  · rw [hcp] at hx
    rcases List.mem_cons.1 hx with rfl | hx
    · exact hs
    · obtain rfl := List.mem_singleton.1 hx
      exact ht
theorem miss_in {s : Span} {b : Int} (h : s.1 ≤ s.2) (hb : byteB b) : s.1 ≤ missF s b ∧ missF s b ≤ s.2 := by
  obtain ⟨h1, h2⟩ := hb
  have hp : 0 ≤ b * (s.2 - s.1) := Int.mul_nonneg h1 (by omega)
  have hq : b * (s.2 - s.1) ≤ 255 * (s.2 - s.1) := Int.mul_le_mul_of_nonneg_right h2 (by omega)
  unfold missF
  rw [tdiv_nn hp]
  generalize b * (s.2 - s.1) = P at *
  omega
def at2 (p : Int × Int) (m : Nat) : Int := if m = 0 then p.1 else p.2
theorem shown_at {g : Gauge} (hg : GgOK g) {r : Int × Int} {v : By4} (hv : by4 v) {m : Nat} (hm : m < 2) : at2 r m - g.1.getD m 0 ≤ (shownF g r v).getD m 0 ∧ (shownF g r v).getD m 0 ≤ at2 r m + g.1.getD m 0 := by
  obtain ⟨l1, l2, l3, o0, o1, k0, k1, c0, c1⟩ := hg.facts
  obtain ⟨y1, y2, y3, y4⟩ := hv
  rcases (by omega : m = 0 ∨ m = 1) with rfl | rfl
  · have := miss_in (s := (-(g.1.getD 0 0), g.1.getD 0 0)) (by simp only; omega) y3
    simp only at this
    simp only [at2, shownF, if_true, List.getD_cons_zero]
    omega
  · have := miss_in (s := (-(g.1.getD 1 0), g.1.getD 1 0)) (by simp only; omega) y4
    simp only at this
    simp only [at2, shownF, List.getD_cons_succ, List.getD_cons_zero]
    rw [if_neg (by omega)]
    omega
section
variable {x : Gauged} {g : Gauge}
end

theorem pat_fits (g : Gauge) (fs : Fans) (m : Nat) (is : Int → Bool) (p : Int) : ((patF g fs m is).1 ≤ p ∧ p ≤ (patF g fs m is).2) ↔ (-1048576 ≤ p ∧ p ≤ 1048576 ∧ Fits g fs m is fs.length p) := patS_fits g fs m is fs.length p
theorem okSp_iff {s : Span} : okSp s = true ↔ s.1 ≤ s.2 := by simp [okSp]
theorem sets_all {n : Nat} (h : n ≤ 5) : numsF (fun _ => true) n ∈ setsF n ∧ (numsF (fun _ => true) n).length = n ∧ (∀ s, s ∈ setsF n → s.length ≤ n) ∧ ∀ i : Nat, i < n → hasF (numsF (fun _ => true) n) i = true := by
  have e : ((setsF n).contains (numsF (fun _ => true) n) && decide ((numsF (fun _ => true) n).length = n) && (setsF n).all (fun s => decide (s.length ≤ n)) && (List.range n).all fun i => hasF (numsF (fun _ => true) n) i) = true := by
    rcases le5 h with rfl | rfl | rfl | rfl | rfl | rfl <;> decide +kernel
  simp only [Bool.and_eq_true, List.all_eq_true, decide_eq_true_eq, List.contains_iff_mem, List.mem_range] at e
  exact ⟨e.1.1.1, e.1.1.2, e.1.2, e.2⟩
theorem sets_cons (n : Nat) : ∃ L, setsF n = [] :: L := by
  unfold setsF
  rw [List.range_succ_eq_map]
  exact ⟨_, rfl⟩
end Go.Proofs.Tw
set_option linter.unusedVariables false
set_option maxRecDepth 100000
namespace Go.Proofs.Tw
open Go Go.GX Go.Proofs
theorem hasF_iff {l : List Int} {n : Int} : hasF l n = true ↔ n ∈ l := by
  unfold hasF
  rw [List.any_eq_true]
  constructor
  · rintro ⟨y, hy, e⟩
    rw [beq_iff_eq] at e
    exact e ▸ hy
  · exact fun h => ⟨n, h, by simp⟩
theorem numsF_mem {p : Nat → Bool} {n : Nat} {y : Int} : y ∈ numsF p n ↔ ∃ i : Nat, i < n ∧ p i = true ∧ y = (i : Int) := by
  unfold numsF
  rw [List.mem_map]
  constructor
  · rintro ⟨i, hi, rfl⟩
    rw [List.mem_filter, List.mem_range] at hi
    exact ⟨i, hi.1, hi.2, rfl⟩
  · rintro ⟨i, h1, h2, rfl⟩
    exact ⟨i, List.mem_filter.2 ⟨List.mem_range.2 h1, h2⟩, rfl⟩
theorem numsF_has {p : Nat → Bool} {n i : Nat} (hi : i < n) : hasF (numsF p n) i = p i := by
  cases h : p i with
  | true => exact hasF_iff.2 (numsF_mem.2 ⟨i, hi, h, rfl⟩)
  | false =>
    rw [Bool.eq_false_iff]
    intro hh
    obtain ⟨k, _, hk, e⟩ := numsF_mem.1 (hasF_iff.1 hh)
    have : i = k := by omega
    rw [this, hk] at h
    cases h

def sortB : List (List Int) → Bool
  | [] => true
  | s :: L => (L.all fun t => decide (s.length ≤ t.length)) && sortB L
theorem sets_sort {n : Nat} (h : n ≤ 5) : sortB (setsF n) = true := by
  rcases le5 h with rfl | rfl | rfl | rfl | rfl | rfl <;> decide +kernel
theorem find_least {p : List Int → Bool} : ∀ {L : List (List Int)}, sortB L = true → ∀ {s : List Int}, L.find? p = some s → ∀ t, t ∈ L → p t = true → s.length ≤ t.length
  | [], _, s, h, _, _, _ => by cases h
  | a :: L, hs, s, h, t, ht, hp => by
    simp only [sortB, Bool.and_eq_true] at hs
    rw [List.find?_cons] at h
    cases ha : p a with
    | true =>
      rw [ha] at h
      cases h
      rcases List.mem_cons.1 ht with rfl | ht
      · exact Nat.le_refl _
      · exact of_decide_eq_true (List.all_eq_true.1 hs.1 t ht)
    | false =>
      rw [ha] at h
      rcases List.mem_cons.1 ht with rfl | ht
      · rw [ha] at hp; cases hp
      · exact find_least hs.2 h t ht hp

def leastS (k : Nat) (p : Nat → List Int → Bool) (m : Nat) : List Int := ((setsF k).find? (p m)).getD []
theorem nil_set (n : Nat) : [] ∈ setsF n := by
  obtain ⟨L, hL⟩ := sets_cons n
  rw [hL]; simp
theorem least_mem (k : Nat) (p : Nat → List Int → Bool) (m : Nat) : leastS k p m ∈ setsF k := by
  unfold leastS
  cases h : (setsF k).find? (p m) with
  | none => exact nil_set k
  | some s => exact List.mem_of_find?_eq_some h
theorem least_ok {k : Nat} (hk : k ≤ 5) {p : Nat → List Int → Bool} {m : Nat} {t : List Int} (ht : t ∈ setsF k) (hp : p m t = true) : p m (leastS k p m) = true ∧ ∀ t, t ∈ setsF k → p m t = true → (leastS k p m).length ≤ t.length := by
  unfold leastS
  cases h : (setsF k).find? (p m) with
  | none =>
    have := List.find?_eq_none.1 h t ht
    exact absurd hp this
  | some s => exact ⟨List.find?_some h, find_least (sets_sort hk) h⟩
theorem blame_two (k : Nat) (p : Nat → List Int → Bool) : blameF 2 k p = (leastS k p 0).map (fun f => ((0 : Int), f)) ++ (leastS k p 1).map fun f => ((1 : Int), f) := by
  unfold blameF
  rw [show List.range 2 = [0, 1] from rfl, List.flatMap_cons, List.flatMap_cons, List.flatMap_nil, List.append_nil]
  rfl

theorem max_ex (v : Nat → Int) (is : Nat → Bool) : ∀ n : Nat, (∀ i, i < n → is i = false) ∨ ∃ k, k < n ∧ is k = true ∧ ∀ i, i < n → is i = true → v i ≤ v k
  | 0 => .inl fun i hi => absurd hi (Nat.not_lt_zero _)
  | n + 1 => by
    cases hn : is n with
    | false =>
      rcases max_ex v is n with h | ⟨k, h1, h2, h3⟩
      · refine .inl fun i hi => ?_
        rcases Nat.lt_succ_iff_lt_or_eq.1 hi with hi | rfl
        · exact h i hi
        · exact hn
      · refine .inr ⟨k, by omega, h2, fun i hi his => ?_⟩
        rcases Nat.lt_succ_iff_lt_or_eq.1 hi with hi | rfl
        · exact h3 i hi his
        · rw [hn] at his; cases his
    | true =>
      right
      rcases max_ex v is n with h | ⟨k, h1, h2, h3⟩
      · refine ⟨n, by omega, hn, fun i hi his => ?_⟩
        rcases Nat.lt_succ_iff_lt_or_eq.1 hi with hi | rfl
        · rw [h i hi] at his; cases his
        · exact Int.le_refl _
      · by_cases hv : v k ≤ v n
        · refine ⟨n, by omega, hn, fun i hi his => ?_⟩
          rcases Nat.lt_succ_iff_lt_or_eq.1 hi with hi | rfl
          · have := h3 i hi his; omega
          · exact Int.le_refl _
        · refine ⟨k, by omega, h2, fun i hi his => ?_⟩
          rcases Nat.lt_succ_iff_lt_or_eq.1 hi with hi | rfl
          · exact h3 i hi his
          · omega
theorem pair_iff {g : Gauge} {fs : Fans} (v : VB g fs) {m : Nat} (hm : m < g.1.length) (is : Int → Bool) : okSp (patF g fs m is) = true ↔ ∀ i k : Nat, i < fs.length → k < fs.length → is i = true → is k = true → (fs.getD i []).getD m 0 - (fs.getD k []).getD m 0 ≤ 2 * g.2.1.getD m 0 + 2 * g.1.getD m 0 := by
  have ho := v.off_v hm
  have hk := v.make_v hm
  rw [okSp_iff]
  constructor
  · intro h i k hi hk hii hik
    have := ((pat_fits g fs m is _).1 ⟨Int.le_refl _, h⟩).2.2
    have h1 := this i hi hii
    have h2 := this k hk hik
    omega
  · intro h
    suffices hs : ∃ p, (patF g fs m is).1 ≤ p ∧ p ≤ (patF g fs m is).2 by obtain ⟨p, h1, h2⟩ := hs; omega
    rcases max_ex (fun i => (fs.getD i []).getD m 0) (fun i => is i) fs.length with hn | ⟨k, hk1, hk2, hk3⟩
    · exact ⟨0, (pat_fits g fs m is _).2 ⟨by omega, by omega, fun i hi his => by rw [hn i hi] at his; cases his⟩⟩
    · have hv := v.fan_v hk1 hm
      refine ⟨(fs.getD k []).getD m 0 - (g.1.getD m 0 + g.2.1.getD m 0), (pat_fits g fs m is _).2 ⟨by omega, by omega, fun i hi his => ?_⟩⟩
      have h1 := hk3 i hi his
      have h2 := h k i hk1 hi hk2 his
      try simp only at h1
      omega
end Go.Proofs.Tw
set_option linter.unusedVariables false
set_option maxRecDepth 100000
namespace Go.Proofs.Tw
open Go Go.GX Go.Proofs
theorem FsOK.at {l : Fans} (h : FsOK l) {i m : Nat} (hi : i < l.length) (hm : m < 2) : (l.getD i []).length = 2 ∧ -1000000 ≤ (l.getD i []).getD m 0 ∧ (l.getD i []).getD m 0 ≤ 1000000 := by
  have h1 := h.len _ (getD_mem (d := ([] : List Int)) hi)
  exact ⟨h1, h.val _ (getD_mem hi) _ (getD_mem (by omega))⟩
theorem gg_off {g : Gauge} (hg : GgOK g) {m : Nat} (hm : m < 2) : 0 ≤ g.1.getD m 0 ∧ g.1.getD m 0 ≤ 5 ∧ 0 ≤ g.2.1.getD m 0 ∧ g.2.1.getD m 0 ≤ 100 ∧ -100 ≤ (g.2.2.getD m (0, 0)).1 ∧ (g.2.2.getD m (0, 0)).1 ≤ (g.2.2.getD m (0, 0)).2 ∧ (g.2.2.getD m (0, 0)).2 ≤ 100 := by
  obtain ⟨l1, l2, l3, o0, o1, k0, k1, c0, c1⟩ := hg.facts
  rcases (by omega : m = 0 ∨ m = 1) with rfl | rfl <;> omega
end Go.Proofs.Tw
namespace Go.Proofs.Tw
open Go Go.GX Go.Proofs

def slipOK (l : List Slip) (many : Int) (i : Nat) : Bool :=
  decide (0 ≤ (l.getD i (0, 0)).1) && (decide ((l.getD i (0, 0)).1 ≤ 1) && (decide (0 ≤ (l.getD i (0, 0)).2) && (decide ((l.getD i (0, 0)).2 < many) && (decide (i = 0) || (decide ((l.getD (i - 1) (0, 0)).1 ≤ (l.getD i (0, 0)).1) && (!decide ((l.getD i (0, 0)).1 = (l.getD (i - 1) (0, 0)).1) || decide ((l.getD (i - 1) (0, 0)).2 < (l.getD i (0, 0)).2)))))))
def slipsB (l : List Slip) (many : Int) : Bool := (List.range l.length).all (slipOK l many)
def fB_wp : Gauged → Unit → (Bool → Prop) → Prop := fun x _ Q => GdOK x ∧ Q true
end Go.Proofs.Tw
set_option linter.unusedVariables false
set_option maxRecDepth 100000
namespace Go.Proofs.Tw
open Go Go.GX Go.Proofs

end Go.Proofs.Tw
namespace Go.Proofs.Tw
open Go Go.GX Go.Proofs
def f48o_ct : Ct := ⟨kFs, .unit, kFs, f48_wp, false, true⟩
def f48o_an : Nat → Items
  | 0 => [.t 4 kI, .mat 3 5001 5002 false 81 true 3 kI]
  | _ => []
end Go.Proofs.Tw
set_option linter.unusedVariables false
set_option maxRecDepth 100000
namespace Go.Proofs.Tw
open Go Go.GX Go.Proofs

def V48o (fs : Fans) (Q : Fans → Prop) : Prop := ∃ (I : Int → List (List Int) → Prop), ∃ (μ : Int → List (List Int) → Nat), I (0 : Int) (List.map (fun (xs : List Int) ↦ xs) ([] : List (List Int))) ∧ ∀ (x : Int) (x_1 : List (List Int)), I x x_1 → List.length fs ≤ (9223372036854775807 : Nat) → cnd (decide (x < (↑(List.length fs) : Int))) ((0 : Int) ≤ x ∧ x < (↑(List.length fs) : Int) ∧ (List.length ([] : List Int) + List.length (List.getD fs (Int.toNat x) ([] : List Int))) * (8 : Nat) ≤ (140737488355328 : Nat) ∧ (List.length x_1 + List.length ((([] : List Int) ++ List.getD fs (Int.toNat x) ([] : List Int)) :: ([] : List (List Int)))) * (24 : Nat) ≤ (140737488355328 : Nat) ∧ List.length ((([] : List Int) ++ List.getD fs (Int.toNat x) ([] : List Int)) :: ([] : List (List Int))) ≠ (0 : Nat) ∧ I (IntKind.wrap IntKind.i64 (x + (1 : Int))) (List.map (fun (xs : List Int) ↦ xs) (List.map (fun (xs : List Int) ↦ xs) x_1 ++ (([] : List Int) ++ List.getD fs (Int.toNat x) ([] : List Int)) :: ([] : List (List Int)))) ∧ μ (IntKind.wrap IntKind.i64 (x + (1 : Int))) (List.map (fun (xs : List Int) ↦ xs) (List.map (fun (xs : List Int) ↦ xs) x_1 ++ (([] : List Int) ++ List.getD fs (Int.toNat x) ([] : List Int)) :: ([] : List (List Int)))) < μ x x_1) (Q (List.map (fun (x : List Int) ↦ x) x_1))
theorem V48oE (fs : Fans) (Q : Fans → Prop) : V48o fs Q = (vcFunc (S0 [] [100, 509]) true false f48o_an Tryd.f48 (bodyOf Tryd.f48) kFs .unit kFs fs () Q) := by kernel_rfl

end Go.Proofs.Tw
set_option linter.unusedVariables false
set_option maxRecDepth 100000
namespace Go.Proofs.Tw
open Go Go.GX Go.Proofs
theorem p48o {fs : Fans} {Q : Fans → Prop} (h : f48_wp fs () Q) : V48o fs Q := by
  obtain ⟨⟨h1, h2⟩, h⟩ := h
  unfold V48o
  simp only [List.map_id_fun', id, List.nil_append]
  refine forUpL (n := fs.length) (fun k => fs.take k) rfl (fun k hk I μ hI hw => ?_) (by rw [List.take_length]; exact h)
  have hl := h2 _ (getD_mem (d := ([] : List Int)) hk)
  rw [List.take_succ_eq_append_getElem hk, ← getD_lt hk (d := ([] : List Int))] at hI
  simp only [Int.toNat_natCast, hw]
  exact ⟨by omega, by omega, by simp only [List.length_nil]; omega, by simp only [List.length_take, List.length_cons, List.length_nil]; omega, by simp, hI⟩
end Go.Proofs.Tw
set_option maxRecDepth 100000
namespace Go.Proofs.Tw
open Go Go.GX Go.Proofs

end Go.Proofs.Tw
set_option linter.unusedVariables false
set_option maxRecDepth 100000
namespace Go.Proofs.Tw
open Go Go.GX Go.Proofs

def V53 (g : List Int × List Int × List (Int × Int)) (l : List (List Int)) (f : List Int) (Q : Bool → Prop) : Prop := List.length f ≤ (9223372036854775807 : Nat) → List.length l ≤ (9223372036854775807 : Nat) → cnd ((↑(List.length f) : Int) != (↑(List.length l) : Int)) (Q false) (∃ (I : Int → Prop), ∃ (μ : Int → Nat), I (0 : Int) ∧ ∀ (x : Int), I x → List.length f ≤ (9223372036854775807 : Nat) → cnd (decide (x < (↑(List.length f) : Int))) ((0 : Int) ≤ x ∧ x < (↑(List.length f) : Int) ∧ cnd (decide (List.getD f (Int.toNat x) (0 : Int) < (-1 : Int))) (Q false) ((0 : Int) ≤ x ∧ x < (↑(List.length f) : Int) ∧ (List.length l ≤ (9223372036854775807 : Nat) → cnd (decide (List.getD f (Int.toNat x) (0 : Int) ≥ (↑(List.length l) : Int))) (Q false) ((0 : Int) ≤ x ∧ x < (↑(List.length f) : Int) ∧ cnd (List.getD f (Int.toNat x) (0 : Int) == x) (Q false) (∃ (I_1 : Int → Prop), ∃ (μ_1 : Int → Nat), I_1 (0 : Int) ∧ ∀ (x_1 : Int), I_1 x_1 → List.length (Prod.fst g) ≤ (9223372036854775807 : Nat) → cnd (decide (x_1 < (↑(List.length (Prod.fst g)) : Int))) ((0 : Int) ≤ x ∧ x < (↑(List.length f) : Int) ∧ cnd (decide (List.getD f (Int.toNat x) (0 : Int) ≥ (0 : Int))) ((0 : Int) ≤ x ∧ x < (↑(List.length l) : Int) ∧ (0 : Int) ≤ x_1 ∧ x_1 < (↑(List.length (List.getD l (Int.toNat x) ([] : List Int))) : Int) ∧ (0 : Int) ≤ x ∧ x < (↑(List.length f) : Int) ∧ (0 : Int) ≤ List.getD f (Int.toNat x) (0 : Int) ∧ List.getD f (Int.toNat x) (0 : Int) < (↑(List.length l) : Int) ∧ (0 : Int) ≤ x_1 ∧ x_1 < (↑(List.length (List.getD l (Int.toNat (List.getD f (Int.toNat x) (0 : Int))) ([] : List Int))) : Int) ∧ (0 : Int) ≤ x_1 ∧ x_1 < (↑(List.length (Prod.fst g)) : Int) ∧ (0 : Int) ≤ x_1 ∧ x_1 < (↑(List.length (Prod.snd (Prod.snd g))) : Int) ∧ cnd (decide (IntKind.wrap IntKind.i64 (IntKind.wrap IntKind.i64 (List.getD (List.getD l (Int.toNat x) ([] : List Int)) (Int.toNat x_1) (0 : Int) - List.getD (List.getD l (Int.toNat (List.getD f (Int.toNat x) (0 : Int))) ([] : List Int)) (Int.toNat x_1) (0 : Int)) + IntKind.wrap IntKind.i64 ((2 : Int) * List.getD (Prod.fst g) (Int.toNat x_1) (0 : Int))) < Prod.fst (List.getD (Prod.snd (Prod.snd g)) (Int.toNat x_1) ((0 : Int), (0 : Int))))) (Q false) ((0 : Int) ≤ x_1 ∧ x_1 < (↑(List.length (Prod.fst g)) : Int) ∧ (0 : Int) ≤ x_1 ∧ x_1 < (↑(List.length (Prod.snd (Prod.snd g))) : Int) ∧ cnd (decide (IntKind.wrap IntKind.i64 (IntKind.wrap IntKind.i64 (List.getD (List.getD l (Int.toNat x) ([] : List Int)) (Int.toNat x_1) (0 : Int) - List.getD (List.getD l (Int.toNat (List.getD f (Int.toNat x) (0 : Int))) ([] : List Int)) (Int.toNat x_1) (0 : Int)) - IntKind.wrap IntKind.i64 ((2 : Int) * List.getD (Prod.fst g) (Int.toNat x_1) (0 : Int))) > Prod.snd (List.getD (Prod.snd (Prod.snd g)) (Int.toNat x_1) ((0 : Int), (0 : Int))))) (Q false) (I_1 (IntKind.wrap IntKind.i64 (x_1 + (1 : Int))) ∧ μ_1 (IntKind.wrap IntKind.i64 (x_1 + (1 : Int))) < μ_1 x_1))) (I (IntKind.wrap IntKind.i64 (x + (1 : Int))) ∧ μ (IntKind.wrap IntKind.i64 (x + (1 : Int))) < μ x)) (I (IntKind.wrap IntKind.i64 (x + (1 : Int))) ∧ μ (IntKind.wrap IntKind.i64 (x + (1 : Int))) < μ x)))))) (Q true))
theorem v53 (g : List Int × List Int × List (Int × Int)) (l : List (List Int)) (f : List Int) (Q : Bool → Prop) : V53 g l f Q = vcFunc (S0 [] []) f53_ct.own f53_ct.fresh f53_an Tryd.f53 (bodyOf Tryd.f53) f53_ct.A f53_ct.C f53_ct.R (g, l, f, ()) () Q := by kernel_rfl

def V56 (f : List Int) (Q : Int → Prop) : Prop := ∃ (I : Int → Int → Prop), ∃ (μ : Int → Int → Nat), I (0 : Int) (0 : Int) ∧ ∀ (x x_1 : Int), I x x_1 → List.length f ≤ (9223372036854775807 : Nat) → cnd (decide (x < (↑(List.length f) : Int))) ((0 : Int) ≤ x ∧ x < (↑(List.length f) : Int) ∧ cnd (decide (List.getD f (Int.toNat x) (0 : Int) < (0 : Int))) (I (IntKind.wrap IntKind.i64 (x + (1 : Int))) (IntKind.wrap IntKind.i64 (x_1 + (1 : Int))) ∧ μ (IntKind.wrap IntKind.i64 (x + (1 : Int))) (IntKind.wrap IntKind.i64 (x_1 + (1 : Int))) < μ x x_1) (I (IntKind.wrap IntKind.i64 (x + (1 : Int))) x_1 ∧ μ (IntKind.wrap IntKind.i64 (x + (1 : Int))) x_1 < μ x x_1)) (Q x_1)
theorem v56 (f : List Int) (Q : Int → Prop) : V56 f Q = vcFunc (S0 [] []) f56_ct.own f56_ct.fresh f56_an Tryd.f56 (bodyOf Tryd.f56) f56_ct.A f56_ct.C f56_ct.R f () Q := by kernel_rfl

end Go.Proofs.Tw
set_option linter.unusedVariables false
set_option maxRecDepth 100000
namespace Go.Proofs.Tw
open Go Go.GX Go.Proofs
theorem p53 {g : Gauge} {l : Fans} {f : List Int} {Q : Bool → Prop} (h : f53_wp (g, l, f, ()) () Q) : V53 g l f Q := by
  obtain ⟨⟨hg, hl⟩, h⟩ := h
  simp only at hg hl
  have h : Q (copiesB g l f) := h
  obtain ⟨l1, l2, l3, o0, o1, k0, k1, c0, c1⟩ := hg.facts
  intro _ _
  by_cases hn : f.length = l.length
  case neg =>
    refine cnd_iff.2 ⟨fun _ => ?_, fun h1 => ?_⟩
    · have : copiesB g l f = false := by unfold copiesB; rw [decide_eq_false hn]; rfl
      rwa [this] at h
    · simp at h1; omega
  refine cnd_iff.2 ⟨fun h1 => ?_, fun _ => ?_⟩
  · simp at h1; omega
  have hb : ∀ i, i < f.length → (decide (-1 ≤ f.getD i 0) && (decide (f.getD i 0 < l.length) && (!decide (f.getD i 0 = (i : Int)) && (decide (f.getD i 0 < 0) || (List.range g.1.length).all fun m => copyB g l i (f.getD i 0).toNat m)))) = false → Q false := by
    intro i hi e
    have : copiesB g l f = false := by
      unfold copiesB
      rw [decide_eq_true hn, Bool.true_and, List.all_eq_false]
      exact ⟨i, List.mem_range.2 hi, by rw [e]; simp⟩
    rwa [this] at h
  refine forUpGL (n := f.length) (fun k => ∀ i, i < k → (decide (-1 ≤ f.getD i 0) && (decide (f.getD i 0 < l.length) && (!decide (f.getD i 0 = (i : Int)) && (decide (f.getD i 0 < 0) || (List.range g.1.length).all fun m => copyB g l i (f.getD i 0).toNat m)))) = true) (fun j hj => absurd hj (Nat.not_lt_zero _)) (fun i hi hgo _ I μ hI hw1 => ?_) (fun hgo => ?_)
  · have hbi := hb i hi
    have hI : (decide (-1 ≤ f.getD i 0) && (decide (f.getD i 0 < l.length) && (!decide (f.getD i 0 = (i : Int)) && (decide (f.getD i 0 < 0) || (List.range g.1.length).all fun m => copyB g l i (f.getD i 0).toNat m)))) = true → I ((i : Int) + 1) ∧ μ ((i : Int) + 1) < μ i := fun e => hI fun j hj => by
      rcases Nat.lt_succ_iff_lt_or_eq.1 hj with hj | rfl
      · exact hgo j hj
      · exact e
    simp only [Int.toNat_natCast, hw1]
    refine ⟨by omega, by omega, cnd_iff.2 ⟨fun h1 => hbi ?_, fun h1 => ⟨by omega, by omega, fun _ => cnd_iff.2 ⟨fun h2 => hbi ?_, fun h2 => ⟨by omega, by omega, cnd_iff.2 ⟨fun h3 => hbi ?_, fun h3 => ?_⟩⟩⟩⟩⟩⟩
    · have h1 : (f.getD i 0) < -1 := of_decide_eq_true h1
      rw [decide_eq_false (show ¬ -1 ≤ (f.getD i 0) by omega)]; rfl
    · have h2 : (f.getD i 0) ≥ l.length := of_decide_eq_true h2
      rw [decide_eq_false (show ¬ (f.getD i 0) < (l.length : Int) by omega)]; simp
    · have h3 : (f.getD i 0) = i := by simpa using h3
      rw [decide_eq_true h3]; simp
    · have h1 : ¬ (f.getD i 0) < -1 := of_decide_eq_false h1
      have h2 : ¬ (f.getD i 0) ≥ l.length := of_decide_eq_false h2
      have h3 : ¬ (f.getD i 0) = i := by simpa using h3
      rw [decide_eq_true (show -1 ≤ (f.getD i 0) by omega), decide_eq_true (show (f.getD i 0) < (l.length : Int) by omega), decide_eq_false h3] at hbi hI
      simp only [Bool.true_and, Bool.not_false] at hbi hI
      refine forUpGL (n := g.1.length) (fun k => k = 0 ∨ (0 ≤ (f.getD i 0) ∧ ∀ m, m < k → copyB g l i (f.getD i 0).toNat m = true)) (.inl rfl) (fun m hm hgm _ I2 μ2 hI2 hw2 => ?_) (fun hgm => hI ?_)
      · simp only [Int.toNat_natCast, hw2]
        refine ⟨by omega, by omega, cnd_iff.2 ⟨fun h4 => ?_, fun h4 => hI ?_⟩⟩
        · have h4 : (f.getD i 0) ≥ 0 := of_decide_eq_true h4
          have a1 := hl.at (show i < l.length by omega) (show m < 2 by omega)
          have a2 := hl.at (show (f.getD i 0).toNat < l.length by omega) (show m < 2 by omega)
          have ho := gg_off hg (show m < 2 by omega)
          have hbm : copyB g l i (f.getD i 0).toNat m = false → Q false := by
            intro e
            refine hbi ?_
            rw [decide_eq_false (show ¬ (f.getD i 0) < 0 by omega), Bool.false_or, List.all_eq_false]
            exact ⟨m, List.mem_range.2 hm, by rw [e]; simp⟩
          unfold copyB at hbm
          simp only [wrapS (x := (l.getD i []).getD m 0 - (l.getD (f.getD i 0).toNat []).getD m 0) (by omega) (by omega), wrapS (x := 2 * g.1.getD m 0) (by omega) (by omega), wrapS (x := (l.getD i []).getD m 0 - (l.getD (f.getD i 0).toNat []).getD m 0 + 2 * g.1.getD m 0) (by omega) (by omega), wrapS (x := (l.getD i []).getD m 0 - (l.getD (f.getD i 0).toNat []).getD m 0 - 2 * g.1.getD m 0) (by omega) (by omega)]
          refine ⟨by omega, by omega, by omega, by omega, by omega, by omega, by omega, by omega, by omega, by omega, by omega, by omega, by omega, by omega, cnd_iff.2 ⟨fun h5 => hbm ?_, fun h5 => ⟨by omega, by omega, by omega, by omega, cnd_iff.2 ⟨fun h6 => hbm ?_, fun h6 => hI2 (.inr ⟨h4, fun j hj => ?_⟩)⟩⟩⟩⟩
          · have h5 := of_decide_eq_true h5
            rw [decide_eq_false (by omega)]; rfl
          · have h6 := of_decide_eq_true h6
            rw [Bool.and_eq_false_iff]
            exact .inr (decide_eq_false (by omega))
          · rcases Nat.lt_succ_iff_lt_or_eq.1 hj with hj | rfl
            · rcases hgm with e | e
              · omega
              · exact e.2 j hj
            · have h5 := of_decide_eq_false h5
              have h6 := of_decide_eq_false h6
              unfold copyB
              rw [decide_eq_true (by omega), decide_eq_true (by omega)]; rfl
        · have h4 : ¬ (f.getD i 0) ≥ 0 := of_decide_eq_false h4
          rw [decide_eq_true (show (f.getD i 0) < 0 by omega), Bool.true_or]
      · rcases hgm with e | e
        · omega
        · rw [Bool.or_eq_true]
          exact .inr (List.all_eq_true.2 fun m hm => e.2 m (List.mem_range.1 hm))
  · have : copiesB g l f = true := by
      unfold copiesB
      rw [decide_eq_true hn, Bool.true_and, List.all_eq_true]
      exact fun i hi => hgo i (List.mem_range.1 hi)
    rwa [this] at h
end Go.Proofs.Tw
set_option linter.unusedVariables false
set_option maxRecDepth 100000
namespace Go.Proofs.Tw
open Go Go.GX Go.Proofs
theorem p56 {f : List Int} {Q : Int → Prop} (h : f56_wp f () Q) : V56 f Q := by
  obtain ⟨hl, h⟩ := h
  refine forUpL (σ := Int) (n := f.length) (fun k => (((f.take k).countP fun x => decide (x < 0) : Nat) : Int)) rfl (fun k hk I μ hI hw => ?_) (by rw [List.take_length]; exact h)
  have tc := take_count (fun x : Int => decide (x < 0)) f hk 0
  rw [tc] at hI
  have cl : ((f.take k).countP fun x => decide (x < 0)) ≤ k := Nat.le_trans List.countP_le_length (by rw [List.length_take]; omega)
  simp only [Int.toNat_natCast, hw]
  refine ⟨by omega, by omega, cnd_iff.2 ⟨fun h1 => ?_, fun h1 => ?_⟩⟩
  · rw [if_pos h1] at hI
    rw [wrapS (by omega) (by omega)]
    exact hI
  · rw [if_neg (by rw [h1]; simp), Nat.add_zero] at hI
    exact hI
end Go.Proofs.Tw
set_option maxRecDepth 100000
namespace Go.Proofs.Tw
open Go Go.GX Go.Proofs

theorem ok53 : CallsOK Tryd.prog (assoc glT) 53 f53_ct :=
  callsOK_mk [] st_ok mk_ok in_ok AllOK.nil f53_an Tryd.func53 (by kernel_rfl) (by kernel_rfl) f53_ct fun ⟨g, l, f, _⟩ _ Q h => (v53 g l f Q).mp (p53 h)
theorem ok56 : CallsOK Tryd.prog (assoc glT) 56 f56_ct :=
  callsOK_mk [] st_ok mk_ok in_ok AllOK.nil f56_an Tryd.func56 (by kernel_rfl) (by kernel_rfl) f56_ct fun f _ Q h => (v56 f Q).mp (p56 h)
theorem ok48o : CallsOK Tryd.prog (assoc glT) 48 f48o_ct :=
  callsOK_mk [100, 509] st_ok mk_ok in_ok AllOK.nil f48o_an Tryd.func48 (by kernel_rfl) (by kernel_rfl) f48o_ct fun fs _ Q h => (V48oE fs Q).mp (p48o h)
end Go.Proofs.Tw
set_option linter.unusedVariables false
namespace Go.GX
open Go.RowKit Go.Shelf Go.Proofs

inductive Tgt where
  | ty (t : TypeId)
  | fs (l : List Field) (off : Nat)

def Tgt.one (P : Program) (n : Nat) : Tgt → Option TypeId
  | .ty t => some t
  | .fs [f] off => cond (Nat.beq f.offset off && Nat.beq (P.cellsOf f.type) n) (some f.type) none
  | .fs _ _ => none

def arrF (P : Program) (e : TypeId) (n : Nat) : List Field := (List.range n).map fun i => ⟨"", e, i * P.cellsOf e, false, "", "", 0⟩

def Kd.rng : (K : Kd) → K.T → Prop
  | .int k, x => (Lit.int k x).wf = true
  | .pair A B, x => A.rng x.1 ∧ B.rng x.2
  | .agg K, x => K.rng x
  | .sl _ K, xs => ∀ x, x ∈ (show List K.T from xs) → K.rng x
  | _, _ => True

def fitK (P : Program) : Kd → Tgt → Bool
  | .pair A B, .fs (f :: r) off => Nat.beq f.offset off && Nat.beq (P.cellsOf f.type) A.n && fitK P A (.ty f.type) && fitK P B (.fs r (off + A.n))
  | .pair _ _, _ => false
  | .unit, _ => false
  | .int k, s => match s.one P 1 with
    | some t => match P.underlying t with
      | some (.int k') => decide (k' = k)
      | _ => false
    | none => false
  | .bool, s => match s.one P 1 with
    | some t => match P.underlying t with
      | some .bool => true
      | _ => false
    | none => false
  | .sl e K, s => match s.one P 1 with
    | some t => match P.underlying t with
      | some (.slice e') => Nat.beq e' e && Nat.beq (P.cellsOf e) K.n && Nat.ble 1 K.n && fitK P K (.ty e)
      | _ => false
    | none => false
  | .agg K, s => match s.one P K.n with
    | some t => match P.underlying t with
      | some (.struct fs) => Nat.beq (P.cellsOf t) K.n && fitK P K (.fs fs.toList 0)
      | some (.array n e) => Nat.beq (P.cellsOf t) K.n && fitK P K (.fs (arrF P e n) 0)
      | _ => false
    | none => false
  | _, _ => false

section
variable {H : Type} {enc : TypeId × Value → H} {P : Program} {W : World} {base : Nat} {spare : Nat → Bool} {held : Bool}

def Reads (enc : TypeId × Value → H) (P : Program) (W : World) (base : Nat) (spare : Nat → Bool) (held : Bool) : Tgt → List Value → Prop
  | .ty t, cs => ∃ fuel x, DataW.trod enc P W base spare held fuel t cs = some x
  | .fs l off, cs => ∀ (i : Nat) (f : Field), l[i]? = some f → ∃ fuel x, DataW.trod enc P W base spare held fuel f.type ((cs.drop f.offset).take (P.cellsOf f.type)) = some x

def Tgt.cut (n : Nat) : Tgt → List Value → List Value
  | .ty _, cs => cs
  | .fs _ off, cs => (cs.drop off).take n

theorem one_reads {n : Nat} {s : Tgt} {t : TypeId} {cs : List Value} (h : s.one P n = some t) (hr : Reads enc P W base spare held s cs) : ∃ fuel x, DataW.trod enc P W base spare held fuel t (s.cut n cs) = some x := by
  cases s with
  | ty t' => cases h; exact hr
  | fs l off =>
    match l, h with
    | [f], h =>
      simp only [Tgt.one] at h
      cases hb : Nat.beq f.offset off && Nat.beq (P.cellsOf f.type) n with
      | false => rw [hb] at h; cases h
      | true =>
        rw [hb] at h; cases h
        rw [Bool.and_eq_true] at hb
        have h1 := Nat.eq_of_beq_eq_true hb.1
        have h2 := Nat.eq_of_beq_eq_true hb.2
        obtain ⟨fuel, x, hx⟩ := hr 0 f rfl
        exact ⟨fuel, x, by rw [h1, h2] at hx; exact hx⟩

theorem cut0 {l : List Field} {n : Nat} {z : List Value} (h : z.length = n) : (Tgt.fs l 0).cut n z = z := by
  show (z.drop 0).take n = z
  rw [List.drop_zero]
  exact List.take_of_length_le (by omega)
theorem cells?_cell {a : Addr} {n : Nat} {cs : List Value} (h : W.cells? base a n = some cs) : ∀ (i : Nat) u, cs[i]? = some u → W.cell? (a.add i) = some u := by
  unfold World.cells? at h
  split at h
  · intro i u hu
    have hl := mapM_some_length h
    have hi : i < cs.length := (List.getElem?_eq_some_iff.1 hu).1
    have hln : cs.length = n := by simpa using hl
    have := mapM_some_get h i i (List.getElem?_range (by omega))
    rw [this, hu]
  · cases h

theorem fit_rng : ∀ (K : Kd) (s : Tgt) (cs : List Value), fitK P K s = true → Reads enc P W base spare held s cs → (∀ l off, s = .fs l off → off + K.n ≤ cs.length) → ∃ y : K.T, (K.sem P).cells (fun _ => False) W y (s.cut K.n cs) ∧ K.rng y := by
  intro K
  induction K with
  | int k =>
    intro s cs h hr hl
    simp only [fitK] at h
    split at h
    · rename_i t ht
      obtain ⟨fuel, x, hx⟩ := one_reads ht hr
      split at h
      · rename_i k' hu
        have hk := of_decide_eq_true h
        subst hk
        obtain ⟨n, hn, _, hwf⟩ := DataW.trod_int hu hx
        exact ⟨n, ⟨_, hn, rfl, rfl⟩, hwf⟩
      · cases h
    · cases h
  | bool =>
    intro s cs h hr hl
    simp only [fitK] at h
    split at h
    · rename_i t ht
      obtain ⟨fuel, x, hx⟩ := one_reads ht hr
      split at h
      · rename_i hu
        obtain ⟨b, hb, _⟩ := DataW.trod_bool hu hx
        exact ⟨b, ⟨_, hb, rfl, rfl⟩, trivial⟩
      · cases h
    · cases h
  | sl e K ih =>
    intro s cs h hr hl
    simp only [fitK] at h
    split at h
    · rename_i t ht
      obtain ⟨fuel, x, hx⟩ := one_reads ht hr
      split at h
      · rename_i e' hu
        simp only [Bool.and_eq_true] at h
        obtain ⟨⟨⟨h1, h2⟩, hpos⟩, h3⟩ := h
        have hpos := Nat.le_of_ble_eq_true hpos
        obtain rfl := Nat.eq_of_beq_eq_true h1
        have hc := Nat.eq_of_beq_eq_true h2
        rcases DataW.trod_slice hu hx with ⟨hcs, _⟩ | ⟨a, len, cap, elems, rest, n, _, hcs, _, hb, hlc, hcap, hlen, hel, _, _⟩
        · exact ⟨([] : List K.T), ⟨_, hcs, rfl, none, 0, rfl, Nat.le_refl _, by unfold maxLen; omega, fun h => absurd rfl h⟩, fun x hx => (by cases hx)⟩
        · have key : ∀ i : Nat, i < len → ∃ y : K.T, ∃ ecs : List Value, W.cells? base (a.add (i * K.n)) K.n = some ecs ∧ (K.sem P).cells (fun _ => False) W y ecs ∧ K.rng y := by
            intro i hi
            have he := hel i hi
            rw [List.getElem?_eq_getElem (by omega)] at he
            obtain ⟨cs', g1, g2⟩ := Option.bind_eq_some_iff.1 he
            rw [hc] at g1
            obtain ⟨y, hy⟩ := ih (.ty e') cs' h3 ⟨_, _, g2⟩ (fun _ _ h => by cases h)
            exact ⟨y, cs', g1, hy⟩
          have all : ∀ k : Nat, k ≤ len → ∃ ys : List K.T, ys.length = k ∧ ∀ (i : Nat) y, ys[i]? = some y → ∃ ecs : List Value, W.cells? base (a.add (i * K.n)) K.n = some ecs ∧ (K.sem P).cells (fun _ => False) W y ecs ∧ K.rng y := by
            intro k
            induction k with
            | zero => intro _; exact ⟨[], rfl, fun i y h => by simp at h⟩
            | succ k ihk =>
              intro hk
              obtain ⟨ys, hyl, hys⟩ := ihk (by omega)
              obtain ⟨y, ecs, g1, g2⟩ := key k (by omega)
              refine ⟨ys ++ [y], by simp [hyl], fun i z hz => ?_⟩
              by_cases hi : i < ys.length
              · rw [List.getElem?_append_left hi] at hz
                exact hys i z hz
              · have hi' : i = ys.length := by
                  have := (List.getElem?_eq_some_iff.1 hz).1
                  simp at this; omega
                subst hi'
                rw [List.getElem?_concat_length] at hz
                cases hz
                rw [hyl]
                exact ⟨ecs, g1, g2⟩
          obtain ⟨ys, hyl, hys⟩ := all len (Nat.le_refl _)
          refine ⟨ys, ⟨_, hcs, rfl, some a, cap, by rw [hyl], by rw [hyl]; exact hlc, hcap, fun hne => ⟨a, rfl, fun h => h, ?_, fun j y hy => ?_⟩⟩, fun y hy => by
            obtain ⟨j, hj, rfl⟩ := List.mem_iff_getElem.1 hy
            obtain ⟨_, _, _, g3⟩ := hys j _ (List.getElem?_eq_getElem hj)
            exact g3⟩
          · obtain ⟨y0, hy0⟩ : ∃ y0, ys[0]? = some y0 := ⟨ys[0]'(List.length_pos_iff.2 hne), List.getElem?_eq_getElem _⟩
            obtain ⟨ecs, g1, g2, _⟩ := hys 0 y0 hy0
            rw [Nat.zero_mul] at g1
            have hn : 0 < ecs.length := by rw [Kd.cells_length P K g2]; exact hpos
            have := World.block_lt_of_cell? W _ (cells?_cell g1 0 (ecs[0]'hn) (List.getElem?_eq_getElem hn))
            simpa [add_block] using this
          · obtain ⟨ecs, g1, g2, _⟩ := hys j y hy
            refine ⟨ecs, g2, fun i u hu => ?_⟩
            have := cells?_cell g1 i u hu
            rwa [addAdd] at this
      · cases h
    · cases h
  | agg K ih =>
    intro s cs h hr hl
    simp only [fitK] at h
    split at h
    · rename_i t ht
      obtain ⟨fuel, x, hx⟩ := one_reads ht hr
      split at h
      · rename_i fs hu
        rw [Bool.and_eq_true] at h
        have hc := Nat.eq_of_beq_eq_true h.1
        obtain ⟨xs, n, _, _, hlen, hxl, hf⟩ := DataW.trod_struct hu hx
        obtain ⟨y, hy⟩ := ih (.fs fs.toList 0) (s.cut K.n cs) h.2 (fun i f hi => by
          have hi' : fs[i]? = some f := by simpa using hi
          have := hf i f hi'
          have hlt : i < xs.length := by rw [hxl]; exact (Array.getElem?_eq_some_iff.1 hi').1
          rw [List.getElem?_eq_getElem hlt] at this
          exact ⟨_, _, this⟩) (fun l off h => by cases h; rw [hlen, hc]; omega)
        refine ⟨y, ?_⟩
        have := cut0 (l := fs.toList) (n := K.n) (z := s.cut K.n cs) (by rw [hlen, hc])
        rw [this] at hy
        exact hy
      · rename_i n e hu
        rw [Bool.and_eq_true] at h
        have hc := Nat.eq_of_beq_eq_true h.1
        obtain ⟨xs, n', _, _, hlen, hxl, hf⟩ := DataW.trod_array hu hx
        obtain ⟨y, hy⟩ := ih (.fs (arrF P e n) 0) (s.cut K.n cs) h.2 (fun i f hi => by
          unfold arrF at hi
          rw [List.getElem?_map] at hi
          obtain ⟨i', hi', rfl⟩ := Option.map_eq_some_iff.1 hi
          have hin : i < n := by
            have := (List.getElem?_eq_some_iff.1 hi').1
            simpa using this
          rw [List.getElem?_range hin] at hi'
          cases hi'
          have := hf i hin
          rw [List.getElem?_eq_getElem (by omega)] at this
          exact ⟨_, _, this⟩) (fun l off h => by cases h; rw [hlen, hc]; omega)
        refine ⟨y, ?_⟩
        have := cut0 (l := arrF P e n) (n := K.n) (z := s.cut K.n cs) (by rw [hlen, hc])
        rw [this] at hy
        exact hy
      · cases h
    · cases h
  | pair A B ihA ihB =>
    intro s cs h hr hl
    match s, h with
    | .fs (f :: r) off, h =>
      simp only [fitK, Bool.and_eq_true] at h
      obtain ⟨⟨⟨h1, h2⟩, h3⟩, h4⟩ := h
      have h1 := Nat.eq_of_beq_eq_true h1
      have h2 := Nat.eq_of_beq_eq_true h2
      have hll := hl _ _ rfl
      simp only [Kd.n] at hll
      obtain ⟨fuel, x, hx⟩ := hr 0 f rfl
      obtain ⟨ya, hya, rya⟩ := ihA (.ty f.type) _ h3 ⟨fuel, x, hx⟩ (fun _ _ h => by cases h)
      obtain ⟨yb, hyb, ryb⟩ := ihB (.fs r (off + A.n)) cs h4 (fun i f' hi => hr (i + 1) f' (by simpa using hi)) (fun l o h => by cases h; omega)
      refine ⟨(ya, yb), ⟨_, _, ?_, hya, hyb⟩, rya, ryb⟩
      simp only [Tgt.cut, h1, h2, Kd.n]
      rw [List.take_add, List.drop_drop]
  | _ =>
    intro s cs h hr hl
    first
      | (simp only [fitK] at h; done)
      | (unfold fitK at h; cases h)
      | cases h
end
end Go.GX
set_option maxRecDepth 100000
set_option linter.unusedVariables false
namespace Go.Proofs.Tw
open Go Go.GX Go.Proofs Go.ChangeShapes Go.WideShapes Go.ChangeAt Go.RowKit
open Go.Proofs.YtnhgfmegaoibeaaDoor

theorem own9 : ownKnob Tryd.prog.godebug = none := by kernel_rfl
theorem laidOut9 : laidOutB Tryd.prog = true := by kernel_rfl
theorem u38 : ∃ f0 f1 : Field, Tryd.prog.underlying 38 = some (.struct #[f0, f1]) ∧ f0.offset = 0 ∧ f1.offset = 1 ∧ f0.type = 3 ∧ f1.type = 3 := ⟨_, _, rfl, rfl, rfl, rfl, rfl⟩
theorem laid_glb {W : World} (h : laidMetH Tryd.prog [("panache/twin.anything", Rows.laid_panache_twin_anything)] W) : GlbOK Tryd.prog (assoc glT) (fun _ => False) W := by
  rw [MakeChecks.laidMetH_plain _ _ _ (by kernel_rfl)] at h
  obtain ⟨ps, ⟨g, t, cs, fuel, p, q, hg, ht, hv, hd, _, hps⟩, _, hcell⟩ := h
  obtain rfl := Option.some.inj ((show Tryd.prog.globalNamed "panache/twin.anything" = some 0 by kernel_rfl).symm.trans hg)
  obtain rfl := Option.some.inj ((show (Tryd.prog.globals[0]?).map (·.type) = some 38 by kernel_rfl).symm.trans ht)
  obtain ⟨f0, f1, hu, o0, o1, t0, t1⟩ := u38
  obtain ⟨xs, n, _, hx, hlen, hxl, hf⟩ := DataW.trod_struct hu hd
  have c38 : Tryd.prog.cellsOf 38 = 2 := by kernel_rfl
  have c3 : Tryd.prog.cellsOf 3 = 1 := by kernel_rfl
  have u3 : Tryd.prog.underlying 3 = some (.int .i64) := by kernel_rfl
  rw [c38] at hlen
  have h0 := hf 0 f0 rfl
  have h1 := hf 1 f1 rfl
  rw [o0, t0, c3] at h0
  rw [o1, t1, c3] at h1
  have hxl : xs.length = 2 := hxl
  rw [List.getElem?_eq_getElem (by omega)] at h0 h1
  obtain ⟨a, ha, hax, _⟩ := DataW.trod_int u3 h0
  obtain ⟨b, hb, hbx, _⟩ := DataW.trod_int u3 h1
  have hm : xs.map (·.1) = [.lit (.int .i64 (-1048576)), .lit (.int .i64 1048576)] := (DataW.agg.inj (Prod.mk.inj hx).1).symm
  have ea : (xs.map (·.1))[0]? = some (.lit (.int .i64 a)) := by rw [List.getElem?_map, List.getElem?_eq_getElem (by omega), hax]; rfl
  have eb : (xs.map (·.1))[1]? = some (.lit (.int .i64 b)) := by rw [List.getElem?_map, List.getElem?_eq_getElem (by omega), hbx]; rfl
  rw [hm] at ea eb
  have ea : a = -1048576 := by simpa using ea.symm
  have eb : b = 1048576 := by simpa using eb.symm
  have hcs : cs.toList = [.int .i64 a] ++ [.int .i64 b] := by
    rw [← ha, ← hb]
    match hh : cs.toList, hlen with
    | [u, v], _ => rfl
  intro g v hv'
  have hg0 : g = 0 := by
    unfold assoc glT at hv'
    cases hgb : Nat.beq 0 g with
    | true => exact (Nat.eq_of_beq_eq_true hgb).symm
    | false => simp [assoc, hgb] at hv'
  subst hg0
  have hv' : v = ⟨38, k38, ((-1048576 : Int), (1048576 : Int))⟩ := (Option.some.inj hv').symm
  subst hv'
  have hsz : cs.size = 2 := by rw [← Array.length_toList]; exact hlen
  have hmem : MemPlace.cell 0 0 ∈ ps := by
    rw [hps, hsz]
    refine List.mem_append.2 (.inl (List.mem_append.2 (.inl ?_)))
    simp [MemPlace.row]
  obtain ⟨⟨c, ty, hc⟩, _⟩ := hcell 0 0 hmem
  have hcc : c = cs := by
    have hg2 : Tryd.prog.globalNamed "panache/twin.anything" = some 0 := by kernel_rfl
    simp only [World.var?, hg2, Option.bind_some, hc] at hv
    exact Option.some.inj hv
  subst hcc
  refine ⟨ty, 0, c, rfl, fun h => h, hc, ?_⟩
  rw [hcs, ea, eb]
  exact ⟨[.int .i64 (-1048576)], [.int .i64 1048576], rfl, ⟨_, rfl, rfl, rfl⟩, ⟨_, rfl, rfl, rfl⟩⟩
section
variable {H : Type} {enc : TypeId × Value → H} {W : World} {base b0 : Nat} {spare : Nat → Bool} {held : Bool} {v : Value} {d : DataW H} {p : List MemPlace}
end
end Go.Proofs.Tw
