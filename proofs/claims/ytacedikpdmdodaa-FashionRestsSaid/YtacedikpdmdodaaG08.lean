/- Part 8 of the texts behind the proof: FaV7, FaPc, FaO4, FaM3, FaM4, FaPd, FaO5, Gx25, FaBr, FaAll. -/
import Derived.Test.YtacedikpdmdodaaG07
import Derived.Test.YtacedikpdmdodaaProg
import Derived.ProofKit
import Derived.OpenShut
import Derived.Test.YtacedikpdmdodaaRows
import Derived.LaidMore
import Derived.Lay
import Derived.SevenTiedAt
set_option linter.unusedSimpArgs false
set_option linter.unusedVariables false
set_option linter.unusedSectionVars false
set_option linter.unusedVariables false
set_option maxRecDepth 100000
namespace Go.Proofs.Fa
open Go Go.GX Go.Proofs

def V55 (a : Int) (b : Int) (Q : Int × Int → Prop) : Prop := Q (a, b)
theorem v55 (a : Int) (b : Int) (Q : Int × Int → Prop) : V55 a b Q = vcFunc (S0 [] []) f55_ct.own f55_ct.fresh no_an Try.f55 (bodyOf Try.f55) f55_ct.A f55_ct.C f55_ct.R (a, b, ()) () Q := by kernel_rfl

def V56 (Q : List Int × Int × List (Int × Int) → Prop) : Prop := Q ((30 : Int) :: (28 : Int) :: (34 : Int) :: ([] : List Int), (2 : Int), ((35 : Int), (40 : Int)) :: ((25 : Int), (40 : Int)) :: ([] : List (Int × Int)))
theorem v56 (Q : List Int × Int × List (Int × Int) → Prop) : V56 Q = vcFunc (S0 [] []) f56_ct.own f56_ct.fresh no_an Try.f56 (bodyOf Try.f56) f56_ct.A f56_ct.C f56_ct.R () () Q := by kernel_rfl

def V57 (Q : List Spring → Prop) : Prop := f55_wp ((14 : Int), (16 : Int), ()) () fun (r : Int × Int) ↦ f55_wp ((10 : Int), (10 : Int), ()) () fun (r_1 : Int × Int) ↦ Q (((r.1, r.2), (2 : Int), (20 : Int)) :: ((r_1.1, r_1.2), (3 : Int), (30 : Int)) :: ([] : List Spring))
theorem v57 (Q : List Spring → Prop) : V57 Q = vcFunc (S0 [(55, f55_ct)] [104]) f57_ct.own f57_ct.fresh no_an Try.f57 (bodyOf Try.f57) f57_ct.A f57_ct.C f57_ct.R () () Q := by kernel_rfl

def V17 (Q : Bool → Prop) : Prop := f56_wp () () fun (r : List Int × Int × List (Int × Int)) ↦ f57_wp () () fun (r_1 : List Spring) ↦ f21_wp ((r.1, r.2.1, r.2.2), r_1, ()) () fun (r : List (List Int) × Int × Unit) ↦ f56_wp () () fun (r_2 : List Int × Int × List (Int × Int)) ↦ f57_wp () () fun (r_3 : List Spring) ↦ f29_wp ((r_2.1, r_2.2.1, r_2.2.2), r_3, ()) () fun (r_4 : List (List Int) × Int × Unit) ↦ f56_wp () () fun (r_5 : List Int × Int × List (Int × Int)) ↦ f57_wp () () fun (r_6 : List Spring) ↦ f39_wp ((r_5.1, r_5.2.1, r_5.2.2), r_6, ()) () fun (r_7 : Int × Int × Int × Unit) ↦ f57_wp () () fun (r_8 : List Spring) ↦ (0 : Int) ≤ (0 : Int) ∧ (0 : Int) < (↑(List.length r_8) : Int) ∧ f56_wp () () fun (r_9 : List Int × Int × List (Int × Int)) ↦ f50_wp ((r_9.1, r_9.2.1, r_9.2.2), List.set r_8 (Int.toNat (0 : Int)) ((Prod.fst (Prod.fst (List.getD r_8 (Int.toNat (0 : Int)) (((0 : Int), (0 : Int)), (0 : Int), (0 : Int)))), Prod.snd (Prod.fst (List.getD r_8 (Int.toNat (0 : Int)) (((0 : Int), (0 : Int)), (0 : Int), (0 : Int))))), (3 : Int), Prod.snd (Prod.snd (List.getD r_8 (Int.toNat (0 : Int)) (((0 : Int), (0 : Int)), (0 : Int), (0 : Int))))), ()) () fun (r_10 : List Int × Int × Unit) ↦ f56_wp () () fun (r_11 : List Int × Int × List (Int × Int)) ↦ (0 : Int) ≤ (0 : Int) ∧ (0 : Int) ≤ (2 : Int) ∧ (2 : Int) ≤ (↑(List.length r_11.1) : Int) ∧ ∃ (r_12 : List Spring), (f57_wp () () fun (r' : List Spring) ↦ r' = r_12) ∧ ∃ (r_13 : Int × Int × Unit), (f31_wp ((List.drop (Int.toNat (0 : Int)) (List.take (Int.toNat (2 : Int)) r_11.1), r_11.2.1, r_11.2.2), r_12, (40 : Int), ()) () fun (r' : Int × Int × Unit) ↦ r' = r_13) ∧ ∃ (r_14 : List Spring), (f57_wp () () fun (r' : List Spring) ↦ r' = r_14) ∧ ∃ (r_15 : Int × Int × Int × Unit), (f34_wp ((List.drop (Int.toNat (0 : Int)) (List.take (Int.toNat (2 : Int)) r_11.1), r_11.2.1, r_11.2.2), r_14, (40 : Int), ()) () fun (r' : Int × Int × Int × Unit) ↦ r' = r_15) ∧ f56_wp () () fun (r_16 : List Int × Int × List (Int × Int)) ↦ f57_wp () () fun (r_17 : List Spring) ↦ f36_wp ((r_16.1, r_16.2.1, r_16.2.2), r_17, ((0 : Int) :: ([] : List Int)) :: ((0 : Int) :: ([] : List Int)) :: ((1 : Int) :: (1 : Int) :: (1 : Int) :: ([] : List Int)) :: ([] : List (List Int)), ()) () fun (r_18 : List Int × Int × Unit) ↦ f56_wp () () fun (r_19 : List Int × Int × List (Int × Int)) ↦ f57_wp () () fun (r_20 : List Spring) ↦ f41_wp ((r_19.1, r_19.2.1, r_19.2.2), r_20, (0 : Int), ()) () fun (r_21 : Int × Int × Unit) ↦ cnd (r.2.1 != (0 : Int)) (Q false) (cnd (r_4.2.1 != (0 : Int)) (Q false) (cnd (r_7.2.2.1 != (0 : Int)) (Q false) (cnd (r_10.2.1 != (0 : Int)) (Q false) (cnd (r_13.2.1 != (0 : Int)) (Q false) (cnd (r_15.2.2.1 != (0 : Int)) (Q false) (cnd (r_18.2.1 != (0 : Int)) (Q false) (cnd (r_21.2.1 != (0 : Int)) (Q false) (f28_wp (r.1, ((0 : Int) :: ([] : List Int)) :: ((0 : Int) :: ([] : List Int)) :: ((1 : Int) :: (1 : Int) :: (1 : Int) :: ([] : List Int)) :: ([] : List (List Int)), ()) () fun (r : Bool) ↦ cnd r (f28_wp (r_4.1, ((1 : Int) :: (1 : Int) :: (1 : Int) :: ([] : List Int)) :: ((0 : Int) :: (0 : Int) :: ([] : List Int)) :: ([] : List (List Int)), ()) () fun (r : Bool) ↦ cnd r (cnd (r_7.1 == (4 : Int)) (cnd (r_7.2.1 == (310 : Int)) (f38_wp (r_10.1, (3 : Int) :: (2 : Int) :: ([] : List Int), ()) () fun (r : Bool) ↦ cnd r (cnd (r_13.1 == (1 : Int)) (cnd (r_15.1 == (1 : Int)) (cnd (r_15.2.1 == (1 : Int)) (f38_wp (r_18.1, (12 : Int) :: (10 : Int) :: (0 : Int) :: ([] : List Int), ()) () fun (r : Bool) ↦ cnd r (Q (r_21.1 == (20 : Int))) (Q false)) (Q false)) (Q false)) (Q false)) (Q false)) (Q false)) (Q false)) (Q false)) (Q false)))))))))
theorem v17 (Q : Bool → Prop) : V17 Q = vcFunc (S0 [(56, f56_ct), (57, f57_ct), (21, f21_ct), (29, f29_ct), (39, f39_ct), (50, f50_ct), (31, f31_ct), (34, f34_ct), (36, f36_ct), (41, f41_ct), (28, f28_ct), (38, f38_ct)] []) f17_ct.own f17_ct.fresh no_an Try.f17 (bodyOf Try.f17) f17_ct.A f17_ct.C f17_ct.R () () Q := by kernel_rfl

def V3 (s : List Int × Int × List (Int × Int)) (f : List Spring) (Q : Bool → Prop) : Prop := f16_wp ((s.1, s.2.1, s.2.2), f, ()) () fun (r : Bool) ↦ cnd r (f17_wp () () fun (r : Bool) ↦ Q r) (f18_wp (s.1, s.2.1, s.2.2) () fun (r : List Int × Int × List (Int × Int)) ↦ f19_wp f () fun (r_1 : List Spring) ↦ f20_wp ((r.1, r.2.1, r.2.2), r_1, ()) () fun (r_2 : Int) ↦ f21_wp ((r.1, r.2.1, r.2.2), r_1, ()) () fun (r_3 : List (List Int) × Int × Unit) ↦ f22_wp ((s.1, s.2.1, s.2.2), f, ()) () fun (r_4 : Int) ↦ f23_wp ((r.1, r.2.1, r.2.2), (s.1, s.2.1, s.2.2), r_1, f, ()) () fun (r : Bool) ↦ cnd (!r) (Q false) (cnd (r_2 != r_4) (Q false) (cnd (r_4 == (0 : Int)) (∃ (r : Int × Int × Int × Int), (f26_wp (f, true, ()) () fun (r' : Int × Int × Int × Int) ↦ r' = r) ∧ ∃ (r_5 : List BinT), (f25_wp (s.1, s.2.1, (r.1, r.2.1, r.2.2.1, r.2.2.2), (0 : Int), (1 : Int), ()) () fun (r' : List BinT) ↦ r' = r_5) ∧ ∃ (r : Int × Int × Int × Int), (f27_wp f () fun (r' : Int × Int × Int × Int) ↦ r' = r) ∧ ∃ (r_6 : List (List Int) × Bool × Unit), (f24_wp (r_5, (r.1, r.2.1, r.2.2.1, r.2.2.2), ()) () fun (r' : List (List Int) × Bool × Unit) ↦ r' = r_6) ∧ cnd r_6.2.1 (cnd (r_3.2.1 == (0 : Int)) (f28_wp (r_3.1, r_6.1, ()) () fun (r : Bool) ↦ cnd r (f17_wp () () fun (r : Bool) ↦ Q r) (Q false)) (Q false)) (cnd (r_3.2.1 == (9 : Int)) (List.length r_3.1 ≤ (9223372036854775807 : Nat) → cnd ((↑(List.length r_3.1) : Int) == (0 : Int)) (f17_wp () () fun (r : Bool) ↦ Q r) (Q false)) (Q false))) (cnd (r_3.2.1 == r_4) (List.length r_3.1 ≤ (9223372036854775807 : Nat) → cnd ((↑(List.length r_3.1) : Int) == (0 : Int)) (f17_wp () () fun (r : Bool) ↦ Q r) (Q false)) (Q false)))))
theorem v3 (s : List Int × Int × List (Int × Int)) (f : List Spring) (Q : Bool → Prop) : V3 s f Q = vcFunc (S0 [(16, f16_ct), (17, f17_ct), (18, f18_ct), (19, f19_ct), (20, f20_ct), (21, f21_ct), (22, f22_ct), (23, f23_ct), (26, f26_ct), (25, f25_ct), (27, f27_ct), (24, f24_ct), (28, f28_ct)] []) f3_ct.own f3_ct.fresh no_an Try.f3 (bodyOf Try.f3) f3_ct.A f3_ct.C f3_ct.R (s, f, ()) () Q := by kernel_rfl

def V4 (s : List Int × Int × List (Int × Int)) (f : List Spring) (Q : Bool → Prop) : Prop := f16_wp ((s.1, s.2.1, s.2.2), f, ()) () fun (r : Bool) ↦ cnd r (f17_wp () () fun (r : Bool) ↦ Q r) (f18_wp (s.1, s.2.1, s.2.2) () fun (r : List Int × Int × List (Int × Int)) ↦ f19_wp f () fun (r_1 : List Spring) ↦ f29_wp ((r.1, r.2.1, r.2.2), r_1, ()) () fun (r_2 : List (List Int) × Int × Unit) ↦ f22_wp ((s.1, s.2.1, s.2.2), f, ()) () fun (r_3 : Int) ↦ f23_wp ((r.1, r.2.1, r.2.2), (s.1, s.2.1, s.2.2), r_1, f, ()) () fun (r : Bool) ↦ cnd (!r) (Q false) (cnd (r_3 == (0 : Int)) (∃ (r : Int × Int × Int × Int), (f26_wp (f, true, ()) () fun (r' : Int × Int × Int × Int) ↦ r' = r) ∧ ∃ (r_4 : List BinT), (f30_wp (s.2.2, f, (r.1, r.2.1, r.2.2.1, r.2.2.2), ()) () fun (r' : List BinT) ↦ r' = r_4) ∧ ∃ (r : Int × Int × Int × Int), (f27_wp f () fun (r' : Int × Int × Int × Int) ↦ r' = r) ∧ ∃ (r_5 : List (List Int) × Bool × Unit), (f24_wp (r_4, (r.1, r.2.1, r.2.2.1, r.2.2.2), ()) () fun (r' : List (List Int) × Bool × Unit) ↦ r' = r_5) ∧ cnd r_5.2.1 (cnd (r_2.2.1 == (0 : Int)) (f28_wp (r_2.1, r_5.1, ()) () fun (r : Bool) ↦ cnd r (f17_wp () () fun (r : Bool) ↦ Q r) (Q false)) (Q false)) (cnd (r_2.2.1 == (9 : Int)) (List.length r_2.1 ≤ (9223372036854775807 : Nat) → cnd ((↑(List.length r_2.1) : Int) == (0 : Int)) (f17_wp () () fun (r : Bool) ↦ Q r) (Q false)) (Q false))) (cnd (r_2.2.1 == r_3) (List.length r_2.1 ≤ (9223372036854775807 : Nat) → cnd ((↑(List.length r_2.1) : Int) == (0 : Int)) (f17_wp () () fun (r : Bool) ↦ Q r) (Q false)) (Q false))))
theorem v4 (s : List Int × Int × List (Int × Int)) (f : List Spring) (Q : Bool → Prop) : V4 s f Q = vcFunc (S0 [(16, f16_ct), (17, f17_ct), (18, f18_ct), (19, f19_ct), (29, f29_ct), (22, f22_ct), (23, f23_ct), (26, f26_ct), (30, f30_ct), (27, f27_ct), (24, f24_ct), (28, f28_ct)] []) f4_ct.own f4_ct.fresh no_an Try.f4 (bodyOf Try.f4) f4_ct.A f4_ct.C f4_ct.R (s, f, ()) () Q := by kernel_rfl

def V7 (s : List Int × Int × List (Int × Int)) (f : List Spring) (c : List (List Int)) (Q : Bool → Prop) : Prop := f16_wp ((s.1, s.2.1, s.2.2), f, ()) () fun (r : Bool) ↦ cnd r (f17_wp () () fun (r : Bool) ↦ Q r) (List.length c ≤ (9223372036854775807 : Nat) → cnd (decide ((↑(List.length c) : Int) > (8 : Int))) (f17_wp () () fun (r : Bool) ↦ Q r) (∃ (I : Int → List (List Int) → Prop), ∃ (μ : Int → List (List Int) → Nat), I (0 : Int) ([] : List (List Int)) ∧ ∀ (x : Int) (x_1 : List (List Int)), I x x_1 → List.length c ≤ (9223372036854775807 : Nat) → cnd (decide (x < (↑(List.length c) : Int))) ((0 : Int) ≤ x ∧ x < (↑(List.length c) : Int) ∧ (List.length (List.getD c (Int.toNat x) ([] : List Int)) ≤ (9223372036854775807 : Nat) → cnd (decide ((↑(List.length (List.getD c (Int.toNat x) ([] : List Int))) : Int) > (30 : Int))) (f17_wp () () fun (r : Bool) ↦ Q r) ((0 : Int) ≤ x ∧ x < (↑(List.length c) : Int) ∧ (List.length ([] : List Int) + List.length (List.getD c (Int.toNat x) ([] : List Int))) * (8 : Nat) ≤ (140737488355328 : Nat) ∧ (List.length x_1 + List.length ((([] : List Int) ++ List.getD c (Int.toNat x) ([] : List Int)) :: ([] : List (List Int)))) * (24 : Nat) ≤ (140737488355328 : Nat) ∧ I (IntKind.wrap IntKind.i64 (x + (1 : Int))) (x_1 ++ (([] : List Int) ++ List.getD c (Int.toNat x) ([] : List Int)) :: ([] : List (List Int))) ∧ μ (IntKind.wrap IntKind.i64 (x + (1 : Int))) (x_1 ++ (([] : List Int) ++ List.getD c (Int.toNat x) ([] : List Int)) :: ([] : List (List Int))) < μ x x_1))) (f18_wp (s.1, s.2.1, s.2.2) () fun (r : List Int × Int × List (Int × Int)) ↦ f19_wp f () fun (r_1 : List Spring) ↦ f36_wp ((r.1, r.2.1, r.2.2), r_1, x_1, ()) () fun (r_2 : List Int × Int × Unit) ↦ f23_wp ((r.1, r.2.1, r.2.2), (s.1, s.2.1, s.2.2), r_1, f, ()) () fun (r : Bool) ↦ cnd (!r) (Q false) (f28_wp (x_1, c, ()) () fun (r : Bool) ↦ cnd (!r) (Q false) (f22_wp ((s.1, s.2.1, s.2.2), f, ()) () fun (r : Int) ↦ cnd (r == (0 : Int)) (f37_wp ((s.1, s.2.1, s.2.2), f, c, ()) () fun (r : List Int × Int × Unit) ↦ cnd (r.2.1 != (0 : Int)) (cnd (r_2.2.1 == r.2.1) (List.length r_2.1 ≤ (9223372036854775807 : Nat) → cnd ((↑(List.length r_2.1) : Int) == (0 : Int)) (f17_wp () () fun (r : Bool) ↦ Q r) (Q false)) (Q false)) (cnd (r_2.2.1 == (0 : Int)) (f38_wp (r_2.1, r.1, ()) () fun (r : Bool) ↦ cnd r (f17_wp () () fun (r : Bool) ↦ Q r) (Q false)) (Q false))) (cnd (r != (0 : Int)) (cnd (r_2.2.1 == r) (List.length r_2.1 ≤ (9223372036854775807 : Nat) → cnd ((↑(List.length r_2.1) : Int) == (0 : Int)) (f17_wp () () fun (r : Bool) ↦ Q r) (Q false)) (Q false)) (cnd (r_2.2.1 == (0 : Int)) (f38_wp (r_2.1, ([] : List Int), ()) () fun (r : Bool) ↦ cnd r (f17_wp () () fun (r : Bool) ↦ Q r) (Q false)) (Q false))))))))
theorem v7 (s : List Int × Int × List (Int × Int)) (f : List Spring) (c : List (List Int)) (Q : Bool → Prop) : V7 s f c Q = vcFunc (S0 [(16, f16_ct), (17, f17_ct), (18, f18_ct), (19, f19_ct), (36, f36_ct), (28, f28_ct), (23, f23_ct), (22, f22_ct), (37, f37_ct), (38, f38_ct)] []) f7_ct.own f7_ct.fresh f7_an Try.f7 (bodyOf Try.f7) f7_ct.A f7_ct.C f7_ct.R (s, f, c, ()) () Q := by kernel_rfl

end Go.Proofs.Fa
set_option linter.unusedVariables false
set_option maxRecDepth 100000
namespace Go.Proofs.Fa
open Go Go.GX Go.Proofs

theorem p55 {a b : Int} {Q : Int × Int → Prop} (h : f55_wp (a, b, ()) () Q) : V55 a b Q := h
theorem p56 {Q : Store → Prop} (h : f56_wp () () Q) : V56 Q := h
theorem p57 {Q : List Spring → Prop} (h : f57_wp () () Q) : V57 Q := h
def stL : Store := ([30, 28], 2, [(35, 40), (25, 40)])
def spT : List Spring := [((14, 16), 3, 20), ((10, 10), 3, 30)]
theorem d21 : resLeaves stD spD = ([[0], [0], [1, 1, 1]], 0) := by decide +kernel
theorem d29 : resLots stD spD = ([[1, 1, 1], [0, 0]], 0) := by decide +kernel
theorem d39 : resLoss stD spD = (4, 310, 0) := by decide +kernel
theorem d50 : resMost stD spT = ([3, 2], 0) := by decide +kernel
theorem d31 : resNew stL spD 40 = (1, 0) := by decide +kernel
theorem d34 : resBound stL spD 40 = (1, 1, 0) := by decide +kernel
theorem d36 : resRest stD spD [[0], [0], [1, 1, 1]] = ([12, 10, 0], 0) := by decide +kernel
theorem d41 : resRise stD spD 0 = (20, 0) := by decide +kernel
theorem p17 {Q : Bool → Prop} (h : f17_wp () () Q) : V17 Q := by
  have h : Q true := h
  refine ⟨by decide, by decide, by decide, by decide, by decide, _, rfl, _, rfl, _, rfl, _, rfl, ?_⟩
  show cnd ((resLeaves stD spD).2 != 0) (Q false) (cnd ((resLots stD spD).2 != 0) (Q false) (cnd ((resLoss stD spD).2.2 != 0) (Q false) (cnd ((resMost stD spT).2 != 0) (Q false) (cnd ((resNew stL spD 40).2 != 0) (Q false) (cnd ((resBound stL spD 40).2.2 != 0) (Q false) (cnd ((resRest stD spD [[0], [0], [1, 1, 1]]).2 != 0) (Q false) (cnd ((resRise stD spD 0).2 != 0) _
    (cnd (decide ((resLeaves stD spD).1 = [[0], [0], [1, 1, 1]])) (cnd (decide ((resLots stD spD).1 = [[1, 1, 1], [0, 0]])) (cnd ((resLoss stD spD).1 == 4) (cnd ((resLoss stD spD).2.1 == 310) (cnd (decide ((resMost stD spT).1 = [3, 2])) (cnd ((resNew stL spD 40).1 == 1) (cnd ((resBound stL spD 40).1 == 1) (cnd ((resBound stL spD 40).2.1 == 1) (cnd (decide ((resRest stD spD [[0], [0], [1, 1, 1]]).1 = [12, 10, 0])) (Q ((resRise stD spD 0).1 == 20)) (Q false)) (Q false)) (Q false)) (Q false)) (Q false)) (Q false)) (Q false)) (Q false)) (Q false)))))))))
  rw [d21, d29, d39, d50, d31, d34, d36, d41]
  exact h
theorem known {Q : Bool → Prop} (h : Q true) : f17_wp () () fun r => Q r := h
theorem beqT {a b : Int} (h : a = b) : (a == b) = true := by simp [h]
theorem cndE {a b : Int} {p q : Prop} (h : a = b) (hp : p) : cnd (a == b) p q := by rw [beqT h]; exact hp
theorem cndD {c : Prop} [Decidable c] {p q : Prop} (h : c) (hp : p) : cnd (decide c) p q := by rw [decide_eq_true h]; exact hp
theorem cndN {a b : Int} {p q : Prop} (h : a = b) (hq : q) : cnd (a != b) p q := by rw [bne, beqT h]; exact hq
theorem cndNe {a b : Int} {p q : Prop} (h : a ≠ b) (hp : p) : cnd (a != b) p q := by
  have : (a != b) = true := by simp [h]
  rw [this]; exact hp
theorem cndEe {a b : Int} {p q : Prop} (h : a ≠ b) (hq : q) : cnd (a == b) p q := by
  have : (a == b) = false := by simp [h]
  rw [this]; exact hq
theorem large_iff {s : Store} {f : List Spring} {Q : Bool → Prop} {T : Prop} (h : Q true) (hT : s.1.length ≤ 8 → s.2.2.length ≤ 8 → f.length ≤ 8 → T) : cnd (decide (8 < s.1.length ∨ 8 < s.2.2.length ∨ 8 < f.length)) (f17_wp () () fun r => Q r) T :=
  cnd_iff.2 ⟨fun _ => known h, fun h1 => by
    have h1 := of_decide_eq_false h1
    exact hT (by omega) (by omega) (by omega)⟩
theorem same_iff {s : Store} {f : List Spring} {p q : Prop} (h : q) : cnd (!(decide (s = s ∧ f = f))) p q := by
  rw [decide_eq_true ⟨rfl, rfl⟩]; exact h
theorem p7 {s : Store} {f : List Spring} {c : List (List Int)} {Q : Bool → Prop} (h : fL4_wp (s, f, c, ()) () Q) : V7 s f c Q := by
  have h : Q true := h
  refine large_iff (s := s) (f := f) h fun n1 n2 n3 _ => cnd_iff.2 ⟨fun _ => known h, fun h8 => ?_⟩
  have h8 : ¬ (c.length : Int) > 8 := of_decide_eq_false h8
  refine ⟨fun x l => ∃ k : Nat, k ≤ c.length ∧ x = k ∧ l = c.take k ∧ ∀ j, j < k → (c.getD j []).length ≤ 30, fun x _ => (c.length - x).toNat, ⟨0, by omega, rfl, rfl, by omega⟩, ?_⟩
  rintro x l ⟨k, hk, rfl, rfl, h30⟩ _
  refine cnd_iff.2 ⟨fun g1 => ?_, fun g1 => ?_⟩
  · have g1 : (k : Int) < c.length := of_decide_eq_true g1
    refine ⟨by omega, g1, fun _ => cnd_iff.2 ⟨fun _ => known h, fun g2 => ⟨by omega, g1, ?_, ?_, ⟨k + 1, by omega, ?_, ?_, fun j hj => ?_⟩, ?_⟩⟩⟩
    · have g2 : ¬ ((c.getD k []).length : Int) > 30 := of_decide_eq_false g2
      show (0 + (c.getD k []).length) * 8 ≤ _
      omega
    · have : (c.take k).length ≤ 8 := by rw [List.length_take]; omega
      show ((c.take k).length + 1) * 24 ≤ _
      omega
    · rw [wrapS (by omega) (by omega)]; omega
    · show c.take k ++ [c.getD k []] = c.take (k + 1)
      exact (take_snoc (by omega) []).symm
    · have g2 : ¬ ((c.getD k []).length : Int) > 30 := of_decide_eq_false g2
      rcases Nat.lt_succ_iff_lt_or_eq.1 hj with q | rfl
      · exact h30 j q
      · omega
    · show (c.length - IntKind.wrap .i64 ((k : Int) + 1)).toNat < (c.length - (k : Int)).toNat
      rw [wrapS (by omega) (by omega)]; omega
  have g1 : ¬ (k : Int) < c.length := of_decide_eq_false g1
  have hk : k = c.length := by omega
  subst hk
  rw [List.take_length]
  have h30 : ∀ l, l ∈ c → l.length ≤ 30 := fun l hl => by
    obtain ⟨j, hj, rfl⟩ := List.mem_iff_getElem.1 hl
    have := h30 j hj
    rwa [getD_lt hj] at this
  refine ⟨⟨n1, n2⟩, n3, ?_⟩
  show cnd (!(decide (s = s ∧ f = f))) _ (cnd (!(decide (c = c))) _ (cnd (checkF s f == 0) (_ ∧ cnd ((restF s f c).2 != 0) (cnd ((resRest s f c).2 == (restF s f c).2) (_ → cnd (((resRest s f c).1.length : Int) == 0) _ _) _) (cnd ((resRest s f c).2 == 0) (cnd (decide ((resRest s f c).1 = (restF s f c).1)) _ _) _))
    (cnd (checkF s f != 0) (cnd ((resRest s f c).2 == checkF s f) (_ → cnd (((resRest s f c).1.length : Int) == 0) _ _) _) _)))
  refine same_iff ?_
  rw [decide_eq_true (rfl : c = c)]
  by_cases hc : checkF s f = 0
  · have e : resRest s f c = restF s f c := by unfold resRest; rw [if_neg (by simp [hc])]
    rw [e]
    refine cndE hc ⟨⟨hc, h30⟩, ?_⟩
    by_cases h0 : (restF s f c).2 = 0
    · exact cndN h0 (cndE h0 (cndD rfl (known h)))
    · refine cndNe h0 (cndE rfl fun _ => cndE ?_ (known h))
      have : (restF s f c).1 = [] := by
        unfold restF at h0 ⊢
        split
        · rfl
        · rename_i hh
          rw [if_neg hh] at h0
          split at h0
          · exact absurd rfl h0
          · rfl
      rw [this]; rfl
  · have e : resRest s f c = ([], checkF s f) := by unfold resRest; rw [if_pos hc]
    rw [e]
    exact cndEe hc (cndNe hc (cndE rfl fun _ => cndE rfl (known h)))
end Go.Proofs.Fa
set_option maxRecDepth 100000
set_option maxHeartbeats 0
namespace Go.Proofs.Fa
open Go Go.GX Go.Proofs
variable [Inhabited BaseD]
theorem ok55 : CallsOK Try.prog (assoc glT) 55 f55_ct :=
  callsOK_mkM [] st_ok mp_ok it_ok mk_ok in_ok AllOK.nil no_an Try.func55 (by kernel_rfl) (by kernel_rfl) f55_ct fun ⟨a, b, _⟩ _ Q h => (v55 a b Q).mp (p55 h)
theorem ok56 : CallsOK Try.prog (assoc glT) 56 f56_ct :=
  callsOK_mkM [] st_ok mp_ok it_ok mk_ok in_ok AllOK.nil no_an Try.func56 (by kernel_rfl) (by kernel_rfl) f56_ct fun _ _ Q h => (v56  Q).mp (p56 h)
theorem ok57 : CallsOK Try.prog (assoc glT) 57 f57_ct :=
  callsOK_mkM [104] st_ok mp_ok it_ok mk_ok in_ok (AllOK.cons ok55 AllOK.nil) no_an Try.func57 (by kernel_rfl) (by kernel_rfl) f57_ct fun _ _ Q h => (v57  Q).mp (p57 h)
theorem ok17 : CallsOK Try.prog (assoc glT) 17 f17_ct :=
  callsOK_mkM [] st_ok mp_ok it_ok mk_ok in_ok (AllOK.cons ok56 (AllOK.cons ok57 (AllOK.cons ok21 (AllOK.cons ok29 (AllOK.cons ok39 (AllOK.cons ok50 (AllOK.cons ok31 (AllOK.cons ok34 (AllOK.cons ok36 (AllOK.cons ok41 (AllOK.cons ok28 (AllOK.cons ok38 AllOK.nil)))))))))))) no_an Try.func17 (by kernel_rfl) (by kernel_rfl) f17_ct fun _ _ Q h => (v17  Q).mp (p17 h)
theorem ok7 : CallsOK Try.prog (assoc glT) 7 f7_ct :=
  callsOK_mkM [] st_ok mp_ok it_ok mk_ok in_ok (AllOK.cons ok16 (AllOK.cons ok17 (AllOK.cons ok18 (AllOK.cons ok19 (AllOK.cons ok36 (AllOK.cons ok28 (AllOK.cons ok23 (AllOK.cons ok22 (AllOK.cons ok37 (AllOK.cons ok38 AllOK.nil)))))))))) f7_an Try.func7 (by kernel_rfl) (by kernel_rfl) f7_ct fun ⟨s, f, c, _⟩ _ Q h => (v7 s f c Q).mp (p7 h)
end Go.Proofs.Fa
set_option linter.unusedVariables false
namespace Go.Proofs.Fa
open Go Go.GX Go.Proofs

theorem ge0_iff {f s : FansT} : ge0 (GX.Fa.less f s) = true ↔ s.1 ≤ f.1 ∧ s.2.1 ≤ f.2.1 ∧ s.2.2.1 ≤ f.2.2.1 ∧ s.2.2.2 ≤ f.2.2.2 := by
  show (decide (0 ≤ f.1 - s.1) && decide (0 ≤ f.2.1 - s.2.1) && decide (0 ≤ f.2.2.1 - s.2.2.1) && decide (0 ≤ f.2.2.2 - s.2.2.2)) = true ↔ _
  simp only [Bool.and_eq_true, decide_eq_true_eq]
  constructor
  · rintro ⟨⟨⟨h1, h2⟩, h3⟩, h4⟩; exact ⟨by omega, by omega, by omega, by omega⟩
  · rintro ⟨h1, h2, h3, h4⟩; exact ⟨⟨⟨by omega, by omega⟩, by omega⟩, by omega⟩
theorem le4_of {f s : FansT} (hs : F5 s) (h : ge0 (GX.Fa.less f s) = true) : le4 s f := by
  obtain ⟨h1, h2, h3, h4⟩ := ge0_iff.1 h
  exact ⟨⟨hs.1.1, h1⟩, ⟨hs.2.1.1, h2⟩, ⟨hs.2.2.1.1, h3⟩, ⟨hs.2.2.2.1, h4⟩⟩
theorem le4_ge {f s : FansT} (h : le4 s f) : ge0 (GX.Fa.less f s) = true := ge0_iff.2 ⟨h.1.2, h.2.1.2, h.2.2.1.2, h.2.2.2.2⟩
theorem le4_F5 {s f : FansT} (h : le4 s f) (hf : F5 f) : F5 s ∧ F5 (GX.Fa.less f s) := by
  obtain ⟨⟨a1, a2⟩, ⟨b1, b2⟩, ⟨c1, c2⟩, ⟨d1, d2⟩⟩ := h
  obtain ⟨⟨a3, a4⟩, ⟨b3, b4⟩, ⟨c3, c4⟩, ⟨d3, d4⟩⟩ := hf
  refine ⟨⟨⟨by omega, by omega⟩, ⟨by omega, by omega⟩, ⟨by omega, by omega⟩, ⟨by omega, by omega⟩⟩, ⟨⟨?_, ?_⟩, ⟨?_, ?_⟩, ⟨?_, ?_⟩, ⟨?_, ?_⟩⟩⟩ <;> simp only [GX.Fa.less] <;> omega
theorem le4_idx {s f : FansT} (h : le4 s f) : idx5 s ≤ idx5 f := by
  obtain ⟨⟨a1, a2⟩, ⟨b1, b2⟩, ⟨c1, c2⟩, ⟨d1, d2⟩⟩ := h
  unfold idx5; omega

theorem lst_fold (b : BinT) (rest : FansT → Int) (f : FansT) : ∀ k : Nat,
    ((List.range k).foldl (fun best (n : Nat) => lstStep b rest f best (atF n)) (-1) = -1 ∧ ∀ m : Nat, m < k → ge0 (GX.Fa.less f (atF m)) = true → 0 ≤ rest (GX.Fa.less f (atF m)) → 0 ≤ costF b (atF m) → False) ∨
    ∃ n : Nat, n < k ∧ (ge0 (GX.Fa.less f (atF n)) = true ∧ 0 ≤ rest (GX.Fa.less f (atF n)) ∧ 0 ≤ costF b (atF n)) ∧ (List.range k).foldl (fun best (n : Nat) => lstStep b rest f best (atF n)) (-1) = costF b (atF n) + rest (GX.Fa.less f (atF n)) ∧
      ∀ m : Nat, m < k → ge0 (GX.Fa.less f (atF m)) = true → 0 ≤ rest (GX.Fa.less f (atF m)) → 0 ≤ costF b (atF m) → (List.range k).foldl (fun best (n : Nat) => lstStep b rest f best (atF n)) (-1) ≤ costF b (atF m) + rest (GX.Fa.less f (atF m))
  | 0 => .inl ⟨rfl, fun m hm => absurd hm (Nat.not_lt_zero _)⟩
  | k + 1 => by
    have ih := lst_fold b rest f k
    rw [foldl_succ]
    generalize (List.range k).foldl (fun best (n : Nat) => lstStep b rest f best (atF n)) (-1) = v at ih ⊢
    by_cases hC : ge0 (GX.Fa.less f (atF k)) = true ∧ 0 ≤ rest (GX.Fa.less f (atF k)) ∧ 0 ≤ costF b (atF k)
    · obtain ⟨c1, c2, c3⟩ := hC
      have e : lstStep b rest f v (atF k) = if decide (v < 0) || decide (costF b (atF k) + rest (GX.Fa.less f (atF k)) < v) then costF b (atF k) + rest (GX.Fa.less f (atF k)) else v := by
        unfold lstStep
        rw [c1, decide_eq_false (show ¬ rest (GX.Fa.less f (atF k)) < 0 by omega), decide_eq_true c3]
        simp
      rw [e]
      by_cases hb : v < 0 ∨ costF b (atF k) + rest (GX.Fa.less f (atF k)) < v
      · rw [if_pos (by simpa using hb)]
        refine .inr ⟨k, by omega, ⟨c1, c2, c3⟩, rfl, fun m hm h1 h2 h3 => ?_⟩
        rcases Nat.lt_succ_iff_lt_or_eq.1 hm with q | rfl
        · rcases ih with ⟨_, ih⟩ | ⟨n, _, ⟨_, g2, g3⟩, hv, ih⟩
          · exact (ih m q h1 h2 h3).elim
          · have := ih m q h1 h2 h3
            rcases hb with hb | hb
            · omega
            · omega
        · exact Int.le_refl _
      · rw [if_neg (by simpa using hb)]
        rcases ih with ⟨hv, ih⟩ | ⟨n, hn, g, hv, ih⟩
        · exact absurd (.inl (by omega)) hb
        · refine .inr ⟨n, by omega, g, hv, fun m hm h1 h2 h3 => ?_⟩
          rcases Nat.lt_succ_iff_lt_or_eq.1 hm with q | rfl
          · exact ih m q h1 h2 h3
          · omega
    · have e : lstStep b rest f v (atF k) = v := by
        unfold lstStep
        by_cases c1 : ge0 (GX.Fa.less f (atF k)) = true
        · by_cases c2 : 0 ≤ rest (GX.Fa.less f (atF k))
          · have c3 : ¬ 0 ≤ costF b (atF k) := fun c3 => hC ⟨c1, c2, c3⟩
            rw [decide_eq_false c3]
            simp
          · rw [decide_eq_true (show rest (GX.Fa.less f (atF k)) < 0 by omega)]; simp
        · rw [Bool.eq_false_iff.2 c1]; simp
      rw [e]
      rcases ih with ⟨hv, ih⟩ | ⟨n, hn, g, hv, ih⟩
      · refine .inl ⟨hv, fun m hm h1 h2 h3 => ?_⟩
        rcases Nat.lt_succ_iff_lt_or_eq.1 hm with q | rfl
        · exact ih m q h1 h2 h3
        · exact hC ⟨h1, h2, h3⟩
      · refine .inr ⟨n, by omega, g, hv, fun m hm h1 h2 h3 => ?_⟩
        rcases Nat.lt_succ_iff_lt_or_eq.1 hm with q | rfl
        · exact ih m q h1 h2 h3
        · exact absurd ⟨h1, h2, h3⟩ hC
theorem lstR_spec {b : BinT} {rest : FansT → Int} {f : FansT} (hf : F5 f) :
    (lstR b rest f = -1 ∧ ∀ s, le4 s f → 0 ≤ rest (GX.Fa.less f s) → 0 ≤ costF b s → False) ∨
    ∃ s, le4 s f ∧ 0 ≤ rest (GX.Fa.less f s) ∧ 0 ≤ costF b s ∧ lstR b rest f = costF b s + rest (GX.Fa.less f s) ∧ ∀ t, le4 t f → 0 ≤ rest (GX.Fa.less f t) → 0 ≤ costF b t → lstR b rest f ≤ costF b t + rest (GX.Fa.less f t) := by
  have hi := idx_bnd hf
  have to : ∀ s, le4 s f → (idx5 s).toNat < (idx5 f).toNat + 1 ∧ atF ((idx5 s).toNat : Nat) = s := fun s hs => by
    have h5 := (le4_F5 hs hf).1
    have := idx_bnd h5
    have := le4_idx hs
    refine ⟨by omega, ?_⟩
    rw [show (((idx5 s).toNat : Nat) : Int) = idx5 s by omega]
    exact at_idx h5
  rcases lst_fold b rest f ((idx5 f).toNat + 1) with ⟨h1, h2⟩ | ⟨n, hn, ⟨g1, g2, g3⟩, h1, h2⟩
  · refine .inl ⟨h1, fun s hs a1 a2 => ?_⟩
    obtain ⟨t1, t2⟩ := to s hs
    exact h2 _ t1 (by rw [t2]; exact le4_ge hs) (by rw [t2]; exact a1) (by rw [t2]; exact a2)
  · refine .inr ⟨atF n, le4_of (atF_bnd (by omega) (by omega)) g1, g2, g3, h1, fun s hs a1 a2 => ?_⟩
    obtain ⟨t1, t2⟩ := to s hs
    have := h2 _ t1 (by rw [t2]; exact le4_ge hs) (by rw [t2]; exact a1) (by rw [t2]; exact a2)
    rw [t2] at this
    exact this
theorem least_fold (b : BinT) (r : List BinT) (f : FansT) : ∀ (l : List FansT) (v : Int), l.foldl (leastStep b r f) v ≤ v ∧
    (∀ s, s ∈ l → GX.Fa.fitsB b s = true → l.foldl (leastStep b r f) v ≤ GX.Fa.lossV b s + GX.Fa.least r (GX.Fa.less f s)) ∧
    (l.foldl (leastStep b r f) v = v ∨ ∃ s, s ∈ l ∧ GX.Fa.fitsB b s = true ∧ l.foldl (leastStep b r f) v = GX.Fa.lossV b s + GX.Fa.least r (GX.Fa.less f s))
  | [], v => ⟨Int.le_refl _, fun s hs => by simp at hs, .inl rfl⟩
  | x :: l, v => by
    rw [List.foldl_cons]
    obtain ⟨h1, h2, h3⟩ := least_fold b r f l (leastStep b r f v x)
    have hx : leastStep b r f v x ≤ v ∧ (GX.Fa.fitsB b x = true → leastStep b r f v x ≤ GX.Fa.lossV b x + GX.Fa.least r (GX.Fa.less f x)) ∧ (leastStep b r f v x = v ∨ (GX.Fa.fitsB b x = true ∧ leastStep b r f v x = GX.Fa.lossV b x + GX.Fa.least r (GX.Fa.less f x))) := by
      unfold leastStep
      by_cases hf : GX.Fa.fitsB b x = true
      · rw [if_pos hf]
        split
        · exact ⟨by omega, fun _ => Int.le_refl _, .inr ⟨hf, rfl⟩⟩
        · exact ⟨Int.le_refl _, fun _ => by omega, .inl rfl⟩
      · rw [if_neg hf]
        exact ⟨Int.le_refl _, fun h => absurd h hf, .inl rfl⟩
    refine ⟨by omega, fun s hs hf => ?_, ?_⟩
    · rcases List.mem_cons.1 hs with rfl | hs
      · have := hx.2.1 hf; omega
      · exact h2 s hs hf
    · rcases h3 with h3 | ⟨s, hs, hf, h3⟩
      · rcases hx.2.2 with h4 | ⟨hf, h4⟩
        · exact .inl (h3.trans h4)
        · exact .inr ⟨x, by simp, hf, h3.trans h4⟩
      · exact .inr ⟨s, by simp [hs], hf, h3⟩

def supp (n : Nat) (f : FansT) : Prop := ∀ i, i < 4 → n ≤ i → at4 f i = 0
theorem at4_less (f s : FansT) : ∀ {i : Nat}, i < 4 → at4 (GX.Fa.less f s) i = at4 f i - at4 s i
  | 0, _ => rfl
  | 1, _ => rfl
  | 2, _ => rfl
  | 3, _ => rfl
  | k + 4, h => absurd h (by omega)
theorem le4_at {s f : FansT} (h : le4 s f) : ∀ {i : Nat}, i < 4 → 0 ≤ at4 s i ∧ at4 s i ≤ at4 f i
  | 0, _ => h.1
  | 1, _ => h.2.1
  | 2, _ => h.2.2.1
  | 3, _ => h.2.2.2
  | k + 4, h => absurd h (by omega)
theorem supp.le {n : Nat} {f s : FansT} (h : supp n f) (hs : le4 s f) : supp n s ∧ supp n (GX.Fa.less f s) := by
  refine ⟨fun i hi hn => ?_, fun i hi hn => ?_⟩
  · have := h i hi hn
    have := le4_at hs hi
    omega
  · have := h i hi hn
    have := le4_at hs hi
    rw [at4_less _ _ hi]; omega
def agree (n : Nat) (b b' : BinT) : Prop := ∀ s, F5 s → supp n s → GX.Fa.fitsB b s = GX.Fa.fitsB b' s ∧ (GX.Fa.fitsB b s = true → GX.Fa.lossV b s = GX.Fa.lossV b' s)
def agrees (n : Nat) : List BinT → List BinT → Prop
  | [], [] => True
  | b :: r, b' :: r' => agree n b b' ∧ agrees n r r'
  | _, _ => False
theorem cost_fit {b : BinT} {s : FansT} (hb : GX.Fa.fitsB b s = true → 0 ≤ GX.Fa.lossV b s) : 0 ≤ costF b s ↔ GX.Fa.fitsB b s = true := by
  unfold costF
  by_cases h : GX.Fa.fitsB b s = true
  · rw [if_pos h]; exact ⟨fun _ => h, fun _ => hb h⟩
  · rw [if_neg h]; exact ⟨fun h => by omega, fun h' => absurd h' h⟩
theorem cost_loss {b : BinT} {s : FansT} (h : GX.Fa.fitsB b s = true) : costF b s = GX.Fa.lossV b s := if_pos h
theorem tval_top {bs : List BinT} (h : Bins0 bs) {f : FansT} (hf : F5 f) : tval bs f < GX.Fa.NONE := by
  have h1 := (tval_bnd h f hf).2
  have := h.k
  unfold GX.Fa.NONE
  omega
theorem tval_least {n : Nat} : ∀ {bs bs' : List BinT}, agrees n bs bs' → Bins0 bs → ∀ {f : FansT}, F5 f → supp n f → GX.Fa.least bs' f = if tval bs f < 0 then GX.Fa.NONE else tval bs f
  | [], [], _, _, f, _, _ => by
    rw [GX.Fa.least]
    unfold tval
    by_cases h : GX.Fa.isNo f = true
    · rw [if_pos h, if_pos h]; rfl
    · rw [if_neg h, if_neg h]; rfl
  | [], _ :: _, h, _, _, _, _ => h.elim
  | _ :: _, [], h, _, _, _, _ => h.elim
  | b :: r, b' :: r', h, hb, f, hf, hs => by
    obtain ⟨ha, hr⟩ := h
    obtain ⟨b1, b2, b3⟩ := hb.cons
    have htop := tval_top hb hf
    obtain ⟨l1, l2, l3⟩ := least_fold b' r' f (GX.Fa.upTo f) GX.Fa.NONE
    rw [← least_cons] at l1 l2 l3
    have IH : ∀ s, le4 s f → GX.Fa.least r' (GX.Fa.less f s) = if tval r (GX.Fa.less f s) < 0 then GX.Fa.NONE else tval r (GX.Fa.less f s) := fun s h => tval_least hr b3 (le4_F5 h hf).2 (hs.le h).2
    have att : GX.Fa.least (b' :: r') f = GX.Fa.NONE ∨ ∃ s, le4 s f ∧ 0 ≤ costF b s ∧ 0 ≤ tval r (GX.Fa.less f s) ∧ GX.Fa.least (b' :: r') f = costF b s + tval r (GX.Fa.less f s) := by
      rcases l3 with l3 | ⟨s, hm, hfit, l3⟩
      · exact .inl l3
      · have hle := (mem_upTo hf.fok).1 hm
        have h5 := (le4_F5 hle hf).1
        have hsp := (hs.le hle).1
        obtain ⟨q1, q2⟩ := ha s h5 hsp
        rw [hfit] at q1
        have hc : 0 ≤ costF b s := (cost_fit (b2 s h5)).2 q1
        rw [IH s hle, ← q2 q1, ← cost_loss q1] at l3
        by_cases ht : tval r (GX.Fa.less f s) < 0
        · rw [if_pos ht] at l3; exact .inl (by omega)
        · rw [if_neg ht] at l3; exact .inr ⟨s, hle, hc, by omega, l3⟩
    have low : ∀ s, le4 s f → 0 ≤ tval r (GX.Fa.less f s) → 0 ≤ costF b s → GX.Fa.least (b' :: r') f ≤ costF b s + tval r (GX.Fa.less f s) := fun s hle ht hc => by
      have h5 := (le4_F5 hle hf).1
      have hfit := (cost_fit (b2 s h5)).1 hc
      obtain ⟨q1, q2⟩ := ha s h5 (hs.le hle).1
      have := l2 s ((mem_upTo hf.fok).2 hle) (q1 ▸ hfit)
      rw [IH s hle, if_neg (by omega), ← q2 hfit, ← cost_loss hfit] at this
      exact this
    have e : tval (b :: r) f = lstR b (tval r) f := rfl
    rw [e] at htop ⊢
    rcases lstR_spec (b := b) (rest := tval r) hf with ⟨v, hno⟩ | ⟨s, hle, ht, hc, v, hmin⟩
    · rw [v, if_pos (by omega)]
      rcases att with att | ⟨s, hle, hc, ht, _⟩
      · exact att
      · exact (hno s hle ht hc).elim
    · rw [if_neg (by omega)]
      have h1 := low s hle ht hc
      rcases att with att | ⟨s', hle', hc', ht', h'⟩
      · omega
      · have := hmin s' hle' ht' hc'
        omega
theorem leL_trans {a b c : List Int} (h1 : cmpL a b ≤ 0) (h2 : cmpL b c ≤ 0) : cmpL a c ≤ 0 := by
  by_cases e1 : cmpL a b = 0
  · rw [cmpL_zero e1]; exact h2
  · by_cases e2 : cmpL b c = 0
    · rw [← cmpL_zero e2]; exact h1
    · exact Int.le_of_lt (cmpL_trans (b := b) (by omega) (by omega))
theorem leL_anti {a b : List Int} (h1 : cmpL a b ≤ 0) (h2 : cmpL b a ≤ 0) : a = b := by
  rw [cmpL_neg a b] at h2
  exact cmpL_zero (by omega)

def smD (b : BinT) (r : List BinT) (f : FansT) (left : Int) (s : FansT) : Bool := GX.Fa.fitsB b s && decide (GX.Fa.lossV b s + GX.Fa.least r (GX.Fa.less f s) = left)
theorem pick_fold (b : BinT) (r : List BinT) (f : FansT) (left : Int) : ∀ (l : List FansT) (st : List Int × FansT × Bool), (st.2.2 = true → st.1 = listF st.2.1) →
    (l.foldl (smStep b r f left) st = st ∧ (∀ s, s ∈ l → smD b r f left s = true → st.2.2 = true ∧ cmpL st.1 (listF s) ≤ 0)) ∨
    ((l.foldl (smStep b r f left) st).2.2 = true ∧ (l.foldl (smStep b r f left) st).1 = listF (l.foldl (smStep b r f left) st).2.1 ∧ ((l.foldl (smStep b r f left) st).2.1 ∈ l ∧ smD b r f left (l.foldl (smStep b r f left) st).2.1 = true) ∧
      (∀ s, s ∈ l → smD b r f left s = true → cmpL (l.foldl (smStep b r f left) st).1 (listF s) ≤ 0) ∧ (st.2.2 = true → cmpL (l.foldl (smStep b r f left) st).1 st.1 ≤ 0))
  | [], st, h => .inl ⟨rfl, fun s hs => by simp at hs⟩
  | x :: l, st, h => by
    rw [List.foldl_cons]
    have hx : (smStep b r f left st x = st ∧ (smD b r f left x = true → st.2.2 = true ∧ cmpL st.1 (listF x) ≤ 0)) ∨ (smStep b r f left st x = (listF x, x, true) ∧ smD b r f left x = true ∧ (st.2.2 = true → cmpL (listF x) st.1 ≤ 0)) := by
      have e : smStep b r f left st x = if smD b r f left x then (if !st.2.2 || decide (cmpL (listF x) st.1 < 0) then (listF x, x, true) else st) else st := rfl
      rw [e]
      by_cases hd : smD b r f left x = true
      · rw [if_pos hd]
        by_cases hc : (!st.2.2 || decide (cmpL (listF x) st.1 < 0)) = true
        · rw [if_pos hc]
          refine .inr ⟨rfl, hd, fun ht => ?_⟩
          rw [ht] at hc
          have : cmpL (listF x) st.1 < 0 := by simpa using hc
          omega
        · rw [if_neg hc]
          refine .inl ⟨rfl, fun _ => ?_⟩
          simp only [Bool.or_eq_true, Bool.not_eq_true', decide_eq_true_eq, not_or] at hc
          refine ⟨by cases h : st.2.2 <;> simp_all, ?_⟩
          have := cmpL_neg (listF x) st.1
          omega
      · rw [if_neg hd]
        exact .inl ⟨rfl, fun h => absurd h hd⟩
    rcases hx with ⟨e, hx⟩ | ⟨e, hd, hx⟩
    · rw [e]
      rcases pick_fold b r f left l st h with ⟨g1, g2⟩ | ⟨g1, g2, ⟨g3, g4⟩, g5, g6⟩
      · refine .inl ⟨g1, fun s hs hd => ?_⟩
        rcases List.mem_cons.1 hs with rfl | hs
        · exact hx hd
        · exact g2 s hs hd
      · refine .inr ⟨g1, g2, ⟨by simp [g3], g4⟩, fun s hs hd => ?_, g6⟩
        rcases List.mem_cons.1 hs with rfl | hs
        · obtain ⟨q1, q2⟩ := hx hd
          exact leL_trans (g6 q1) q2
        · exact g5 s hs hd
    · rw [e]
      rcases pick_fold b r f left l (listF x, x, true) (fun _ => rfl) with ⟨g1, g2⟩ | ⟨g1, g2, ⟨g3, g4⟩, g5, g6⟩
      · rw [g1]
        refine .inr ⟨rfl, rfl, ⟨by simp, hd⟩, fun s hs hd => ?_, hx⟩
        rcases List.mem_cons.1 hs with rfl | hs
        · show cmpL (listF s) (listF s) ≤ 0
          rw [cmpL_self]; exact Int.le_refl _
        · exact (g2 s hs hd).2
      · refine .inr ⟨g1, g2, ⟨by simp [g3], g4⟩, fun s hs hd => ?_, fun ht => leL_trans (g6 rfl) (hx ht)⟩
        rcases List.mem_cons.1 hs with rfl | hs
        · exact g6 rfl
        · exact g5 s hs hd
theorem pick_spec {b : BinT} {r : List BinT} {f : FansT} {left : Int} (hf : FOK f) {s0 : FansT} (h0 : le4 s0 f) (hd : smD b r f left s0 = true) :
    (smPick b r f left).1 = listF (smPick b r f left).2.1 ∧ le4 (smPick b r f left).2.1 f ∧ smD b r f left (smPick b r f left).2.1 = true ∧ ∀ s, le4 s f → smD b r f left s = true → cmpL (smPick b r f left).1 (listF s) ≤ 0 := by
  rcases pick_fold b r f left (GX.Fa.upTo f) ([], NO4, false) (fun h => by cases h) with ⟨g1, g2⟩ | ⟨g1, g2, ⟨g3, g4⟩, g5, g6⟩
  · have := (g2 s0 ((mem_upTo hf).2 h0) hd).1
    cases this
  · exact ⟨g2, (mem_upTo hf).1 g3, g4, fun s hs hd => g5 s ((mem_upTo hf).2 hs) hd⟩
theorem sm_eq {n : Nat} : ∀ {bs bs' : List BinT}, agrees n bs bs' → Bins0 bs → ∀ {f : FansT}, F5 f → supp n f → 0 ≤ tval bs f → smR bs (tval bs f) f = smGo bs' (tval bs f) f
  | [], [], _, _, f, _, _, _ => rfl
  | [], _ :: _, h, _, _, _, _, _ => h.elim
  | _ :: _, [], h, _, _, _, _, _ => h.elim
  | b :: r, b' :: r', h, hb, f, hf, hs, h0 => by
    obtain ⟨ha, hr⟩ := h
    obtain ⟨b1, b2, b3⟩ := hb.cons
    have htop := tval_top hb hf
    have same : ∀ s, le4 s f → smOK b r (tval (b :: r) f) f (listF s) = smD b' r' f (tval (b :: r) f) s := fun s hle => by
      have h5 := le4_F5 hle hf
      obtain ⟨q1, q2⟩ := ha s h5.1 (hs.le hle).1
      unfold smOK smD
      rw [numF_list h5.1.fok, tval_least hr b3 h5.2 (hs.le hle).2]
      by_cases hfit : GX.Fa.fitsB b s = true
      · have hc := (cost_fit (b2 s h5.1)).2 hfit
        rw [← q1, hfit, ← q2 hfit, ← cost_loss hfit, decide_eq_true hc, Bool.true_and, Bool.true_and]
        by_cases ht : tval r (GX.Fa.less f s) < 0
        · rw [if_pos ht, decide_eq_false (show ¬ 0 ≤ tval r (GX.Fa.less f s) by omega), Bool.false_and]
          exact (decide_eq_false (by omega)).symm
        · rw [if_neg ht, decide_eq_true (show 0 ≤ tval r (GX.Fa.less f s) by omega), Bool.true_and]
      · have hc : ¬ 0 ≤ costF b s := fun hc => hfit ((cost_fit (b2 s h5.1)).1 hc)
        rw [← q1, Bool.eq_false_iff.2 hfit, decide_eq_false hc]; rfl
    obtain ⟨s0, hle0, hok0⟩ : ∃ s, le4 s f ∧ smOK b r (tval (b :: r) f) f (listF s) = true := by
      have e : tval (b :: r) f = lstR b (tval r) f := rfl
      rcases lstR_spec (b := b) (rest := tval r) hf with ⟨v, hno⟩ | ⟨s, hle, ht, hc, v, hmin⟩
      · rw [e, v] at h0; omega
      · refine ⟨s, hle, ?_⟩
        unfold smOK
        rw [numF_list (le4_F5 hle hf).1.fok, decide_eq_true hc, decide_eq_true ht, e, v]
        simp
    obtain ⟨p1, p2, p3, p4⟩ := pick_spec (b := b') (r := r') (left := tval (b :: r) f) hf.fok hle0 (by rw [← same s0 hle0]; exact hok0)
    simp only [smR, smGo]
    cases hfd : (allL f).find? (smOK b r (tval (b :: r) f) f) with
    | none =>
      have := List.find?_eq_none.1 hfd (listF s0) ((allL_mem hf).2 ⟨s0, hle0, rfl⟩)
      exact absurd hok0 this
    | some l =>
      obtain ⟨q1, i, hi, hil, q2⟩ := List.find?_eq_some_iff_getElem.1 hfd
      obtain ⟨s, hle, rfl⟩ := (allL_mem hf).1 (hil ▸ List.getElem_mem hi)
      have hfirst : ∀ t, le4 t f → smOK b r (tval (b :: r) f) f (listF t) = true → cmpL (listF s) (listF t) ≤ 0 := fun t ht hok => by
        obtain ⟨j, hj, hjl⟩ := List.mem_iff_getElem.1 ((allL_mem hf).2 ⟨t, ht, rfl⟩)
        by_cases hij : j < i
        · have := q2 j hij
          rw [hjl, hok] at this
          cases this
        · by_cases e : i = j
          · subst e
            rw [← hil, ← hjl, cmpL_self]; exact Int.le_refl _
          · have := (List.pairwise_iff_getElem.1 (allL_order hf)) i j hi hj (by omega)
            rw [hil, hjl] at this
            omega
      have e1 : listF s = (smPick b' r' f (tval (b :: r) f)).1 := by
        refine leL_anti ?_ ?_
        · rw [p1]
          exact hfirst _ p2 (by rw [same _ p2]; exact p3)
        · exact p4 s hle (by rw [← same s hle]; exact q1)
      have hsf := (le4_F5 hle hf)
      have e2 : (smPick b' r' f (tval (b :: r) f)).2.1 = s := by
        have := congrArg numF (e1.trans p1)
        rw [numF_list hsf.1.fok, numF_list (le4_F5 p2 hf).1.fok] at this
        exact this.symm
      simp only
      rw [numF_list hsf.1.fok, e2, ← e1]
      unfold smOK at q1
      rw [numF_list hsf.1.fok] at q1
      simp only [Bool.and_eq_true, decide_eq_true_eq] at q1
      obtain ⟨⟨c1, c2⟩, c3⟩ := q1
      have hfit := (cost_fit (b2 s hsf.1)).1 c1
      have hq := (ha s hsf.1 (hs.le hle).1).2 hfit
      have e3 : tval (b :: r) f - costF b s = tval r (GX.Fa.less f s) := by omega
      have e4 : tval (b :: r) f - GX.Fa.lossV b' s = tval r (GX.Fa.less f s) := by rw [← hq, ← cost_loss hfit]; omega
      rw [e3, e4, sm_eq hr b3 hsf.2 (hs.le hle).2 c2]
theorem small_eq {n : Nat} {bs bs' : List BinT} (h : agrees n bs bs') (hb : Bins0 bs) {f : FansT} (hf : F5 f) (hs : supp n f) : listedF bs' f = if (smallR bs f).2 then ((smallR bs f).1, 0) else ([], 9) := by
  have h1 := tval_least h hb hf hs
  have h2 := tval_top hb hf
  unfold listedF smallR
  rw [h1]
  by_cases h3 : tval bs f < 0
  · rw [if_pos h3, if_pos h3, if_pos (Int.le_refl _)]; rfl
  · rw [if_neg h3, if_neg h3, if_neg (by omega)]
    unfold smallF
    rw [h1, if_neg h3, if_neg (by omega), sm_eq h hb hf hs (by omega)]
    rfl
end Go.Proofs.Fa
set_option linter.unusedVariables false
namespace Go.Proofs.Fa
open Go Go.GX Go.Proofs

theorem dot_at (s t : FansT) : GX.Fa.dot s t = at4 s 0 * at4 t 0 + at4 s 1 * at4 t 1 + at4 s 2 * at4 t 2 + at4 s 3 * at4 t 3 := rfl
theorem dot_supp {s : FansT} {g g' : Nat → Int} (h : ∀ i, i < 4 → at4 s i = 0 ∨ g i = g' i) : GX.Fa.dot s (tup4 g) = GX.Fa.dot s (tup4 g') := by
  have key : ∀ i, i < 4 → at4 s i * at4 (tup4 g) i = at4 s i * at4 (tup4 g') i := fun i hi => by
    rw [at4_tup _ hi, at4_tup _ hi]
    rcases h i hi with h | h
    · rw [h, Int.zero_mul, Int.zero_mul]
    · rw [h]
  rw [dot_at, dot_at, key 0 (by omega), key 1 (by omega), key 2 (by omega), key 3 (by omega)]
theorem dot_ge {s : FansT} {g : Nat → Int} (hs : ∀ i, i < 4 → 0 ≤ at4 s i) (hg : ∀ i, i < 4 → 0 ≤ g i) {i : Nat} (hi : i < 4) : at4 s i * g i ≤ GX.Fa.dot s (tup4 g) := by
  have key : ∀ i, i < 4 → 0 ≤ at4 s i * g i := fun i hi => Int.mul_nonneg (hs i hi) (hg i hi)
  rw [dot_at, at4_tup _ (show 0 < 4 by omega), at4_tup _ (show 1 < 4 by omega), at4_tup _ (show 2 < 4 by omega), at4_tup _ (show 3 < 4 by omega)]
  have h0 := key 0 (by omega)
  have h1 := key 1 (by omega)
  have h2 := key 2 (by omega)
  have h3 := key 3 (by omega)
  match i, hi with
  | 0, _ => omega
  | 1, _ => omega
  | 2, _ => omega
  | 3, _ => omega
theorem leaf_agree {n : Nat} {seam p : Int} {c : FansT} {e fi : Int} : agree n (tup4 fun i => at4 c i + seam, tup4 fun _ => e, p + seam, fi) (tup4 fun i => if i < n then at4 c i + seam else 0, tup4 fun i => if i < n then e else 0, p + seam, fi) := by
  intro s h5 hs
  have h1 : GX.Fa.dot s (tup4 fun i => at4 c i + seam) = GX.Fa.dot s (tup4 fun i => if i < n then at4 c i + seam else 0) := dot_supp fun i hi => by
    by_cases hn : i < n
    · exact .inr (by rw [if_pos hn])
    · exact .inl (hs i hi (by omega))
  have h2 : GX.Fa.dot s (tup4 fun _ => e) = GX.Fa.dot s (tup4 fun i => if i < n then e else 0) := dot_supp fun i hi => by
    by_cases hn : i < n
    · exact .inr (by rw [if_pos hn])
    · exact .inl (hs i hi (by omega))
  refine ⟨?_, fun _ => ?_⟩
  · show decide (GX.Fa.dot s (tup4 fun i => at4 c i + seam) ≤ p + seam) = decide (GX.Fa.dot s (tup4 fun i => if i < n then at4 c i + seam else 0) ≤ p + seam)
    rw [h1]
  · show GX.Fa.dot s (tup4 fun _ => e) + (if GX.Fa.isNo s then 0 else fi) = GX.Fa.dot s (tup4 fun i => if i < n then e else 0) + (if GX.Fa.isNo s then 0 else fi)
    rw [h2]
theorem leaves_agree {n : Nat} {seam : Int} {c : FansT} {e fi : Int} : ∀ ls : List Int, agrees n (leavesR ls seam c e fi) (leavesF ls seam n c e fi)
  | [] => trivial
  | p :: r => ⟨leaf_agree, leaves_agree r⟩
theorem F5.at0 {s : FansT} (h : F5 s) : ∀ i, i < 4 → 0 ≤ at4 s i := fun i hi => (all4_at h hi).1
theorem lot_agree {f : List Spring} {c : FansT} {l : Lot} (hl : 0 ≤ l.2 ∧ l.2 ≤ 200) (hc : all4 (fun x => 0 ≤ x) c) : agree f.length (lotR f c l) (lotB f c l) := by
  intro s h5 hs
  by_cases hx : ∃ i, i < 4 ∧ i < f.length ∧ (f.getD i ((0, 0), 0, 0)).2.2 > l.1 ∧ 1 ≤ at4 s i
  · obtain ⟨i, hi, hn, hw, h1⟩ := hx
    have r1 : GX.Fa.fitsB (lotR f c l) s = false := by
      have h := dot_ge (s := s) (g := fun i => if i < f.length then (if (f.getD i ((0, 0), 0, 0)).2.2 > l.1 then 1000 else at4 c i) else 0) h5.at0 (fun j hj => by
        split
        · split
          · omega
          · exact all4_at hc hj
        · omega) hi
      simp only [if_pos hn, if_pos hw] at h
      refine decide_eq_false ?_
      show ¬ GX.Fa.dot s (tup4 fun i => if i < f.length then (if (f.getD i ((0, 0), 0, 0)).2.2 > l.1 then 1000 else at4 c i) else 0) ≤ l.2
      omega
    have r2 : GX.Fa.fitsB (lotB f c l) s = false := by
      have h := dot_ge (s := s) (g := fun i => if i < f.length then (if (f.getD i ((0, 0), 0, 0)).2.2 > l.1 then l.2 + 1 else at4 c i) else 0) h5.at0 (fun j hj => by
        split
        · split
          · omega
          · exact all4_at hc hj
        · omega) hi
      simp only [if_pos hn, if_pos hw] at h
      have h2 : 1 * (l.2 + 1) ≤ at4 s i * (l.2 + 1) := Int.mul_le_mul_of_nonneg_right h1 (by omega)
      refine decide_eq_false ?_
      show ¬ GX.Fa.dot s (tup4 fun i => if i < f.length then (if (f.getD i ((0, 0), 0, 0)).2.2 > l.1 then l.2 + 1 else at4 c i) else 0) ≤ l.2
      omega
    exact ⟨r1.trans r2.symm, fun h => by rw [r1] at h; cases h⟩
  · have hz : ∀ i, i < 4 → i < f.length → (f.getD i ((0, 0), 0, 0)).2.2 > l.1 → at4 s i = 0 := fun i hi hn hw => by
      have h0 := h5.at0 i hi
      have : ¬ 1 ≤ at4 s i := fun h => hx ⟨i, hi, hn, hw, h⟩
      omega
    have h1 : GX.Fa.dot s (lotR f c l).1 = GX.Fa.dot s (lotB f c l).1 := dot_supp fun i hi => by
      by_cases hn : i < f.length
      · by_cases hw : (f.getD i ((0, 0), 0, 0)).2.2 > l.1
        · exact .inl (hz i hi hn hw)
        · exact .inr (by rw [if_pos hn, if_pos hn, if_neg hw, if_neg hw])
      · exact .inl (hs i hi (by omega))
    have h2 : GX.Fa.dot s (lotR f c l).2.1 = GX.Fa.dot s (lotB f c l).2.1 := dot_supp fun i hi => by
      by_cases hn : i < f.length
      · by_cases hw : (f.getD i ((0, 0), 0, 0)).2.2 > l.1
        · exact .inl (hz i hi hn hw)
        · exact .inr (by rw [if_pos hn, if_pos hn, if_neg hw])
      · exact .inl (hs i hi (by omega))
    refine ⟨?_, fun _ => ?_⟩
    · show decide (GX.Fa.dot s (lotR f c l).1 ≤ l.2) = decide (GX.Fa.dot s (lotB f c l).1 ≤ l.2)
      rw [h1]
    · show GX.Fa.dot s (lotR f c l).2.1 + (if GX.Fa.isNo s then 0 else 0) = GX.Fa.dot s (lotB f c l).2.1 + (if GX.Fa.isNo s then 0 else 0)
      rw [h2]
theorem lots_agree {f : List Spring} {c : FansT} (hc : all4 (fun x => 0 ≤ x) c) : ∀ ls : List Lot, (∀ l, l ∈ ls → 0 ≤ l.2 ∧ l.2 ≤ 200) → agrees f.length (lotsR ls f c) (lotsF ls f c)
  | [], _ => trivial
  | l :: r, h => ⟨lot_agree (h l (by simp)) hc, lots_agree hc r fun x hx => h x (by simp [hx])⟩
theorem want_supp (f : List Spring) : supp f.length (wantF f) := fun i hi hn => by
  show at4 (tup4 _) i = 0
  rw [at4_tup _ hi]
  exact if_neg (by omega)
theorem VOK.lva {s : Store} {f : List Spring} (v : VOK s f) {c : FansT} {e fi : Int} : agrees f.length (Fa.lvR s c e fi) (lvs (s, f, c) e fi) := leaves_agree _
theorem VOK.lta {s : Store} {f : List Spring} (v : VOK s f) {c : FansT} (hc : all4 (fun x => 0 ≤ x ∧ x ≤ 40) c) : agrees f.length (Fa.ltR s f c) (lts (s, f, c)) := lots_agree (cnt0 hc) _ fun l hl => (v.lt l hl).2
end Go.Proofs.Fa
set_option linter.unusedVariables false
namespace Go.Proofs.Fa
open Go Go.GX Go.Proofs

theorem tail_list {l due : List (List Int)} {ok : Bool} {e : Int} {Q : Bool → Prop} (h : Q true) (he : (l, e) = if ok then (due, 0) else ([], 9)) :
    cnd ok (cnd (e == 0) (cnd (decide (l = due)) (f17_wp () () fun r => Q r) (Q false)) (Q false)) (cnd (e == 9) (l.length ≤ 9223372036854775807 → cnd ((l.length : Int) == 0) (f17_wp () () fun r => Q r) (Q false)) (Q false)) := by
  cases ok with
  | true =>
    obtain ⟨rfl, rfl⟩ := Prod.mk.inj he
    exact cndT (cndE rfl (cndD (c := l = l) rfl (known h)))
  | false =>
    obtain ⟨rfl, rfl⟩ := Prod.mk.inj he
    exact cndF (cndE rfl fun _ => cndE rfl (known h))
theorem p3 {s : Store} {f : List Spring} {Q : Bool → Prop} (h : fL2_wp (s, f, ()) () Q) : V3 s f Q := by
  have h : Q true := h
  refine large_iff (s := s) (f := f) h fun n1 n2 n3 => ⟨⟨n1, n2⟩, n3, ?_⟩
  refine same_iff (s := s) (f := f) (cndN rfl ?_)
  by_cases hc : checkF s f = 0
  · have v : VOK s f := vok_of hc
    have hb : Bins0 (Fa.lvR s (cH f) 0 1) := leavesR_ok (by have := v.n6; omega) v.lv4 v.sm4 (cnt400 v.cH) ⟨by omega, by omega⟩ ⟨by omega, by omega⟩ (by omega) (by omega)
    have e : resLeaves s f = if (smallR (Fa.lvR s (cH f) 0 1) (wantF f)).2 then ((smallR (Fa.lvR s (cH f) 0 1) (wantF f)).1, 0) else ([], 9) := by
      unfold resLeaves
      rw [if_neg (by simp [hc])]
      exact small_eq v.lva hb v.want4 (want_supp f)
    exact cndE hc ⟨_, ⟨v.f4, rfl⟩, _, ⟨⟨v.n500, v.lv4, v.sm4, cnt400 v.cH⟩, rfl⟩, _, ⟨v.f4, rfl⟩, _, ⟨⟨hb, v.want4⟩, rfl⟩, tail_list h e⟩
  · have e : resLeaves s f = ([], checkF s f) := by unfold resLeaves; rw [if_pos hc]
    refine cndEe hc ?_
    show cnd ((resLeaves s f).2 == checkF s f) ((resLeaves s f).1.length ≤ _ → cnd (((resLeaves s f).1.length : Int) == 0) _ _) _
    rw [e]
    exact cndE rfl fun _ => cndE rfl (known h)
theorem p4 {s : Store} {f : List Spring} {Q : Bool → Prop} (h : fL2_wp (s, f, ()) () Q) : V4 s f Q := by
  have h : Q true := h
  refine large_iff (s := s) (f := f) h fun n1 n2 n3 => ⟨⟨n1, n2⟩, n3, ?_⟩
  refine same_iff (s := s) (f := f) ?_
  by_cases hc : checkF s f = 0
  · have v : VOK s f := vok_of hc
    have hb := v.ltR v.cH
    have e : resLots s f = if (smallR (Fa.ltR s f (cH f)) (wantF f)).2 then ((smallR (Fa.ltR s f (cH f)) (wantF f)).1, 0) else ([], 9) := by
      unfold resLots
      rw [if_neg (by simp [hc])]
      exact small_eq (v.lta v.cH) hb v.want4 (want_supp f)
    exact cndE hc ⟨_, ⟨v.f4, rfl⟩, _, ⟨⟨v.m500, v.f4, v.lt4, v.sp4, cnt400 v.cH⟩, rfl⟩, _, ⟨v.f4, rfl⟩, _, ⟨⟨hb, v.want4⟩, rfl⟩, tail_list h e⟩
  · have e : resLots s f = ([], checkF s f) := by unfold resLots; rw [if_pos hc]
    refine cndEe hc ?_
    show cnd ((resLots s f).2 == checkF s f) ((resLots s f).1.length ≤ _ → cnd (((resLots s f).1.length : Int) == 0) _ _) _
    rw [e]
    exact cndE rfl fun _ => cndE rfl (known h)
end Go.Proofs.Fa
set_option maxRecDepth 100000
set_option maxHeartbeats 0
namespace Go.Proofs.Fa
open Go Go.GX Go.Proofs
variable [Inhabited BaseD]
end Go.Proofs.Fa
set_option linter.unusedVariables false
namespace Go.GX
variable [Inhabited BaseD]
open Go.RowKit Go.Shelf Go.Proofs

inductive Tgt where
  | ty (t : TypeId)
  | fs (l : List Field) (off : Nat)

def Tgt.one (P : Program) (n : Nat) : Tgt → Option TypeId
  | .ty t => some t
  | .fs [f] off => cond (Nat.beq f.offset off && Nat.beq (P.cellsOf f.type) n) (some f.type) none
  | .fs _ _ => none

def arrF (P : Program) (e : TypeId) (n : Nat) : List Field := (List.range n).map fun i => ⟨"", e, i * P.cellsOf e, false, "", "", 0⟩

def Kd.rng : (K : Kd) → K.T → Prop
  | .int k, x => (Lit.int k x).wf = true
  | .pair A B, x => A.rng x.1 ∧ B.rng x.2
  | .agg K, x => K.rng x
  | .sl _ K, xs => ∀ x, x ∈ (show List K.T from xs) → K.rng x
  | _, _ => True

def fitK (P : Program) : Kd → Tgt → Bool
  | .pair A B, .fs (f :: r) off => Nat.beq f.offset off && Nat.beq (P.cellsOf f.type) A.n && fitK P A (.ty f.type) && fitK P B (.fs r (off + A.n))
  | .pair _ _, _ => false
  | .unit, _ => false
  | .int k, s => match s.one P 1 with
    | some t => match P.underlying t with
      | some (.int k') => decide (k' = k)
      | _ => false
    | none => false
  | .bool, s => match s.one P 1 with
    | some t => match P.underlying t with
      | some .bool => true
      | _ => false
    | none => false
  | .sl e K, s => match s.one P 1 with
    | some t => match P.underlying t with
      | some (.slice e') => Nat.beq e' e && Nat.beq (P.cellsOf e) K.n && Nat.ble 1 K.n && fitK P K (.ty e)
      | _ => false
    | none => false
  | .agg K, s => match s.one P K.n with
    | some t => match P.underlying t with
      | some (.struct fs) => Nat.beq (P.cellsOf t) K.n && fitK P K (.fs fs.toList 0)
      | some (.array n e) => Nat.beq (P.cellsOf t) K.n && fitK P K (.fs (arrF P e n) 0)
      | _ => false
    | none => false
  | _, _ => false

section
variable {H : Type} {enc : TypeId × Value → H} {P : Program} {W : World} {base : Nat} {spare : Nat → Bool} {held : Bool}

def Reads (enc : TypeId × Value → H) (P : Program) (W : World) (base : Nat) (spare : Nat → Bool) (held : Bool) : Tgt → List Value → Prop
  | .ty t, cs => ∃ fuel x, DataW.trod enc P W base spare held fuel t cs = some x
  | .fs l off, cs => ∀ (i : Nat) (f : Field), l[i]? = some f → ∃ fuel x, DataW.trod enc P W base spare held fuel f.type ((cs.drop f.offset).take (P.cellsOf f.type)) = some x

def Tgt.cut (n : Nat) : Tgt → List Value → List Value
  | .ty _, cs => cs
  | .fs _ off, cs => (cs.drop off).take n

theorem one_reads {n : Nat} {s : Tgt} {t : TypeId} {cs : List Value} (h : s.one P n = some t) (hr : Reads enc P W base spare held s cs) : ∃ fuel x, DataW.trod enc P W base spare held fuel t (s.cut n cs) = some x := by
  cases s with
  | ty t' => cases h; exact hr
  | fs l off =>
    match l, h with
    | [f], h =>
      simp only [Tgt.one] at h
      cases hb : Nat.beq f.offset off && Nat.beq (P.cellsOf f.type) n with
      | false => rw [hb] at h; cases h
      | true =>
        rw [hb] at h; cases h
        rw [Bool.and_eq_true] at hb
        have h1 := Nat.eq_of_beq_eq_true hb.1
        have h2 := Nat.eq_of_beq_eq_true hb.2
        obtain ⟨fuel, x, hx⟩ := hr 0 f rfl
        exact ⟨fuel, x, by rw [h1, h2] at hx; exact hx⟩

theorem cut0 {l : List Field} {n : Nat} {z : List Value} (h : z.length = n) : (Tgt.fs l 0).cut n z = z := by
  show (z.drop 0).take n = z
  rw [List.drop_zero]
  exact List.take_of_length_le (by omega)
theorem cells?_cell {a : Addr} {n : Nat} {cs : List Value} (h : W.cells? base a n = some cs) : ∀ (i : Nat) u, cs[i]? = some u → W.cell? (a.add i) = some u := by
  unfold World.cells? at h
  split at h
  · intro i u hu
    have hl := mapM_some_length h
    have hi : i < cs.length := (List.getElem?_eq_some_iff.1 hu).1
    have hln : cs.length = n := by simpa using hl
    have := mapM_some_get h i i (List.getElem?_range (by omega))
    rw [this, hu]
  · cases h

theorem fit_rng : ∀ (K : Kd) (s : Tgt) (cs : List Value), fitK P K s = true → Reads enc P W base spare held s cs → (∀ l off, s = .fs l off → off + K.n ≤ cs.length) → ∃ y : K.T, (K.sem P).cells (fun _ => False) W y (s.cut K.n cs) ∧ K.rng y := by
  intro K
  induction K with
  | int k =>
    intro s cs h hr hl
    simp only [fitK] at h
    split at h
    · rename_i t ht
      obtain ⟨fuel, x, hx⟩ := one_reads ht hr
      split at h
      · rename_i k' hu
        have hk := of_decide_eq_true h
        subst hk
        obtain ⟨n, hn, _, hwf⟩ := DataW.trod_int hu hx
        exact ⟨n, ⟨_, hn, rfl, rfl⟩, hwf⟩
      · cases h
    · cases h
  | bool =>
    intro s cs h hr hl
    simp only [fitK] at h
    split at h
    · rename_i t ht
      obtain ⟨fuel, x, hx⟩ := one_reads ht hr
      split at h
      · rename_i hu
        obtain ⟨b, hb, _⟩ := DataW.trod_bool hu hx
        exact ⟨b, ⟨_, hb, rfl, rfl⟩, trivial⟩
      · cases h
    · cases h
  | sl e K ih =>
    intro s cs h hr hl
    simp only [fitK] at h
    split at h
    · rename_i t ht
      obtain ⟨fuel, x, hx⟩ := one_reads ht hr
      split at h
      · rename_i e' hu
        simp only [Bool.and_eq_true] at h
        obtain ⟨⟨⟨h1, h2⟩, hpos⟩, h3⟩ := h
        have hpos := Nat.le_of_ble_eq_true hpos
        obtain rfl := Nat.eq_of_beq_eq_true h1
        have hc := Nat.eq_of_beq_eq_true h2
        rcases DataW.trod_slice hu hx with ⟨hcs, _⟩ | ⟨a, len, cap, elems, rest, n, _, hcs, _, hb, hlc, hcap, hlen, hel, _, _⟩
        · exact ⟨([] : List K.T), ⟨_, hcs, rfl, none, 0, rfl, Nat.le_refl _, by unfold maxLen; omega, fun h => absurd rfl h⟩, fun x hx => (by cases hx)⟩
        · have key : ∀ i : Nat, i < len → ∃ y : K.T, ∃ ecs : List Value, W.cells? base (a.add (i * K.n)) K.n = some ecs ∧ (K.sem P).cells (fun _ => False) W y ecs ∧ K.rng y := by
            intro i hi
            have he := hel i hi
            rw [List.getElem?_eq_getElem (by omega)] at he
            obtain ⟨cs', g1, g2⟩ := Option.bind_eq_some_iff.1 he
            rw [hc] at g1
            obtain ⟨y, hy⟩ := ih (.ty e') cs' h3 ⟨_, _, g2⟩ (fun _ _ h => by cases h)
            exact ⟨y, cs', g1, hy⟩
          have all : ∀ k : Nat, k ≤ len → ∃ ys : List K.T, ys.length = k ∧ ∀ (i : Nat) y, ys[i]? = some y → ∃ ecs : List Value, W.cells? base (a.add (i * K.n)) K.n = some ecs ∧ (K.sem P).cells (fun _ => False) W y ecs ∧ K.rng y := by
            intro k
            induction k with
            | zero => intro _; exact ⟨[], rfl, fun i y h => by simp at h⟩
            | succ k ihk =>
              intro hk
              obtain ⟨ys, hyl, hys⟩ := ihk (by omega)
              obtain ⟨y, ecs, g1, g2⟩ := key k (by omega)
              refine ⟨ys ++ [y], by simp [hyl], fun i z hz => ?_⟩
              by_cases hi : i < ys.length
              · rw [List.getElem?_append_left hi] at hz
                exact hys i z hz
              · have hi' : i = ys.length := by
                  have := (List.getElem?_eq_some_iff.1 hz).1
                  simp at this; omega
                subst hi'
                rw [List.getElem?_concat_length] at hz
                cases hz
                rw [hyl]
                exact ⟨ecs, g1, g2⟩
          obtain ⟨ys, hyl, hys⟩ := all len (Nat.le_refl _)
          refine ⟨ys, ⟨_, hcs, rfl, some a, cap, by rw [hyl], by rw [hyl]; exact hlc, hcap, fun hne => ⟨a, rfl, fun h => h, ?_, fun j y hy => ?_⟩⟩, fun y hy => by
            obtain ⟨j, hj, rfl⟩ := List.mem_iff_getElem.1 hy
            obtain ⟨_, _, _, g3⟩ := hys j _ (List.getElem?_eq_getElem hj)
            exact g3⟩
          · obtain ⟨y0, hy0⟩ : ∃ y0, ys[0]? = some y0 := ⟨ys[0]'(List.length_pos_iff.2 hne), List.getElem?_eq_getElem _⟩
            obtain ⟨ecs, g1, g2, _⟩ := hys 0 y0 hy0
            rw [Nat.zero_mul] at g1
            have hn : 0 < ecs.length := by rw [Kd.cells_length P K g2]; exact hpos
            have := World.block_lt_of_cell? W _ (cells?_cell g1 0 (ecs[0]'hn) (List.getElem?_eq_getElem hn))
            simpa [add_block] using this
          · obtain ⟨ecs, g1, g2, _⟩ := hys j y hy
            refine ⟨ecs, g2, fun i u hu => ?_⟩
            have := cells?_cell g1 i u hu
            rwa [addAdd] at this
      · cases h
    · cases h
  | agg K ih =>
    intro s cs h hr hl
    simp only [fitK] at h
    split at h
    · rename_i t ht
      obtain ⟨fuel, x, hx⟩ := one_reads ht hr
      split at h
      · rename_i fs hu
        rw [Bool.and_eq_true] at h
        have hc := Nat.eq_of_beq_eq_true h.1
        obtain ⟨xs, n, _, _, hlen, hxl, hf⟩ := DataW.trod_struct hu hx
        obtain ⟨y, hy⟩ := ih (.fs fs.toList 0) (s.cut K.n cs) h.2 (fun i f hi => by
          have hi' : fs[i]? = some f := by simpa using hi
          have := hf i f hi'
          have hlt : i < xs.length := by rw [hxl]; exact (Array.getElem?_eq_some_iff.1 hi').1
          rw [List.getElem?_eq_getElem hlt] at this
          exact ⟨_, _, this⟩) (fun l off h => by cases h; rw [hlen, hc]; omega)
        refine ⟨y, ?_⟩
        have := cut0 (l := fs.toList) (n := K.n) (z := s.cut K.n cs) (by rw [hlen, hc])
        rw [this] at hy
        exact hy
      · rename_i n e hu
        rw [Bool.and_eq_true] at h
        have hc := Nat.eq_of_beq_eq_true h.1
        obtain ⟨xs, n', _, _, hlen, hxl, hf⟩ := DataW.trod_array hu hx
        obtain ⟨y, hy⟩ := ih (.fs (arrF P e n) 0) (s.cut K.n cs) h.2 (fun i f hi => by
          unfold arrF at hi
          rw [List.getElem?_map] at hi
          obtain ⟨i', hi', rfl⟩ := Option.map_eq_some_iff.1 hi
          have hin : i < n := by
            have := (List.getElem?_eq_some_iff.1 hi').1
            simpa using this
          rw [List.getElem?_range hin] at hi'
          cases hi'
          have := hf i hin
          rw [List.getElem?_eq_getElem (by omega)] at this
          exact ⟨_, _, this⟩) (fun l off h => by cases h; rw [hlen, hc]; omega)
        refine ⟨y, ?_⟩
        have := cut0 (l := arrF P e n) (n := K.n) (z := s.cut K.n cs) (by rw [hlen, hc])
        rw [this] at hy
        exact hy
      · cases h
    · cases h
  | pair A B ihA ihB =>
    intro s cs h hr hl
    match s, h with
    | .fs (f :: r) off, h =>
      simp only [fitK, Bool.and_eq_true] at h
      obtain ⟨⟨⟨h1, h2⟩, h3⟩, h4⟩ := h
      have h1 := Nat.eq_of_beq_eq_true h1
      have h2 := Nat.eq_of_beq_eq_true h2
      have hll := hl _ _ rfl
      simp only [Kd.n] at hll
      obtain ⟨fuel, x, hx⟩ := hr 0 f rfl
      obtain ⟨ya, hya, rya⟩ := ihA (.ty f.type) _ h3 ⟨fuel, x, hx⟩ (fun _ _ h => by cases h)
      obtain ⟨yb, hyb, ryb⟩ := ihB (.fs r (off + A.n)) cs h4 (fun i f' hi => hr (i + 1) f' (by simpa using hi)) (fun l o h => by cases h; omega)
      refine ⟨(ya, yb), ⟨_, _, ?_, hya, hyb⟩, rya, ryb⟩
      simp only [Tgt.cut, h1, h2, Kd.n]
      rw [List.take_add, List.drop_drop]
  | _ =>
    intro s cs h hr hl
    first
      | (simp only [fitK] at h; done)
      | (unfold fitK at h; cases h)
      | cases h
end
end Go.GX
set_option maxRecDepth 100000
set_option linter.unusedVariables false
namespace Go.Proofs.Fa
open Go Go.GX Go.Proofs Go.ChangeShapes Go.WideShapes Go.ChangeAt Go.RowKit
open Go.Proofs.Ytacedikpdmdodaa

theorem own11 : ownKnob Try.prog.godebug = none := by kernel_rfl
theorem laidOut11 : laidOutB Try.prog = true := by kernel_rfl
abbrev atW (W : World) : Inhabited BaseD := ⟨⟨W.heap.size⟩⟩
theorem glb11 (W : World) : @GlbOK (atW W) Try.prog (assoc glT) (fun _ => False) W :=
  ⟨Nat.le_refl _, fun g v h => by cases h⟩
section
variable {H : Type} {enc : TypeId × Value → H} {W : World} {base b0 : Nat} {spare : Nat → Bool} {held : Bool} {v : Value} {d : DataW H} {p : List MemPlace} [Inhabited BaseD]
theorem arg_agg {K : Kd} {t : TypeId} {fs : Array Field} (hu : Try.prog.underlying t = some (.struct fs)) (hf : fitK Try.prog (.agg K) (.ty t) = true) (hv : Value.okWide Try.prog W .any b0 t v) (h : DataW.Trod enc Try.prog W base spare held t v d p) :
    ∃ x : K.T, ((Kd.agg K).sem Try.prog).val (fun _ => False) W x v ∧ K.rng x := by
  obtain ⟨cs, rfl, _⟩ := okWide_struct hu hv
  obtain ⟨fuel, h⟩ := h
  obtain ⟨x, hx, hr⟩ := fit_rng (.agg K) (.ty t) _ hf ⟨fuel, _, h⟩ (fun _ _ h => by cases h)
  exact ⟨x, ⟨cs.toList, by simp, hx⟩, hr⟩
theorem arg_sl {K : Kd} {e' : TypeId} {t e : TypeId} (hu : Try.prog.underlying t = some (.slice e)) (hf : fitK Try.prog (.sl e' K) (.ty t) = true) (hv : Value.okWide Try.prog W .any b0 t v) (h : DataW.Trod enc Try.prog W base spare held t v d p) :
    ∃ x : List K.T, ((Kd.sl e' K).sem Try.prog).val (fun _ => False) W x v ∧ ∀ y, y ∈ x → K.rng y := by
  obtain ⟨a, n, c, rfl⟩ := okWide_slice hu hv
  obtain ⟨fuel, h⟩ := h
  obtain ⟨x, ⟨v', he, hr⟩, hg⟩ := fit_rng (.sl e' K) (.ty t) _ hf ⟨fuel, _, h⟩ (fun _ _ h => by cases h)
  have he : [Value.slice a n c] = [v'] := he
  cases he
  exact ⟨x, hr.2, hg⟩
end
theorem uS25 : ∃ fs, Try.prog.underlying 25 = some (.struct fs) := ⟨_, rfl⟩
theorem uS26 : Try.prog.underlying 26 = some (.slice 71) := by kernel_rfl
theorem uS33 : Try.prog.underlying 33 = some (.slice 22) := by kernel_rfl
theorem fit25 : fitK Try.prog k25 (.ty 25) = true := by kernel_rfl
theorem fit26 : fitK Try.prog k26 (.ty 26) = true := by kernel_rfl
theorem fit33 : fitK Try.prog k33 (.ty 33) = true := by kernel_rfl
theorem belowOf {W W' : World} (h : @Bel (atW W) (fun k => k < W.heap.size) W W') : Below W.heap.size W W' :=
  letI := atW W
  ⟨h.os, h.tape, h.output, h.size, fun k hk => h.block k hk fun _ _ _ => hk⟩
section
variable {H : Type} {enc : TypeId × Value → H} {W : World} {base b0 b1 b2 : Nat} {spare : Nat → Bool} {held : Bool} {v0 v1 v2 : Value} {d0 d1 d2 : DataW H} {p0 p1 p2 : List MemPlace}

theorem lawC {f : FuncId} {ct : Ct} (hA : ct = ⟨arg3 k25 k26 k33, .unit, .bool, fun _ _ Q => Q true, false, false⟩) (ok : ∀ [Inhabited BaseD], CallsOK Try.prog (assoc glT) f ct)
    (o0 : Value.okWide Try.prog W .any b0 25 v0) (h0 : DataW.Trod enc Try.prog W base spare held 25 v0 d0 p0) (o1 : Value.okWide Try.prog W .any b1 26 v1) (h1 : DataW.Trod enc Try.prog W base spare held 26 v1 d1 p1) (o2 : Value.okWide Try.prog W .any b2 33 v2) (h2 : DataW.Trod enc Try.prog W base spare held 33 v2 d2 p2) :
    Calls Try.prog f #[v0, v1, v2] W fun e W' => e = .returned (.bool true) ∧ Below W.heap.size W W' := by
  subst hA
  obtain ⟨fs, hu⟩ := uS25
  letI := atW W
  obtain ⟨g, hg, _⟩ := arg_agg hu fit25 o0 h0
  obtain ⟨a, ha, _⟩ := arg_sl uS26 fit26 o1 h1
  obtain ⟨b, hb, _⟩ := arg_sl uS33 fit33 o2 h2
  have := ok.calls (fun _ => False) W (g, a, b, ()) () [v0, v1, v2] [] (fun _ h => h.elim) (glb11 W) ⟨v0, [v1, v2], rfl, hg, v1, [v2], rfl, ha, v2, [], rfl, hb, rfl⟩ rfl (fun r => r = true) rfl
  refine this.mono fun e W' h => ?_
  obtain ⟨r, v, he, hv, hb, hr⟩ := h
  have hv : v = .bool r := hv
  subst hr
  exact ⟨by rw [he, hv], belowOf hb⟩
end
end Go.Proofs.Fa
namespace Go.Proofs.Fa
open Go Go.GX Go.Proofs
variable [Inhabited BaseD]
end Go.Proofs.Fa
