/- Part 7 of the texts behind the proof: FaV4, FaP4, FaP5, FaP6, FaO1, FaO2, FaV5, FaP7, FaP8, FaM2, FaP9, FaV6, FaPa, FaPb, FaO3, FaV7, FaPc, FaO4, FaM3, FaM4, FaPd, FaV8. -/
import Derived.Test.YtacedikpdmdodaaG06
import Derived.Test.YtacedikpdmdodaaProg
set_option linter.unusedSimpArgs false
set_option linter.unusedVariables false
set_option linter.unusedSectionVars false
set_option linter.unusedVariables false
set_option maxRecDepth 100000
namespace Go.Proofs.Fa
open Go Go.GX Go.Proofs

def V95 (p : List BinT × Kd.T k138) (f : Int × Int × Int × Int) (Q : List (List Int) → Prop) : Prop := f82_wp (p, (0 : Int), (f.1, f.2.1, f.2.2.1, f.2.2.2), ()) () fun (r : Int) ↦ cnd (decide (r ≥ (1099511627776 : Int))) (Q ([] : List (List Int))) (List.length p.1 ≤ (9223372036854775807 : Nat) → ∃ (I : Int → List (List Int) → Int → Int × Int × Int × Int → Prop), ∃ (μ : Int → List (List Int) → Int → Int × Int × Int × Int → Nat), I (0 : Int) ([] : List (List Int)) r (f.1, f.2.1, f.2.2.1, f.2.2.2) ∧ ∀ (x : Int) (x_1 : List (List Int)) (x_2 : Int) (x_3 : Int × Int × Int × Int), I x x_1 x_2 x_3 → cnd (decide (x < (↑(List.length p.1) : Int))) ((0 : Int) ≤ x ∧ x < (↑(List.length p.1) : Int) ∧ (((0 : Int) ≤ x_3.1 ∧ x_3.1 ≤ (1000 : Int)) ∧ ((0 : Int) ≤ x_3.2.1 ∧ x_3.2.1 ≤ (1000 : Int)) ∧ ((0 : Int) ≤ x_3.2.2.1 ∧ x_3.2.2.1 ≤ (1000 : Int)) ∧ (0 : Int) ≤ x_3.2.2.2 ∧ x_3.2.2.2 ≤ (1000 : Int)) ∧ ∃ (I_1 : List FansT → List Int → Int × Int × Int × Int → Bool → Prop), I_1 ([] : List FansT) ([] : List Int) ((0 : Int), (0 : Int), (0 : Int), (0 : Int)) false ∧ (∀ (pre : List FansT) (x_4 : Int × Int × Int × Int) (rest : List FansT), Fa.upTo (x_3.1, x_3.2.1, x_3.2.2.1, x_3.2.2.2) = pre ++ x_4 :: rest → ∀ (x_5 : List Int) (x_6 : Int × Int × Int × Int) (x_7 : Bool), I_1 pre x_5 x_6 x_7 → ∃ (r : Bool), (f97_wp (((Prod.fst (Prod.fst (List.getD p.1 (Int.toNat x) (((0 : Int), (0 : Int), (0 : Int), (0 : Int)), ((0 : Int), (0 : Int), (0 : Int), (0 : Int)), (0 : Int), (0 : Int)))), Prod.fst (Prod.snd (Prod.fst (List.getD p.1 (Int.toNat x) (((0 : Int), (0 : Int), (0 : Int), (0 : Int)), ((0 : Int), (0 : Int), (0 : Int), (0 : Int)), (0 : Int), (0 : Int))))), Prod.fst (Prod.snd (Prod.snd (Prod.fst (List.getD p.1 (Int.toNat x) (((0 : Int), (0 : Int), (0 : Int), (0 : Int)), ((0 : Int), (0 : Int), (0 : Int), (0 : Int)), (0 : Int), (0 : Int)))))), Prod.snd (Prod.snd (Prod.snd (Prod.fst (List.getD p.1 (Int.toNat x) (((0 : Int), (0 : Int), (0 : Int), (0 : Int)), ((0 : Int), (0 : Int), (0 : Int), (0 : Int)), (0 : Int), (0 : Int))))))), (Prod.fst (Prod.fst (Prod.snd (List.getD p.1 (Int.toNat x) (((0 : Int), (0 : Int), (0 : Int), (0 : Int)), ((0 : Int), (0 : Int), (0 : Int), (0 : Int)), (0 : Int), (0 : Int))))), Prod.fst (Prod.snd (Prod.fst (Prod.snd (List.getD p.1 (Int.toNat x) (((0 : Int), (0 : Int), (0 : Int), (0 : Int)), ((0 : Int), (0 : Int), (0 : Int), (0 : Int)), (0 : Int), (0 : Int)))))), Prod.fst (Prod.snd (Prod.snd (Prod.fst (Prod.snd (List.getD p.1 (Int.toNat x) (((0 : Int), (0 : Int), (0 : Int), (0 : Int)), ((0 : Int), (0 : Int), (0 : Int), (0 : Int)), (0 : Int), (0 : Int))))))), Prod.snd (Prod.snd (Prod.snd (Prod.fst (Prod.snd (List.getD p.1 (Int.toNat x) (((0 : Int), (0 : Int), (0 : Int), (0 : Int)), ((0 : Int), (0 : Int), (0 : Int), (0 : Int)), (0 : Int), (0 : Int)))))))), Prod.fst (Prod.snd (Prod.snd (List.getD p.1 (Int.toNat x) (((0 : Int), (0 : Int), (0 : Int), (0 : Int)), ((0 : Int), (0 : Int), (0 : Int), (0 : Int)), (0 : Int), (0 : Int))))), Prod.snd (Prod.snd (Prod.snd (List.getD p.1 (Int.toNat x) (((0 : Int), (0 : Int), (0 : Int), (0 : Int)), ((0 : Int), (0 : Int), (0 : Int), (0 : Int)), (0 : Int), (0 : Int)))))), (x_4.1, x_4.2.1, x_4.2.2.1, x_4.2.2.2), ()) () fun (r' : Bool) ↦ r' = r) ∧ cnd (!r) (I_1 (pre ++ x_4 :: ([] : List FansT)) x_5 (x_6.1, x_6.2.1, x_6.2.2.1, x_6.2.2.2) x_7) (∃ (r : Int), (f98_wp (((Prod.fst (Prod.fst (List.getD p.1 (Int.toNat x) (((0 : Int), (0 : Int), (0 : Int), (0 : Int)), ((0 : Int), (0 : Int), (0 : Int), (0 : Int)), (0 : Int), (0 : Int)))), Prod.fst (Prod.snd (Prod.fst (List.getD p.1 (Int.toNat x) (((0 : Int), (0 : Int), (0 : Int), (0 : Int)), ((0 : Int), (0 : Int), (0 : Int), (0 : Int)), (0 : Int), (0 : Int))))), Prod.fst (Prod.snd (Prod.snd (Prod.fst (List.getD p.1 (Int.toNat x) (((0 : Int), (0 : Int), (0 : Int), (0 : Int)), ((0 : Int), (0 : Int), (0 : Int), (0 : Int)), (0 : Int), (0 : Int)))))), Prod.snd (Prod.snd (Prod.snd (Prod.fst (List.getD p.1 (Int.toNat x) (((0 : Int), (0 : Int), (0 : Int), (0 : Int)), ((0 : Int), (0 : Int), (0 : Int), (0 : Int)), (0 : Int), (0 : Int))))))), (Prod.fst (Prod.fst (Prod.snd (List.getD p.1 (Int.toNat x) (((0 : Int), (0 : Int), (0 : Int), (0 : Int)), ((0 : Int), (0 : Int), (0 : Int), (0 : Int)), (0 : Int), (0 : Int))))), Prod.fst (Prod.snd (Prod.fst (Prod.snd (List.getD p.1 (Int.toNat x) (((0 : Int), (0 : Int), (0 : Int), (0 : Int)), ((0 : Int), (0 : Int), (0 : Int), (0 : Int)), (0 : Int), (0 : Int)))))), Prod.fst (Prod.snd (Prod.snd (Prod.fst (Prod.snd (List.getD p.1 (Int.toNat x) (((0 : Int), (0 : Int), (0 : Int), (0 : Int)), ((0 : Int), (0 : Int), (0 : Int), (0 : Int)), (0 : Int), (0 : Int))))))), Prod.snd (Prod.snd (Prod.snd (Prod.fst (Prod.snd (List.getD p.1 (Int.toNat x) (((0 : Int), (0 : Int), (0 : Int), (0 : Int)), ((0 : Int), (0 : Int), (0 : Int), (0 : Int)), (0 : Int), (0 : Int)))))))), Prod.fst (Prod.snd (Prod.snd (List.getD p.1 (Int.toNat x) (((0 : Int), (0 : Int), (0 : Int), (0 : Int)), ((0 : Int), (0 : Int), (0 : Int), (0 : Int)), (0 : Int), (0 : Int))))), Prod.snd (Prod.snd (Prod.snd (List.getD p.1 (Int.toNat x) (((0 : Int), (0 : Int), (0 : Int), (0 : Int)), ((0 : Int), (0 : Int), (0 : Int), (0 : Int)), (0 : Int), (0 : Int)))))), (x_4.1, x_4.2.1, x_4.2.2.1, x_4.2.2.2), ()) () fun (r' : Int) ↦ r' = r) ∧ ∃ (r_1 : Int × Int × Int × Int), (f99_wp ((x_3.1, x_3.2.1, x_3.2.2.1, x_3.2.2.2), (x_4.1, x_4.2.1, x_4.2.2.1, x_4.2.2.2), ()) () fun (r' : Int × Int × Int × Int) ↦ r' = r_1) ∧ ∃ (r_2 : Int), (f82_wp (p, IntKind.wrap IntKind.i64 (x + (1 : Int)), (r_1.1, r_1.2.1, r_1.2.2.1, r_1.2.2.2), ()) () fun (r' : Int) ↦ r' = r_2) ∧ cnd (IntKind.wrap IntKind.i64 (r + r_2) != x_2) (I_1 (pre ++ x_4 :: ([] : List FansT)) x_5 (x_6.1, x_6.2.1, x_6.2.2.1, x_6.2.2.2) x_7) (f105_wp (x_4.1, x_4.2.1, x_4.2.2.1, x_4.2.2.2) () fun (r : List Int) ↦ cnd (!x_7) (I_1 (pre ++ x_4 :: ([] : List FansT)) r (x_4.1, x_4.2.1, x_4.2.2.1, x_4.2.2.2) true) (f89_wp (r, x_5, ()) () fun (r_3 : Int) ↦ cnd (decide (r_3 < (0 : Int))) (I_1 (pre ++ x_4 :: ([] : List FansT)) r (x_4.1, x_4.2.1, x_4.2.2.1, x_4.2.2.2) true) (I_1 (pre ++ x_4 :: ([] : List FansT)) x_5 (x_6.1, x_6.2.1, x_6.2.2.1, x_6.2.2.2) x_7))))) ∧ ∀ (x_4 : List Int) (x_5 : Int × Int × Int × Int) (x_6 : Bool), I_1 (Fa.upTo (x_3.1, x_3.2.1, x_3.2.2.1, x_3.2.2.2)) x_4 x_5 x_6 → (List.length x_1 + List.length (x_4 :: ([] : List (List Int)))) * (24 : Nat) ≤ (140737488355328 : Nat) ∧ ∃ (r : Int), (f98_wp (((Prod.fst (Prod.fst (List.getD p.1 (Int.toNat x) (((0 : Int), (0 : Int), (0 : Int), (0 : Int)), ((0 : Int), (0 : Int), (0 : Int), (0 : Int)), (0 : Int), (0 : Int)))), Prod.fst (Prod.snd (Prod.fst (List.getD p.1 (Int.toNat x) (((0 : Int), (0 : Int), (0 : Int), (0 : Int)), ((0 : Int), (0 : Int), (0 : Int), (0 : Int)), (0 : Int), (0 : Int))))), Prod.fst (Prod.snd (Prod.snd (Prod.fst (List.getD p.1 (Int.toNat x) (((0 : Int), (0 : Int), (0 : Int), (0 : Int)), ((0 : Int), (0 : Int), (0 : Int), (0 : Int)), (0 : Int), (0 : Int)))))), Prod.snd (Prod.snd (Prod.snd (Prod.fst (List.getD p.1 (Int.toNat x) (((0 : Int), (0 : Int), (0 : Int), (0 : Int)), ((0 : Int), (0 : Int), (0 : Int), (0 : Int)), (0 : Int), (0 : Int))))))), (Prod.fst (Prod.fst (Prod.snd (List.getD p.1 (Int.toNat x) (((0 : Int), (0 : Int), (0 : Int), (0 : Int)), ((0 : Int), (0 : Int), (0 : Int), (0 : Int)), (0 : Int), (0 : Int))))), Prod.fst (Prod.snd (Prod.fst (Prod.snd (List.getD p.1 (Int.toNat x) (((0 : Int), (0 : Int), (0 : Int), (0 : Int)), ((0 : Int), (0 : Int), (0 : Int), (0 : Int)), (0 : Int), (0 : Int)))))), Prod.fst (Prod.snd (Prod.snd (Prod.fst (Prod.snd (List.getD p.1 (Int.toNat x) (((0 : Int), (0 : Int), (0 : Int), (0 : Int)), ((0 : Int), (0 : Int), (0 : Int), (0 : Int)), (0 : Int), (0 : Int))))))), Prod.snd (Prod.snd (Prod.snd (Prod.fst (Prod.snd (List.getD p.1 (Int.toNat x) (((0 : Int), (0 : Int), (0 : Int), (0 : Int)), ((0 : Int), (0 : Int), (0 : Int), (0 : Int)), (0 : Int), (0 : Int)))))))), Prod.fst (Prod.snd (Prod.snd (List.getD p.1 (Int.toNat x) (((0 : Int), (0 : Int), (0 : Int), (0 : Int)), ((0 : Int), (0 : Int), (0 : Int), (0 : Int)), (0 : Int), (0 : Int))))), Prod.snd (Prod.snd (Prod.snd (List.getD p.1 (Int.toNat x) (((0 : Int), (0 : Int), (0 : Int), (0 : Int)), ((0 : Int), (0 : Int), (0 : Int), (0 : Int)), (0 : Int), (0 : Int)))))), (x_5.1, x_5.2.1, x_5.2.2.1, x_5.2.2.2), ()) () fun (r' : Int) ↦ r' = r) ∧ ∃ (r_1 : Int × Int × Int × Int), (f99_wp ((x_3.1, x_3.2.1, x_3.2.2.1, x_3.2.2.2), (x_5.1, x_5.2.1, x_5.2.2.1, x_5.2.2.2), ()) () fun (r' : Int × Int × Int × Int) ↦ r' = r_1) ∧ I (IntKind.wrap IntKind.i64 (x + (1 : Int))) (x_1 ++ x_4 :: ([] : List (List Int))) (IntKind.wrap IntKind.i64 (x_2 - r)) (r_1.1, r_1.2.1, r_1.2.2.1, r_1.2.2.2) ∧ μ (IntKind.wrap IntKind.i64 (x + (1 : Int))) (x_1 ++ x_4 :: ([] : List (List Int))) (IntKind.wrap IntKind.i64 (x_2 - r)) (r_1.1, r_1.2.1, r_1.2.2.1, r_1.2.2.2) < μ x x_1 x_2 x_3) (Q x_1))
theorem v95 (p : List BinT × Kd.T k138) (f : Int × Int × Int × Int) (Q : List (List Int) → Prop) : V95 p f Q = vcFunc (S0 [(82, f82_ct), (97, f97_ct), (98, f98_ct), (99, f99_ct), (105, f105_ct), (89, f89_ct)] []) f95_ct.own f95_ct.fresh f95_an Try.f95 (bodyOf Try.f95) f95_ct.A f95_ct.C f95_ct.R (p, f, ()) () Q := by kernel_rfl

def V67 (bs : List BinT) (f : Int × Int × Int × Int) (Q : List (List Int) × Int × Unit → Prop) : Prop := f81_wp bs () fun (r : List BinT × Kd.T k138) ↦ f82_wp (r, (0 : Int), (f.1, f.2.1, f.2.2.1, f.2.2.2), ()) () fun (r_1 : Int) ↦ cnd (decide (r_1 ≥ (1099511627776 : Int))) (Q (([] : List (List Int)), (9 : Int), ())) (f95_wp (r, (f.1, f.2.1, f.2.2.1, f.2.2.2), ()) () fun (r : List (List Int)) ↦ Q (r, (0 : Int), ()))
theorem v67 (bs : List BinT) (f : Int × Int × Int × Int) (Q : List (List Int) × Int × Unit → Prop) : V67 bs f Q = vcFunc (S0 [(81, f81_ct), (82, f82_ct), (95, f95_ct)] []) f67_ct.own f67_ct.fresh no_an Try.f67 (bodyOf Try.f67) f67_ct.A f67_ct.C f67_ct.R (bs, f, ()) () Q := by kernel_rfl

def V102 (f : Int × Int × Int × Int) (p : List BinT × Kd.T k138) (q : List BinT × Kd.T k138) (Q : Bool → Prop) : Prop := f82_wp (p, (0 : Int), (f.1, f.2.1, f.2.2.1, f.2.2.2), ()) () fun (r : Int) ↦ cnd (decide (r < (1099511627776 : Int))) (f82_wp (q, (0 : Int), (f.1, f.2.1, f.2.2.1, f.2.2.2), ()) () fun (r : Int) ↦ Q (decide (r < (1099511627776 : Int)))) (Q false)
theorem v102 (f : Int × Int × Int × Int) (p : List BinT × Kd.T k138) (q : List BinT × Kd.T k138) (Q : Bool → Prop) : V102 f p q Q = vcFunc (S0 [(82, f82_ct)] []) f102_ct.own f102_ct.fresh no_an Try.f102 (bodyOf Try.f102) f102_ct.A f102_ct.C f102_ct.R f (p, q, ()) Q := by kernel_rfl

def V86 (x : (List Int × Int × List (Int × Int)) × List Spring × Int × Int × Int × Int) (Q : (Int × Int × Int × Int → (Bool → Prop) → Prop) → Prop) : Prop := ∃ (r : List BinT), (f68_wp (((x.1.1, x.1.2.1, x.1.2.2), x.2.1, x.2.2.1, x.2.2.2.1, x.2.2.2.2.1, x.2.2.2.2.2), (0 : Int), (0 : Int), ()) () fun (r' : List BinT) ↦ r' = r) ∧ ∃ (r_1 : List BinT × Kd.T k138), (f81_wp r () fun (r' : List BinT × Kd.T k138) ↦ r' = r_1) ∧ ∃ (r : List BinT), (f77_wp ((x.1.1, x.1.2.1, x.1.2.2), x.2.1, x.2.2.1, x.2.2.2.1, x.2.2.2.2.1, x.2.2.2.2.2) () fun (r' : List BinT) ↦ r' = r) ∧ ∃ (r_2 : List BinT × Kd.T k138), (f81_wp r () fun (r' : List BinT × Kd.T k138) ↦ r' = r_2) ∧ Q fun (x : Int × Int × Int × Int) (Q : Bool → Prop) ↦ f102_wp x (r_1, r_2, ()) fun (r : Bool) ↦ Q r
theorem v86 (x : (List Int × Int × List (Int × Int)) × List Spring × Int × Int × Int × Int) (Q : (Int × Int × Int × Int → (Bool → Prop) → Prop) → Prop) : V86 x Q = vcFunc (S0 [(68, f68_ct), (81, f81_ct), (77, f77_ct), (102, f102_ct)] []) f86_ct.own f86_ct.fresh no_an Try.f86 (bodyOf Try.f86) f86_ct.A f86_ct.C f86_ct.R x () Q := by kernel_rfl

def V21 (s : List Int × Int × List (Int × Int)) (f : List Spring) (Q : List (List Int) × Int × Unit → Prop) : Prop := f20_wp ((s.1, s.2.1, s.2.2), f, ()) () fun (r : Int) ↦ cnd (r != (0 : Int)) (Q (([] : List (List Int)), r, ())) (f65_wp ((s.1, s.2.1, s.2.2), f, fun (x : Int × Int) (Q : Int → Prop) ↦ f66_wp x () fun (r : Int) ↦ Q r, ()) () fun (r : (List Int × Int × List (Int × Int)) × List Spring × Int × Int × Int × Int) ↦ ∃ (r_1 : List BinT), (f68_wp (((r.1.1, r.1.2.1, r.1.2.2), r.2.1, r.2.2.1, r.2.2.2.1, r.2.2.2.2.1, r.2.2.2.2.2), (0 : Int), (1 : Int), ()) () fun (r' : List BinT) ↦ r' = r_1) ∧ ∃ (r_2 : Int × Int × Int × Int), (f69_wp ((r.1.1, r.1.2.1, r.1.2.2), r.2.1, r.2.2.1, r.2.2.2.1, r.2.2.2.2.1, r.2.2.2.2.2) () fun (r' : Int × Int × Int × Int) ↦ r' = r_2) ∧ ∃ (r : List (List Int) × Int × Unit), (f67_wp (r_1, (r_2.1, r_2.2.1, r_2.2.2.1, r_2.2.2.2), ()) () fun (r' : List (List Int) × Int × Unit) ↦ r' = r) ∧ Q (r.1, r.2.1, ()))
theorem v21 (s : List Int × Int × List (Int × Int)) (f : List Spring) (Q : List (List Int) × Int × Unit → Prop) : V21 s f Q = vcFunc (S0 [(20, f20_ct), (65, f65_ct), (66, f66_ct), (68, f68_ct), (69, f69_ct), (67, f67_ct)] []) f21_ct.own f21_ct.fresh no_an Try.f21 (bodyOf Try.f21) f21_ct.A f21_ct.C f21_ct.R (s, f, ()) () Q := by kernel_rfl

def V29 (s : List Int × Int × List (Int × Int)) (f : List Spring) (Q : List (List Int) × Int × Unit → Prop) : Prop := f20_wp ((s.1, s.2.1, s.2.2), f, ()) () fun (r : Int) ↦ cnd (r != (0 : Int)) (Q (([] : List (List Int)), r, ())) (f65_wp ((s.1, s.2.1, s.2.2), f, fun (x : Int × Int) (Q : Int → Prop) ↦ f66_wp x () fun (r : Int) ↦ Q r, ()) () fun (r : (List Int × Int × List (Int × Int)) × List Spring × Int × Int × Int × Int) ↦ ∃ (r_1 : List BinT), (f77_wp ((r.1.1, r.1.2.1, r.1.2.2), r.2.1, r.2.2.1, r.2.2.2.1, r.2.2.2.2.1, r.2.2.2.2.2) () fun (r' : List BinT) ↦ r' = r_1) ∧ ∃ (r_2 : Int × Int × Int × Int), (f69_wp ((r.1.1, r.1.2.1, r.1.2.2), r.2.1, r.2.2.1, r.2.2.2.1, r.2.2.2.2.1, r.2.2.2.2.2) () fun (r' : Int × Int × Int × Int) ↦ r' = r_2) ∧ ∃ (r : List (List Int) × Int × Unit), (f67_wp (r_1, (r_2.1, r_2.2.1, r_2.2.2.1, r_2.2.2.2), ()) () fun (r' : List (List Int) × Int × Unit) ↦ r' = r) ∧ Q (r.1, r.2.1, ()))
theorem v29 (s : List Int × Int × List (Int × Int)) (f : List Spring) (Q : List (List Int) × Int × Unit → Prop) : V29 s f Q = vcFunc (S0 [(20, f20_ct), (65, f65_ct), (66, f66_ct), (77, f77_ct), (69, f69_ct), (67, f67_ct)] []) f29_ct.own f29_ct.fresh no_an Try.f29 (bodyOf Try.f29) f29_ct.A f29_ct.C f29_ct.R (s, f, ()) () Q := by kernel_rfl

def V50 (s : List Int × Int × List (Int × Int)) (f : List Spring) (Q : List Int × Int × Unit → Prop) : Prop := f20_wp ((s.1, s.2.1, s.2.2), f, ()) () fun (r : Int) ↦ cnd (r != (0 : Int)) (Q (([] : List Int), r, ())) (f65_wp ((s.1, s.2.1, s.2.2), f, fun (x : Int × Int) (Q : Int → Prop) ↦ f66_wp x () fun (r : Int) ↦ Q r, ()) () fun (r : (List Int × Int × List (Int × Int)) × List Spring × Int × Int × Int × Int) ↦ f86_wp ((r.1.1, r.1.2.1, r.1.2.2), r.2.1, r.2.2.1, r.2.2.2.1, r.2.2.2.2.1, r.2.2.2.2.2) () fun (r_1 : Int × Int × Int × Int → (Bool → Prop) → Prop) ↦ f69_wp ((r.1.1, r.1.2.1, r.1.2.2), r.2.1, r.2.2.1, r.2.2.2.1, r.2.2.2.2.1, r.2.2.2.2.2) () fun (r : Int × Int × Int × Int) ↦ (((0 : Int) ≤ r.1 ∧ r.1 ≤ (1000 : Int)) ∧ ((0 : Int) ≤ r.2.1 ∧ r.2.1 ≤ (1000 : Int)) ∧ ((0 : Int) ≤ r.2.2.1 ∧ r.2.2.1 ≤ (1000 : Int)) ∧ (0 : Int) ≤ r.2.2.2 ∧ r.2.2.2 ≤ (1000 : Int)) ∧ ∃ (I : List FansT → Int × Int × Int × Int → Prop), I ([] : List FansT) ((0 : Int), (0 : Int), (0 : Int), (0 : Int)) ∧ (∀ (pre : List FansT) (x : Int × Int × Int × Int) (rest : List FansT), Fa.upTo (r.1, r.2.1, r.2.2.1, r.2.2.2) = pre ++ x :: rest → ∀ (x_1 : Int × Int × Int × Int), I pre x_1 → ∃ (r : Int), (f80_wp (x.1, x.2.1, x.2.2.1, x.2.2.2) () fun (r' : Int) ↦ r' = r) ∧ ∃ (r_2 : Int), (f80_wp (x_1.1, x_1.2.1, x_1.2.2.1, x_1.2.2.2) () fun (r' : Int) ↦ r' = r_2) ∧ cnd (decide (r < r_2)) (I (pre ++ x :: ([] : List FansT)) (x_1.1, x_1.2.1, x_1.2.2.1, x_1.2.2.2)) (cnd (r == r_2) ((0 : Int) ≤ (0 : Int) ∧ (0 : Int) ≤ (↑(4 : Nat) : Int) ∧ (↑(4 : Nat) : Int) ≤ (↑(4 : Nat) : Int) ∧ (0 : Int) ≤ (0 : Int) ∧ (0 : Int) ≤ (↑(4 : Nat) : Int) ∧ (↑(4 : Nat) : Int) ≤ (↑(4 : Nat) : Int) ∧ ∃ (r : Int), (f89_wp (List.drop (Int.toNat (0 : Int)) (List.take (Int.toNat (↑(4 : Nat) : Int)) (l4 x)), List.drop (Int.toNat (0 : Int)) (List.take (Int.toNat (↑(4 : Nat) : Int)) (l4 x_1)), ()) () fun (r' : Int) ↦ r' = r) ∧ cnd (decide (r ≤ (0 : Int))) (I (pre ++ x :: ([] : List FansT)) (x_1.1, x_1.2.1, x_1.2.2.1, x_1.2.2.2)) (∃ (r : Bool), (r_1 (x.1, x.2.1, x.2.2.1, x.2.2.2) fun (r' : Bool) ↦ r' = r) ∧ cnd (!r) (I (pre ++ x :: ([] : List FansT)) (x_1.1, x_1.2.1, x_1.2.2.1, x_1.2.2.2)) (I (pre ++ x :: ([] : List FansT)) (x.1, x.2.1, x.2.2.1, x.2.2.2)))) (∃ (r : Bool), (r_1 (x.1, x.2.1, x.2.2.1, x.2.2.2) fun (r' : Bool) ↦ r' = r) ∧ cnd (!r) (I (pre ++ x :: ([] : List FansT)) (x_1.1, x_1.2.1, x_1.2.2.1, x_1.2.2.2)) (I (pre ++ x :: ([] : List FansT)) (x.1, x.2.1, x.2.2.1, x.2.2.2))))) ∧ ∀ (x : Int × Int × Int × Int), I (Fa.upTo (r.1, r.2.1, r.2.2.1, r.2.2.2)) x → List.length f ≤ (9223372036854775807 : Nat) → (0 : Int) ≤ (0 : Int) ∧ (0 : Int) ≤ (↑(List.length f) : Int) ∧ (↑(List.length f) : Int) ≤ (↑(4 : Nat) : Int) ∧ f79_wp (List.drop (Int.toNat (0 : Int)) (List.take (Int.toNat (↑(List.length f) : Int)) (l4 x))) () fun (r : List Int) ↦ Q (r, (0 : Int), ()))
theorem v50 (s : List Int × Int × List (Int × Int)) (f : List Spring) (Q : List Int × Int × Unit → Prop) : V50 s f Q = vcFunc (S0 [(20, f20_ct), (65, f65_ct), (66, f66_ct), (86, f86_ct), (69, f69_ct), (80, f80_ct), (89, f89_ct), (79, f79_ct)] []) f50_ct.own f50_ct.fresh f50_an Try.f50 (bodyOf Try.f50) f50_ct.A f50_ct.C f50_ct.R (s, f, ()) () Q := by kernel_rfl

def V31 (s : List Int × Int × List (Int × Int)) (f : List Spring) (p : Int) (Q : Int × Int × Unit → Prop) : Prop := f20_wp ((s.1, s.2.1, s.2.2), f, ()) () fun (r : Int) ↦ cnd (r != (0 : Int)) (Q ((0 : Int), r, ())) (f78_wp p () fun (r : Bool) ↦ cnd (!r) (Q ((0 : Int), (7 : Int), ())) (f65_wp ((s.1, s.2.1, s.2.2), f, fun (x : Int × Int) (Q : Int → Prop) ↦ f66_wp x () fun (r : Int) ↦ Q r, ()) () fun (r : (List Int × Int × List (Int × Int)) × List Spring × Int × Int × Int × Int) ↦ f79_wp s.1 () fun (r_1 : List Int) ↦ f69_wp ((r_1, r.1.2.1, r.1.2.2), r.2.1, r.2.2.1, r.2.2.2.1, r.2.2.2.2.1, r.2.2.2.2.2) () fun (r_2 : Int × Int × Int × Int) ↦ f80_wp (r_2.1, r_2.2.1, r_2.2.2.1, r_2.2.2.2) () fun (r_3 : Int) ↦ ∃ (I : Int → List Int × Int × List (Int × Int) × List Spring × Int × Int × Int × Int → Prop), ∃ (μ : Int → List Int × Int × List (Int × Int) × List Spring × Int × Int × Int × Int → Nat), I (0 : Int) (r_1, r.1.2.1, r.1.2.2, r.2.1, r.2.2.1, r.2.2.2.1, r.2.2.2.2.1, r.2.2.2.2.2) ∧ ∀ (x : Int) (x_1 : List Int × Int × List (Int × Int) × List Spring × Int × Int × Int × Int), I x x_1 → cnd (decide (x < IntKind.wrap IntKind.i64 (r_3 + (1 : Int)))) (∃ (r : List BinT), (f68_wp (((x_1.1, x_1.2.1, x_1.2.2.1), x_1.2.2.2.1, x_1.2.2.2.2.1, x_1.2.2.2.2.2.1, x_1.2.2.2.2.2.2.1, x_1.2.2.2.2.2.2.2), (0 : Int), (0 : Int), ()) () fun (r' : List BinT) ↦ r' = r) ∧ ∃ (r_4 : List BinT × Kd.T k138), (f81_wp r () fun (r' : List BinT × Kd.T k138) ↦ r' = r_4) ∧ ∃ (r : Int × Int × Int × Int), (f69_wp ((x_1.1, x_1.2.1, x_1.2.2.1), x_1.2.2.2.1, x_1.2.2.2.2.1, x_1.2.2.2.2.2.1, x_1.2.2.2.2.2.2.1, x_1.2.2.2.2.2.2.2) () fun (r' : Int × Int × Int × Int) ↦ r' = r) ∧ ∃ (r_5 : Int), (f82_wp (r_4, (0 : Int), (r.1, r.2.1, r.2.2.1, r.2.2.2), ()) () fun (r' : Int) ↦ r' = r_5) ∧ cnd (decide (r_5 < (1099511627776 : Int))) (Q (x, (0 : Int), ())) ((List.length x_1.1 + List.length (p :: ([] : List Int))) * (8 : Nat) ≤ (140737488355328 : Nat) ∧ I (IntKind.wrap IntKind.i64 (x + (1 : Int))) (x_1.1 ++ p :: ([] : List Int), x_1.2.1, x_1.2.2.1, x_1.2.2.2.1, x_1.2.2.2.2.1, x_1.2.2.2.2.2.1, x_1.2.2.2.2.2.2.1, x_1.2.2.2.2.2.2.2) ∧ μ (IntKind.wrap IntKind.i64 (x + (1 : Int))) (x_1.1 ++ p :: ([] : List Int), x_1.2.1, x_1.2.2.1, x_1.2.2.2.1, x_1.2.2.2.2.1, x_1.2.2.2.2.2.1, x_1.2.2.2.2.2.2.1, x_1.2.2.2.2.2.2.2) < μ x x_1)) (Q ((0 : Int), (9 : Int), ()))))
theorem v31 (s : List Int × Int × List (Int × Int)) (f : List Spring) (p : Int) (Q : Int × Int × Unit → Prop) : V31 s f p Q = vcFunc (S0 [(20, f20_ct), (78, f78_ct), (65, f65_ct), (66, f66_ct), (79, f79_ct), (69, f69_ct), (80, f80_ct), (68, f68_ct), (81, f81_ct), (82, f82_ct)] []) f31_ct.own f31_ct.fresh f31_an Try.f31 (bodyOf Try.f31) f31_ct.A f31_ct.C f31_ct.R (s, f, p, ()) () Q := by kernel_rfl

def V34 (s : List Int × Int × List (Int × Int)) (f : List Spring) (p : Int) (Q : Int × Int × Int × Unit → Prop) : Prop := f20_wp ((s.1, s.2.1, s.2.2), f, ()) () fun (r : Int) ↦ cnd (r != (0 : Int)) (Q ((0 : Int), (0 : Int), r, ())) (f78_wp p () fun (r : Bool) ↦ cnd (!r) (Q ((0 : Int), (0 : Int), (7 : Int), ())) (∃ (r : (List Int × Int × List (Int × Int)) × List Spring × Int × Int × Int × Int), (f65_wp ((s.1, s.2.1, s.2.2), f, fun (x : Int × Int) (Q : Int → Prop) ↦ f66_wp x () fun (r : Int) ↦ Q r, ()) () fun (r' : (List Int × Int × List (Int × Int)) × List Spring × Int × Int × Int × Int) ↦ r' = r) ∧ (List.length f ≤ (9223372036854775807 : Nat) → ∃ (I : Int → Int → Int → Prop), ∃ (μ : Int → Int → Int → Nat), I (0 : Int) (0 : Int) (0 : Int) ∧ ∀ (x x_1 x_2 : Int), I x x_1 x_2 → cnd (decide (x < (↑(List.length f) : Int))) (f69_wp ((r.1.1, r.1.2.1, r.1.2.2), r.2.1, r.2.2.1, r.2.2.2.1, r.2.2.2.2.1, r.2.2.2.2.2) () fun (r_1 : Int × Int × Int × Int) ↦ ∃ (I_1 : Int → Int → Prop), ∃ (μ_1 : Int → Int → Nat), I_1 (0 : Int) (0 : Int) ∧ ∀ (x_3 x_4 : Int), I_1 x_3 x_4 → cnd (decide (x_3 < (4 : Int))) ((0 : Int) ≤ x_3 ∧ x_3 < (↑(4 : Nat) : Int) ∧ (0 : Int) ≤ x_3 ∧ x_3 < (↑(4 : Nat) : Int) ∧ (0 : Int) ≤ x ∧ x < (↑(4 : Nat) : Int) ∧ cnd (decide (List.getD (l4 r.2.2) (Int.toNat x_3) r.2.2.1 ≥ List.getD (l4 r.2.2) (Int.toNat x) r.2.2.1)) ((0 : Int) ≤ x_3 ∧ x_3 < (↑(4 : Nat) : Int) ∧ I_1 (IntKind.wrap IntKind.i64 (x_3 + (1 : Int))) (IntKind.wrap IntKind.i64 (x_4 + IntKind.wrap IntKind.i64 (List.getD (l4 r_1) (Int.toNat x_3) r_1.1 * IntKind.wrap IntKind.i64 (List.getD (l4 r.2.2) (Int.toNat x_3) r.2.2.1 + s.2.1)))) ∧ μ_1 (IntKind.wrap IntKind.i64 (x_3 + (1 : Int))) (IntKind.wrap IntKind.i64 (x_4 + IntKind.wrap IntKind.i64 (List.getD (l4 r_1) (Int.toNat x_3) r_1.1 * IntKind.wrap IntKind.i64 (List.getD (l4 r.2.2) (Int.toNat x_3) r.2.2.1 + s.2.1)))) < μ_1 x_3 x_4) (I_1 (IntKind.wrap IntKind.i64 (x_3 + (1 : Int))) x_4 ∧ μ_1 (IntKind.wrap IntKind.i64 (x_3 + (1 : Int))) x_4 < μ_1 x_3 x_4)) (List.length s.1 ≤ (9223372036854775807 : Nat) → ∃ (I_2 : Int → Int → Prop), ∃ (μ_2 : Int → Int → Nat), I_2 (0 : Int) x_4 ∧ ∀ (x_5 x_6 : Int), I_2 x_5 x_6 → cnd (decide (x_5 < (↑(List.length s.1) : Int))) ((0 : Int) ≤ x_5 ∧ x_5 < (↑(List.length s.1) : Int) ∧ (0 : Int) ≤ x ∧ x < (↑(4 : Nat) : Int) ∧ cnd (decide (List.getD s.1 (Int.toNat x_5) (0 : Int) ≥ List.getD (l4 r.2.2) (Int.toNat x) r.2.2.1)) (I_2 (IntKind.wrap IntKind.i64 (x_5 + (1 : Int))) (IntKind.wrap IntKind.i64 (x_6 - IntKind.wrap IntKind.i64 (List.getD s.1 (Int.toNat x_5) (0 : Int) + s.2.1))) ∧ μ_2 (IntKind.wrap IntKind.i64 (x_5 + (1 : Int))) (IntKind.wrap IntKind.i64 (x_6 - IntKind.wrap IntKind.i64 (List.getD s.1 (Int.toNat x_5) (0 : Int) + s.2.1))) < μ_2 x_5 x_6) (I_2 (IntKind.wrap IntKind.i64 (x_5 + (1 : Int))) x_6 ∧ μ_2 (IntKind.wrap IntKind.i64 (x_5 + (1 : Int))) x_6 < μ_2 x_5 x_6)) (IntKind.wrap IntKind.i64 (p + s.2.1) ≠ (0 : Int) ∧ cnd (decide (IntKind.wrap IntKind.i64 (Int.tdiv (IntKind.wrap IntKind.i64 (IntKind.wrap IntKind.i64 (mxI (0 : Int) x_6 + IntKind.wrap IntKind.i64 (p + s.2.1)) - (1 : Int))) (IntKind.wrap IntKind.i64 (p + s.2.1))) > x_1)) (I (IntKind.wrap IntKind.i64 (x + (1 : Int))) (IntKind.wrap IntKind.i64 (Int.tdiv (IntKind.wrap IntKind.i64 (IntKind.wrap IntKind.i64 (mxI (0 : Int) x_6 + IntKind.wrap IntKind.i64 (p + s.2.1)) - (1 : Int))) (IntKind.wrap IntKind.i64 (p + s.2.1)))) x ∧ μ (IntKind.wrap IntKind.i64 (x + (1 : Int))) (IntKind.wrap IntKind.i64 (Int.tdiv (IntKind.wrap IntKind.i64 (IntKind.wrap IntKind.i64 (mxI (0 : Int) x_6 + IntKind.wrap IntKind.i64 (p + s.2.1)) - (1 : Int))) (IntKind.wrap IntKind.i64 (p + s.2.1)))) x < μ x x_1 x_2) (I (IntKind.wrap IntKind.i64 (x + (1 : Int))) x_1 x_2 ∧ μ (IntKind.wrap IntKind.i64 (x + (1 : Int))) x_1 x_2 < μ x x_1 x_2)))) (Q (x_1, x_2, (0 : Int), ())))))
theorem v34 (s : List Int × Int × List (Int × Int)) (f : List Spring) (p : Int) (Q : Int × Int × Int × Unit → Prop) : V34 s f p Q = vcFunc (S0 [(20, f20_ct), (78, f78_ct), (65, f65_ct), (66, f66_ct), (69, f69_ct)] []) f34_ct.own f34_ct.fresh f34_an Try.f34 (bodyOf Try.f34) f34_ct.A f34_ct.C f34_ct.R (s, f, p, ()) () Q := by kernel_rfl

def V83 (l : List Int) (f : List Spring) (Q : Bool → Prop) : Prop := List.length f ≤ (9223372036854775807 : Nat) → f58_wp ((0 : Int), IntKind.wrap IntKind.i64 ((↑(List.length f) : Int) - (1 : Int)), l, ()) () fun (r : Bool) ↦ cnd (!r) (Q true) (f84_wp l () fun (r : Bool) ↦ Q !r)
theorem v83 (l : List Int) (f : List Spring) (Q : Bool → Prop) : V83 l f Q = vcFunc (S0 [(58, f58_ct), (84, f84_ct)] []) f83_ct.own f83_ct.fresh no_an Try.f83 (bodyOf Try.f83) f83_ct.A f83_ct.C f83_ct.R l (f, ()) Q := by kernel_rfl

def V36 (s : List Int × Int × List (Int × Int)) (f : List Spring) (c : List (List Int)) (Q : List Int × Int × Unit → Prop) : Prop := f20_wp ((s.1, s.2.1, s.2.2), f, ()) () fun (r : Int) ↦ cnd (r != (0 : Int)) (Q (([] : List Int), r, ())) (List.length c ≤ (9223372036854775807 : Nat) → List.length s.1 ≤ (9223372036854775807 : Nat) → cnd ((↑(List.length c) : Int) != (↑(List.length s.1) : Int)) (Q (([] : List Int), (7 : Int), ())) (f85_wp (c, fun (x : List Int) (Q : Bool → Prop) ↦ f83_wp x (f, ()) fun (r : Bool) ↦ Q r, ()) () fun (r : Bool) ↦ cnd r (Q (([] : List Int), (7 : Int), ())) (List.length c ≤ (9223372036854775807 : Nat) → ∃ (I : Int → List Int → Prop), ∃ (μ : Int → List Int → Nat), I (0 : Int) ([] : List Int) ∧ ∀ (x : Int) (x_1 : List Int), I x x_1 → cnd (decide (x < (↑(List.length c) : Int))) ((0 : Int) ≤ x ∧ x < (↑(List.length c) : Int) ∧ (0 : Int) ≤ x ∧ x < (↑(List.length s.1) : Int) ∧ (List.length (List.getD c (Int.toNat x) ([] : List Int)) ≤ (9223372036854775807 : Nat) → ∃ (I_1 : Int → Int → List Int → Prop), ∃ (μ_1 : Int → Int → List Int → Nat), I_1 (0 : Int) (List.getD s.1 (Int.toNat x) (0 : Int)) x_1 ∧ ∀ (x_2 x_3 : Int) (x_4 : List Int), I_1 x_2 x_3 x_4 → cnd (decide (x_2 < (↑(List.length (List.getD c (Int.toNat x) ([] : List Int))) : Int))) ((0 : Int) ≤ x_2 ∧ x_2 < (↑(List.length (List.getD c (Int.toNat x) ([] : List Int))) : Int) ∧ (0 : Int) ≤ List.getD (List.getD c (Int.toNat x) ([] : List Int)) (Int.toNat x_2) (0 : Int) ∧ List.getD (List.getD c (Int.toNat x) ([] : List Int)) (Int.toNat x_2) (0 : Int) < (↑(List.length f) : Int) ∧ cnd (decide (x_2 > (0 : Int))) (cnd (decide (IntKind.wrap IntKind.i64 (IntKind.wrap IntKind.i64 (x_3 - Prod.snd (Prod.fst (List.getD f (Int.toNat (List.getD (List.getD c (Int.toNat x) ([] : List Int)) (Int.toNat x_2) (0 : Int))) (((0 : Int), (0 : Int)), (0 : Int), (0 : Int))))) - s.2.1) < (0 : Int))) (Q (([] : List Int), (9 : Int), ())) (I_1 (IntKind.wrap IntKind.i64 (x_2 + (1 : Int))) (IntKind.wrap IntKind.i64 (IntKind.wrap IntKind.i64 (x_3 - Prod.snd (Prod.fst (List.getD f (Int.toNat (List.getD (List.getD c (Int.toNat x) ([] : List Int)) (Int.toNat x_2) (0 : Int))) (((0 : Int), (0 : Int)), (0 : Int), (0 : Int))))) - s.2.1)) x_4 ∧ μ_1 (IntKind.wrap IntKind.i64 (x_2 + (1 : Int))) (IntKind.wrap IntKind.i64 (IntKind.wrap IntKind.i64 (x_3 - Prod.snd (Prod.fst (List.getD f (Int.toNat (List.getD (List.getD c (Int.toNat x) ([] : List Int)) (Int.toNat x_2) (0 : Int))) (((0 : Int), (0 : Int)), (0 : Int), (0 : Int))))) - s.2.1)) x_4 < μ_1 x_2 x_3 x_4)) (cnd (decide (IntKind.wrap IntKind.i64 (x_3 - Prod.snd (Prod.fst (List.getD f (Int.toNat (List.getD (List.getD c (Int.toNat x) ([] : List Int)) (Int.toNat x_2) (0 : Int))) (((0 : Int), (0 : Int)), (0 : Int), (0 : Int))))) < (0 : Int))) (Q (([] : List Int), (9 : Int), ())) (I_1 (IntKind.wrap IntKind.i64 (x_2 + (1 : Int))) (IntKind.wrap IntKind.i64 (x_3 - Prod.snd (Prod.fst (List.getD f (Int.toNat (List.getD (List.getD c (Int.toNat x) ([] : List Int)) (Int.toNat x_2) (0 : Int))) (((0 : Int), (0 : Int)), (0 : Int), (0 : Int)))))) x_4 ∧ μ_1 (IntKind.wrap IntKind.i64 (x_2 + (1 : Int))) (IntKind.wrap IntKind.i64 (x_3 - Prod.snd (Prod.fst (List.getD f (Int.toNat (List.getD (List.getD c (Int.toNat x) ([] : List Int)) (Int.toNat x_2) (0 : Int))) (((0 : Int), (0 : Int)), (0 : Int), (0 : Int)))))) x_4 < μ_1 x_2 x_3 x_4))) (List.length (List.getD c (Int.toNat x) ([] : List Int)) ≤ (9223372036854775807 : Nat) → cnd (decide ((↑(List.length (List.getD c (Int.toNat x) ([] : List Int))) : Int) > (0 : Int))) ((List.length x_4 + List.length (mxI (0 : Int) (IntKind.wrap IntKind.i64 (x_3 - s.2.1)) :: ([] : List Int))) * (8 : Nat) ≤ (140737488355328 : Nat) ∧ I (IntKind.wrap IntKind.i64 (x + (1 : Int))) (x_4 ++ mxI (0 : Int) (IntKind.wrap IntKind.i64 (x_3 - s.2.1)) :: ([] : List Int)) ∧ μ (IntKind.wrap IntKind.i64 (x + (1 : Int))) (x_4 ++ mxI (0 : Int) (IntKind.wrap IntKind.i64 (x_3 - s.2.1)) :: ([] : List Int)) < μ x x_1) ((List.length x_4 + List.length (x_3 :: ([] : List Int))) * (8 : Nat) ≤ (140737488355328 : Nat) ∧ I (IntKind.wrap IntKind.i64 (x + (1 : Int))) (x_4 ++ x_3 :: ([] : List Int)) ∧ μ (IntKind.wrap IntKind.i64 (x + (1 : Int))) (x_4 ++ x_3 :: ([] : List Int)) < μ x x_1)))) (Q (x_1, (0 : Int), ())))))
theorem v36 (s : List Int × Int × List (Int × Int)) (f : List Spring) (c : List (List Int)) (Q : List Int × Int × Unit → Prop) : V36 s f c Q = vcFunc (S0 [(20, f20_ct), (83, f83_ct), (85, f85_ct)] []) f36_ct.own f36_ct.fresh f36_an Try.f36 (bodyOf Try.f36) f36_ct.A f36_ct.C f36_ct.R (s, f, c, ()) () Q := by kernel_rfl

def V39 (s : List Int × Int × List (Int × Int)) (f : List Spring) (Q : Int × Int × Int × Unit → Prop) : Prop := f20_wp ((s.1, s.2.1, s.2.2), f, ()) () fun (r : Int) ↦ cnd (r != (0 : Int)) (Q ((0 : Int), (0 : Int), r, ())) (f65_wp ((s.1, s.2.1, s.2.2), f, fun (x : Int × Int) (Q : Int → Prop) ↦ f66_wp x () fun (r : Int) ↦ Q r, ()) () fun (r : (List Int × Int × List (Int × Int)) × List Spring × Int × Int × Int × Int) ↦ ∃ (r_1 : List BinT), (f68_wp (((r.1.1, r.1.2.1, r.1.2.2), r.2.1, r.2.2.1, r.2.2.2.1, r.2.2.2.2.1, r.2.2.2.2.2), s.2.1, IntKind.wrap IntKind.i64 (Int.sub (0 : Int) s.2.1), ()) () fun (r' : List BinT) ↦ r' = r_1) ∧ ∃ (r_2 : List BinT × Kd.T k138), (f81_wp r_1 () fun (r' : List BinT × Kd.T k138) ↦ r' = r_2) ∧ ∃ (r_3 : Int × Int × Int × Int), (f69_wp ((r.1.1, r.1.2.1, r.1.2.2), r.2.1, r.2.2.1, r.2.2.2.1, r.2.2.2.2.1, r.2.2.2.2.2) () fun (r' : Int × Int × Int × Int) ↦ r' = r_3) ∧ ∃ (r_4 : Int), (f82_wp (r_2, (0 : Int), (r_3.1, r_3.2.1, r_3.2.2.1, r_3.2.2.2), ()) () fun (r' : Int) ↦ r' = r_4) ∧ ∃ (r_5 : List BinT), (f77_wp ((r.1.1, r.1.2.1, r.1.2.2), r.2.1, r.2.2.1, r.2.2.2.1, r.2.2.2.2.1, r.2.2.2.2.2) () fun (r' : List BinT) ↦ r' = r_5) ∧ ∃ (r_6 : List BinT × Kd.T k138), (f81_wp r_5 () fun (r' : List BinT × Kd.T k138) ↦ r' = r_6) ∧ ∃ (r_7 : Int × Int × Int × Int), (f69_wp ((r.1.1, r.1.2.1, r.1.2.2), r.2.1, r.2.2.1, r.2.2.2.1, r.2.2.2.2.1, r.2.2.2.2.2) () fun (r' : Int × Int × Int × Int) ↦ r' = r_7) ∧ ∃ (r : Int), (f82_wp (r_6, (0 : Int), (r_7.1, r_7.2.1, r_7.2.2.1, r_7.2.2.2), ()) () fun (r' : Int) ↦ r' = r) ∧ cnd (decide (r_4 ≥ (549755813888 : Int))) (Q ((0 : Int), (0 : Int), (9 : Int), ())) (cnd (decide (r ≥ (1099511627776 : Int))) (Q ((0 : Int), (0 : Int), (9 : Int), ())) (Q (r_4, r, (0 : Int), ()))))
theorem v39 (s : List Int × Int × List (Int × Int)) (f : List Spring) (Q : Int × Int × Int × Unit → Prop) : V39 s f Q = vcFunc (S0 [(20, f20_ct), (65, f65_ct), (66, f66_ct), (68, f68_ct), (81, f81_ct), (69, f69_ct), (82, f82_ct), (77, f77_ct)] []) f39_ct.own f39_ct.fresh no_an Try.f39 (bodyOf Try.f39) f39_ct.A f39_ct.C f39_ct.R (s, f, ()) () Q := by kernel_rfl

def V41 (s : List Int × Int × List (Int × Int)) (f : List Spring) (k : Int) (Q : Int × Int × Unit → Prop) : Prop := f20_wp ((s.1, s.2.1, s.2.2), f, ()) () fun (r : Int) ↦ cnd (r != (0 : Int)) (Q ((0 : Int), r, ())) (List.length f ≤ (9223372036854775807 : Nat) → f58_wp ((0 : Int), IntKind.wrap IntKind.i64 ((↑(List.length f) : Int) - (1 : Int)), k :: ([] : List Int), ()) () fun (r : Bool) ↦ cnd (!r) (Q ((0 : Int), (7 : Int), ())) (∃ (I : Int → Prop), ∃ (μ : Int → Nat), I (40 : Int) ∧ ∀ (x : Int), I x → cnd (decide (x ≥ (2 : Int))) (f65_wp ((s.1, s.2.1, s.2.2), f, fun (x : Int × Int) (Q : Int → Prop) ↦ f66_wp x () fun (r : Int) ↦ Q r, ()) () fun (r : (List Int × Int × List (Int × Int)) × List Spring × Int × Int × Int × Int) ↦ (0 : Int) ≤ k ∧ k < (↑(4 : Nat) : Int) ∧ ∃ (r_1 : Int × Int × Int × Int → (Bool → Prop) → Prop), (f86_wp ((r.1.1, r.1.2.1, r.1.2.2), r.2.1, List.getD (List.set (l4 r.2.2) (Int.toNat k) x) (nat_lit 0) x, List.getD (List.set (l4 r.2.2) (Int.toNat k) x) (nat_lit 1) x, List.getD (List.set (l4 r.2.2) (Int.toNat k) x) (nat_lit 2) x, List.getD (List.set (l4 r.2.2) (Int.toNat k) x) (nat_lit 3) x) () fun (r' : Int × Int × Int × Int → (Bool → Prop) → Prop) ↦ r' = r_1) ∧ ∃ (r_2 : Int × Int × Int × Int), (f69_wp ((r.1.1, r.1.2.1, r.1.2.2), r.2.1, List.getD (List.set (l4 r.2.2) (Int.toNat k) x) (nat_lit 0) x, List.getD (List.set (l4 r.2.2) (Int.toNat k) x) (nat_lit 1) x, List.getD (List.set (l4 r.2.2) (Int.toNat k) x) (nat_lit 2) x, List.getD (List.set (l4 r.2.2) (Int.toNat k) x) (nat_lit 3) x) () fun (r' : Int × Int × Int × Int) ↦ r' = r_2) ∧ ∃ (r : Bool), (r_1 (r_2.1, r_2.2.1, r_2.2.2.1, r_2.2.2.2) fun (r' : Bool) ↦ r' = r) ∧ cnd r (Q (x, (0 : Int), ())) (I (IntKind.wrap IntKind.i64 (x - (1 : Int))) ∧ μ (IntKind.wrap IntKind.i64 (x - (1 : Int))) < μ x)) (Q ((0 : Int), (9 : Int), ()))))
theorem v41 (s : List Int × Int × List (Int × Int)) (f : List Spring) (k : Int) (Q : Int × Int × Unit → Prop) : V41 s f k Q = vcFunc (S0 [(20, f20_ct), (58, f58_ct), (65, f65_ct), (66, f66_ct), (86, f86_ct), (69, f69_ct)] []) f41_ct.own f41_ct.fresh f41_an Try.f41 (bodyOf Try.f41) f41_ct.A f41_ct.C f41_ct.R (s, f, k, ()) () Q := by kernel_rfl

end Go.Proofs.Fa
set_option linter.unusedVariables false
namespace Go.Proofs.Fa
open Go Go.GX Go.Proofs

theorem inB_iff {a b n : Int} : inB a b n = true ↔ a ≤ n ∧ n ≤ b := by simp [inB]
theorem all_iff {p : Int → Bool} {l : List Int} : l.all p = true ↔ ∀ x, x ∈ l → p x = true := List.all_eq_true

structure VOK (s : Store) (f : List Spring) : Prop where
  n6 : s.1.length ≤ 6
  n5 : s.2.2.length ≤ 5
  lv : ∀ l, l ∈ s.1 → 1 ≤ l ∧ l ≤ 200
  sm : 0 ≤ s.2.1 ∧ s.2.1 ≤ 10
  lt : ∀ l, l ∈ s.2.2 → (1 ≤ l.1 ∧ l.1 ≤ 200) ∧ (0 ≤ l.2 ∧ l.2 ≤ 200)
  f1 : 1 ≤ f.length
  f4 : f.length ≤ 4
  sp : ∀ s, s ∈ f → (2 ≤ s.1.1 ∧ s.1.1 ≤ s.1.2 ∧ s.1.2 ≤ 40) ∧ (0 ≤ s.2.1 ∧ s.2.1 ≤ 4) ∧ (1 ≤ s.2.2 ∧ s.2.2 ≤ 200)
theorem not_false_eq {b : Bool} (h : ¬ b = false) : b = true := by cases b <;> simp_all
theorem vok_of {s : Store} {f : List Spring} (h : checkF s f = 0) : VOK s f := by
  unfold checkF at h
  split at h
  · cases h
  rename_i h1
  split at h
  · cases h
  rename_i h2
  split at h
  · cases h
  rename_i h3
  split at h
  · cases h
  rename_i h4
  simp only [not_or] at h1 h2
  obtain ⟨h2, h2b, h2c⟩ := h2
  have h2 := not_false_eq h2
  have h2b := not_false_eq h2b
  have h2c := not_false_eq h2c
  have h3 := not_false_eq h3
  have h4 := not_false_eq h4
  refine ⟨by omega, by omega, fun l hl => inB_iff.1 (all_iff.1 h2 l hl), inB_iff.1 h2b, fun l hl => ?_, by have := (inB_iff.1 h3).1; omega, by have := (inB_iff.1 h3).2; omega, fun x hx => ?_⟩
  · have := List.all_eq_true.1 h2c l hl
    simp only [isLotF, Bool.and_eq_true] at this
    exact ⟨inB_iff.1 this.1, inB_iff.1 this.2⟩
  · have := List.all_eq_true.1 h4 x hx
    simp only [isSprF, Bool.and_eq_true, decide_eq_true_eq] at this
    obtain ⟨⟨⟨⟨g1, g2⟩, g3⟩, g4⟩, g5⟩ := this
    have g1 := inB_iff.1 g1
    have g2 := inB_iff.1 g2
    exact ⟨⟨by omega, g3, by omega⟩, inB_iff.1 g4, inB_iff.1 g5⟩
theorem all4_tup {p : Int → Prop} {g : Nat → Int} (h : ∀ i, i < 4 → p (g i)) : all4 p (tup4 g) := ⟨h 0 (by omega), h 1 (by omega), h 2 (by omega), h 3 (by omega)⟩
theorem at4_tup (g : Nat → Int) : ∀ {k : Nat}, k < 4 → at4 (tup4 g) k = g k
  | 0, _ => rfl
  | 1, _ => rfl
  | 2, _ => rfl
  | 3, _ => rfl
  | k + 4, h => absurd h (by omega)
theorem VOK.getS {s : Store} {f : List Spring} (v : VOK s f) {i : Nat} (hi : i < f.length) : (2 ≤ (f.getD i ((0, 0), 0, 0)).1.1 ∧ (f.getD i ((0, 0), 0, 0)).1.1 ≤ (f.getD i ((0, 0), 0, 0)).1.2 ∧ (f.getD i ((0, 0), 0, 0)).1.2 ≤ 40) ∧ (0 ≤ (f.getD i ((0, 0), 0, 0)).2.1 ∧ (f.getD i ((0, 0), 0, 0)).2.1 ≤ 4) ∧ (1 ≤ (f.getD i ((0, 0), 0, 0)).2.2 ∧ (f.getD i ((0, 0), 0, 0)).2.2 ≤ 200) := v.sp _ (getD_mem hi)
theorem VOK.cH {s : Store} {f : List Spring} (v : VOK s f) : all4 (fun x => 0 ≤ x ∧ x ≤ 40) (cH f) := by
  unfold Fa.cH cntF
  refine all4_tup fun i _ => ?_
  show 0 ≤ (if i < f.length then _ else _) ∧ (if i < f.length then _ else _) ≤ 40
  split
  · rename_i h; have := v.getS h; simp only; omega
  · omega
theorem VOK.cL {s : Store} {f : List Spring} (v : VOK s f) : all4 (fun x => 0 ≤ x ∧ x ≤ 40) (cL f) := by
  unfold Fa.cL cntF
  refine all4_tup fun i _ => ?_
  show 0 ≤ (if i < f.length then _ else _) ∧ (if i < f.length then _ else _) ≤ 40
  split
  · rename_i h; have := v.getS h; simp only; omega
  · omega
theorem VOK.want4 {s : Store} {f : List Spring} (v : VOK s f) : all4 (fun x => 0 ≤ x ∧ x ≤ 4) (wantF f) := by
  unfold wantF
  refine all4_tup fun i _ => ?_
  show 0 ≤ (if i < f.length then _ else _) ∧ (if i < f.length then _ else _) ≤ 4
  split
  · rename_i h; have := v.getS h; omega
  · omega
theorem all4_mono {p q : Int → Prop} (h : ∀ x, p x → q x) {t : FansT} (ht : all4 p t) : all4 q t := ⟨h _ ht.1, h _ ht.2.1, h _ ht.2.2.1, h _ ht.2.2.2⟩
theorem VOK.want {s : Store} {f : List Spring} (v : VOK s f) : FOK (wantF f) := all4_mono (fun x h => ⟨h.1, by omega⟩) v.want4
theorem VOK.x {s : Store} {f : List Spring} (v : VOK s f) {c : FansT} (hc : all4 (fun x => 0 ≤ x ∧ x ≤ 40) c) : XOK (s, f, c) where
  n := v.f4
  nl := by have := v.n6; show s.1.length ≤ 500; omega
  nt := by have := v.n5; show s.2.2.length ≤ 500; omega
  lv := fun l hl => by have := v.lv l hl; constructor <;> omega
  sm := by have := v.sm; exact ⟨by show -400 ≤ s.2.1; omega, by show s.2.1 ≤ 400; omega⟩
  lt := fun l hl => by have := v.lt l hl; exact ⟨⟨by omega, by omega⟩, ⟨by omega, by omega⟩⟩
  sp := fun x hx => by have := v.sp x hx; constructor <;> omega
  ct := all4_mono (fun x h => ⟨by omega, by omega⟩) hc
theorem leaves_ok {ls : List Int} {seam : Int} {n : Nat} {c : FansT} {each first : Int} (hn : ls.length ≤ 1000) (hl : ∀ l, l ∈ ls → bnd 400 l) (hs : bnd 400 seam) (hc : all4 (bnd 400) c) (he : bnd 1000 each) (hf : bnd 1000 first) : BinsOK (leavesF ls seam n c each first) := by
  refine ⟨by simpa [leavesF] using hn, fun b hb => ?_⟩
  simp only [leavesF, List.mem_map] at hb
  obtain ⟨p, hp, rfl⟩ := hb
  have hp := hl p hp
  refine ⟨all4_tup fun i hi => ?_, all4_tup fun i hi => ?_, ?_, ?_⟩
  · split
    · have := all4_at hc hi
      exact ⟨by have := this.1; have := hs.1; omega, by have := this.2; have := hs.2; omega⟩
    · exact ⟨by omega, by omega⟩
  · split
    · exact ⟨by have := he.1; omega, by have := he.2; omega⟩
    · exact ⟨by omega, by omega⟩
  · exact ⟨by show -1000000 ≤ p + seam; have := hp.1; have := hs.1; omega, by show p + seam ≤ 1000000; have := hp.2; have := hs.2; omega⟩
  · exact ⟨by show -1000000 ≤ first; have := hf.1; omega, by show first ≤ 1000000; have := hf.2; omega⟩
theorem XOK.lvs {x : Fashion} (h : XOK x) {each first : Int} (he : bnd 1000 each) (hf : bnd 1000 first) : BinsOK (lvs x each first) :=
  leaves_ok (by have := h.nl; omega) h.lv h.sm h.ct he hf
theorem XOK.lts {x : Fashion} (h : XOK x) : BinsOK (lts x) := by
  refine ⟨by have := h.nt; simp only [Fa.lts, lotsF, List.length_map]; omega, fun b hb => ?_⟩
  simp only [Fa.lts, lotsF, List.mem_map] at hb
  obtain ⟨l, hl, rfl⟩ := hb
  have hl := h.lt l hl
  refine ⟨all4_tup fun i hi => ?_, all4_tup fun i hi => ?_, ?_, ⟨by show -1000000 ≤ (0 : Int); omega, by show (0 : Int) ≤ 1000000; omega⟩⟩
  · split
    · split
      · exact ⟨by have := hl.2.1; omega, by have := hl.2.2; omega⟩
      · have := all4_at h.ct hi
        exact ⟨by have := this.1; omega, by have := this.2; omega⟩
    · exact ⟨by omega, by omega⟩
  · split
    · rename_i hlt
      have h1 := all4_at h.ct hi
      have h2 := h.sp _ (getD_mem (d := ((0, 0), 0, 0)) hlt)
      have h3 : bnd 800 (l.1 - (x.2.1.getD i ((0, 0), 0, 0)).2.2) := ⟨by have := hl.1.1; have := h2.2; omega, by have := hl.1.2; have := h2.1; omega⟩
      have := bnd_mul (by omega) h1 h3
      exact ⟨by have := this.1; omega, by have := this.2; omega⟩
    · exact ⟨by omega, by omega⟩
  · exact ⟨by show -1000000 ≤ l.2; have := hl.2.1; omega, by show l.2 ≤ 1000000; have := hl.2.2; omega⟩
theorem b0 : bnd 1000 0 := ⟨by omega, by omega⟩
theorem b1 : bnd 1000 1 := ⟨by omega, by omega⟩
theorem ne_of_bne {a b : Int} (h : (a != b) = true) : a ≠ b := by simpa using h
theorem eq_of_bne {a b : Int} (h : (a != b) = false) : a = b := by simpa using h

theorem le4_no {f : FansT} (hf : FOK f) : le4 NO4 f := ⟨⟨by decide, hf.1.1⟩, ⟨by decide, hf.2.1.1⟩, ⟨by decide, hf.2.2.1.1⟩, ⟨by decide, hf.2.2.2.1⟩⟩
theorem fold_le4 {b : BinT} {r : List BinT} {f : FansT} {left : Int} : ∀ (l : List FansT) (st : List Int × FansT × Bool), le4 st.2.1 f → (∀ s, s ∈ l → le4 s f) → le4 (l.foldl (smStep b r f left) st).2.1 f
  | [], st, h, _ => h
  | s :: l, st, h, hl => by
    rw [List.foldl_cons]
    refine fold_le4 l _ ?_ fun s' hs' => hl s' (by simp [hs'])
    unfold smStep
    split
    · split
      · exact hl s (by simp)
      · exact h
    · exact h
theorem smPick_le4 {b : BinT} {r : List BinT} {f : FansT} {left : Int} (hf : FOK f) : le4 (smPick b r f left).2.1 f :=
  fold_le4 _ _ (le4_no hf) fun s hs => (mem_upTo hf).1 hs
theorem p95 {p : Pk} {f : FansT} {Q : List (List Int) → Prop} (h : f95_wp (p, f, ()) () Q) : V95 p f Q := by
  obtain ⟨⟨hp, hf⟩, h⟩ := h
  have hp : POK p := hp
  have hf : FOK f := hf
  have h : Q (smallF p.1 f) := h
  have hN : p.1.length ≤ 1000 := hp.b.n
  have hL := least_bnd p.1 hp.b f hf
  simp only [GX.Fa.NONE] at hL
  refine ⟨⟨hp, hf, Int.le_refl _, by show (0 : Int) ≤ p.1.length; omega⟩, ?_⟩
  show cnd (decide (GX.Fa.least (p.1.drop 0) f ≥ 1099511627776)) _ _
  rw [List.drop_zero]
  unfold smallF at h
  refine cnd_iff.2 ⟨fun hc => ?_, fun hc hl => ?_⟩
  · rw [if_pos (show GX.Fa.least p.1 f ≥ GX.Fa.NONE from of_decide_eq_true hc)] at h; exact h
  rw [if_neg (show ¬ GX.Fa.least p.1 f ≥ GX.Fa.NONE from of_decide_eq_false hc)] at h
  refine ⟨fun x l left fn => ∃ k : Nat, (k ≤ p.1.length ∧ x = k ∧ l.length = k) ∧ FOK fn ∧ bnd (2000000000000000 + (k : Int) * 5000000000) left ∧ smGo p.1 (GX.Fa.least p.1 f) f = l ++ smGo (p.1.drop k) left fn, fun x _ _ _ => (p.1.length - x).toNat,
    ⟨0, ⟨Nat.zero_le _, rfl, rfl⟩, hf, ⟨by show _ ≤ GX.Fa.least p.1 f; have := hL.1; omega, by show GX.Fa.least p.1 f ≤ _; have := hL.2; omega⟩, rfl⟩, ?_⟩
  rintro x l left fn ⟨k, ⟨hk, rfl, hlk⟩, hfn, hleft, heq⟩
  refine cnd_iff.2 ⟨fun hc => ?_, fun hc => ?_⟩
  · have hc : (k : Int) < p.1.length := of_decide_eq_true hc
    have hk : k < p.1.length := by omega
    have hw : IntKind.wrap .i64 ((k : Int) + 1) = k + 1 := wrapS (by omega) (by omega)
    obtain ⟨b, hb⟩ : ∃ b : BinT, b = p.1.getD k ((0, 0, 0, 0), (0, 0, 0, 0), 0, 0) := ⟨_, rfl⟩
    have hd : p.1.drop k = b :: p.1.drop (k + 1) := by rw [List.drop_eq_getElem_cons hk, hb, getD_lt hk]
    have hB := hp.b.drop k
    rw [hd] at hB
    obtain ⟨hb1, hr1⟩ := hB.cons
    refine ⟨by omega, by omega, hfn, fun pre best some found => (best, some, found) = pre.foldl (smStep b (p.1.drop (k + 1)) fn left) ([], NO4, false), rfl, ?_, ?_⟩
    · intro pre s rest hxs best some found hst
      have hst : (best, some, found) = pre.foldl (smStep b (p.1.drop (k + 1)) fn left) ([], NO4, false) := hst
      have hxs : GX.Fa.upTo fn = pre ++ s :: rest := hxs
      have hs : le4 s fn := (mem_upTo hfn).1 (by rw [hxs]; simp)
      have hsf := hs.fok hfn
      rw [hw]
      refine ⟨GX.Fa.fitsB b s, ⟨⟨by show BOK (p.1.getD k _); rw [← hb]; exact hb1, hsf⟩, by show GX.Fa.fitsB (p.1.getD k _) s = _; rw [← hb]⟩, cnd_iff.2 ⟨fun hfit => ?_, fun hfit => ?_⟩⟩
      · have hfit : GX.Fa.fitsB b s = false := by simpa using hfit
        show (best, some, found) = (pre ++ [s]).foldl _ _
        rw [fold_snoc, ← hst]
        unfold smStep
        rw [hfit]; rfl
      · have hfit : GX.Fa.fitsB b s = true := by simpa using hfit
        refine ⟨_, ⟨⟨by show BOK (p.1.getD k _); rw [← hb]; exact hb1, hsf⟩, rfl⟩, _, ⟨⟨hfn.bnd, hsf.bnd⟩, rfl⟩, _, ⟨⟨hp, hs.less hfn, by show 0 ≤ (k : Int) + 1; omega, by show (k : Int) + 1 ≤ p.1.length; omega⟩, rfl⟩, ?_⟩
        have hL := loss_bnd hb1 hsf
        have hR := least_bnd _ hr1 _ (hs.less hfn)
        simp only [GX.Fa.NONE] at hR
        have hn := hr1.n
        have e1 : IntKind.wrap .i64 (GX.Fa.lossV b s + GX.Fa.least (p.1.drop (k + 1)) (GX.Fa.less fn s)) = GX.Fa.lossV b s + GX.Fa.least (p.1.drop (k + 1)) (GX.Fa.less fn s) :=
          wrapS (by have := hL.1; have := hR.1; omega) (by have := hL.2; have := hR.2; omega)
        show cnd (IntKind.wrap .i64 (GX.Fa.lossV (p.1.getD k _) s + GX.Fa.least (p.1.drop (k + 1)) (GX.Fa.less fn s)) != left) ((best, some, found) = (pre ++ [s]).foldl _ _) _
        rw [← hb, e1, fold_snoc, ← hst]
        refine cnd_iff.2 ⟨fun hc2 => ?_, fun hc2 => ⟨hsf, ?_⟩⟩
        · unfold smStep
          rw [hfit, decide_eq_false (ne_of_bne hc2)]; rfl
        · show cnd (!found) ((listF s, s, true) = _) _
          have ee : smStep b (p.1.drop (k + 1)) fn left (best, some, found) s = if !found || decide (cmpL (listF s) best < 0) then (listF s, s, true) else (best, some, found) := by
            unfold smStep
            rw [hfit, decide_eq_true (eq_of_bne hc2)]; rfl
          simp only [fold_snoc, ← hst, ee]
          refine cnd_iff.2 ⟨fun hc3 => ?_, fun hc3 => ?_⟩
          · rw [hc3]; rfl
          · show cnd (decide (cmpL (listF s) best < 0)) _ _
            rw [hc3]
            refine cnd_iff.2 ⟨fun hc4 => ?_, fun hc4 => ?_⟩
            · rw [hc4]; rfl
            · rw [hc4]; rfl
    · intro best some found hst
      have hst : (best, some, found) = smPick b (p.1.drop (k + 1)) fn left := hst
      have hle := smPick_le4 (b := b) (r := p.1.drop (k + 1)) (left := left) hfn
      rw [← hst] at hle
      have hle : le4 some fn := hle
      have hL := loss_bnd hb1 (hle.fok hfn)
      have e1 : IntKind.wrap .i64 (left - GX.Fa.lossV b some) = left - GX.Fa.lossV b some := wrapS (by have := hL.2; have := hleft.1; omega) (by have := hL.1; have := hleft.2; omega)
      refine ⟨?_, _, ⟨⟨by show BOK (p.1.getD k _); rw [← hb]; exact hb1, hle.fok hfn⟩, rfl⟩, _, ⟨⟨hfn.bnd, (hle.fok hfn).bnd⟩, rfl⟩, ?_⟩
      · simp only [List.length_cons, List.length_nil]; omega
      · show (∃ k' : Nat, (_ ∧ IntKind.wrap .i64 ((k : Int) + 1) = k' ∧ _) ∧ _ ∧ bnd _ (IntKind.wrap .i64 (left - GX.Fa.lossV (p.1.getD k _) some)) ∧ _ = (l ++ [best]) ++ smGo _ (IntKind.wrap .i64 (left - GX.Fa.lossV (p.1.getD k _) some)) _) ∧ (_ - IntKind.wrap .i64 ((k : Int) + 1)).toNat < _
        rw [hw, ← hb, e1]
        refine ⟨⟨k + 1, ⟨by omega, by push_cast; rfl, by simp [hlk]⟩, hle.less hfn, ⟨by push_cast; have := hL.2; have := hleft.1; omega, by push_cast; have := hL.1; have := hleft.2; omega⟩, ?_⟩, by simp only; omega⟩
        rw [heq, hd, smGo, ← hst]
        simp only [List.append_assoc, List.singleton_append]
  · have hc : ¬ (k : Int) < p.1.length := of_decide_eq_false hc
    rw [heq, List.drop_eq_nil_of_le (by omega), smGo, List.append_nil] at h
    exact h
end Go.Proofs.Fa
set_option linter.unusedVariables false
namespace Go.Proofs.Fa
open Go Go.GX Go.Proofs

theorem forUpGSN {σ : Type} {n : Nat} {N : Int} (hN : N = n) (hn : n ≤ 9223372036854775807) (go : Nat → Prop) (F : Nat → σ) (h0 : go 0) {s0 : σ} (hs0 : s0 = F 0) {body : (Int → σ → Prop) → (Int → σ → Nat) → Int → σ → Prop}
    (hb : ∀ k : Nat, k < n → go k → ∀ (I : Int → σ → Prop) (μ : Int → σ → Nat), (go (k + 1) → I (k + 1 : Int) (F (k + 1)) ∧ μ (k + 1 : Int) (F (k + 1)) < μ k (F k)) → IntKind.wrap .i64 ((k : Int) + 1) = k + 1 → body I μ k (F k))
    {e : Int → σ → Prop} (he : go n → e n (F n)) :
    ∃ (I : Int → σ → Prop) (μ : Int → σ → Nat), I 0 s0 ∧ ∀ x s, I x s → cnd (decide (x < N)) (body I μ x s) (e x s) := by
  subst hN
  exact forUpGS hn go F h0 hs0 hb he
theorem pok {bs : List BinT} (h : BinsOK bs) : POK (bs, bs) := ⟨rfl, h⟩
theorem p67 {bs : List BinT} {f : FansT} {Q : List (List Int) × Int × Unit → Prop} (h : f67_wp (bs, f, ()) () Q) : V67 bs f Q := by
  obtain ⟨⟨hb, hf⟩, h⟩ := h
  have hb : BinsOK bs := hb
  have hf : FOK f := hf
  have h : Q ((listedF bs f).1, (listedF bs f).2, ()) := h
  refine ⟨hb.n, ⟨pok hb, hf, Int.le_refl _, by show (0 : Int) ≤ bs.length; omega⟩, ?_⟩
  show cnd (decide (GX.Fa.least bs f ≥ 1099511627776)) _ _
  unfold listedF at h
  refine cnd_iff.2 ⟨fun hc => ?_, fun hc => ⟨⟨pok hb, hf⟩, ?_⟩⟩
  · rw [if_pos (show GX.Fa.least bs f ≥ GX.Fa.NONE from of_decide_eq_true hc)] at h; exact h
  · rw [if_neg (show ¬ GX.Fa.least bs f ≥ GX.Fa.NONE from of_decide_eq_false hc)] at h; exact h
theorem p102 {f : FansT} {p q : Pk} {Q : Bool → Prop} (h : f102_wp f (p, q, ()) Q) : V102 f p q Q := by
  obtain ⟨⟨hp, hq, hf⟩, h⟩ := h
  have hp : POK p := hp
  have hq : POK q := hq
  have hf : FOK f := hf
  have h : Q (canF p.1 f && canF q.1 f) := h
  refine ⟨⟨hp, hf, Int.le_refl _, by show (0 : Int) ≤ p.1.length; omega⟩, ?_⟩
  show cnd (canF p.1 f) _ _
  cases hc : canF p.1 f with
  | true =>
    refine ⟨⟨hq, hf, Int.le_refl _, by show (0 : Int) ≤ q.1.length; omega⟩, ?_⟩
    rw [hc] at h
    exact h
  | false => rw [hc] at h; exact h
theorem p86 {x : Fashion} {Q : (FansT → (Bool → Prop) → Prop) → Prop} (h : f86_wp x () Q) : V86 x Q := by
  obtain ⟨hx, h⟩ := h
  have hx : XOK x := hx
  have h1 := hx.lvs b0 b0
  have h2 := hx.lts
  refine ⟨lvs x 0 0, ⟨hx, rfl⟩, (lvs x 0 0, lvs x 0 0), ⟨h1.n, rfl⟩, lts x, ⟨hx, rfl⟩, (lts x, lts x), ⟨h2.n, rfl⟩, h⟩
theorem says_hi (l : List (Int × Int)) : Says (fun (x : Int × Int) (Q : Int → Prop) => f66_wp x () fun (r : Int) => Q r) (fun s => s.2) l := fun x _ Q h => h
theorem p21 {s : Store} {f : List Spring} {Q : List (List Int) × Int × Unit → Prop} (h : f21_wp (s, f, ()) () Q) : V21 s f Q := by
  have h : Q ((resLeaves s f).1, (resLeaves s f).2, ()) := h
  unfold resLeaves at h
  show cnd (checkF s f != 0) _ _
  refine cnd_iff.2 ⟨fun hc => ?_, fun hc => ?_⟩
  · rw [if_pos (ne_of_bne hc)] at h; exact h
  have hc := eq_of_bne hc
  have v := vok_of hc
  rw [if_neg (by simpa using hc)] at h
  have hx := v.x v.cH
  refine ⟨fun s => s.2, ⟨v.f4, says_hi _⟩, _, ⟨hx, rfl⟩, _, ⟨v.f4, rfl⟩, _, ⟨⟨hx.lvs b0 b1, v.want⟩, rfl⟩, h⟩
theorem p29 {s : Store} {f : List Spring} {Q : List (List Int) × Int × Unit → Prop} (h : f29_wp (s, f, ()) () Q) : V29 s f Q := by
  have h : Q ((resLots s f).1, (resLots s f).2, ()) := h
  unfold resLots at h
  show cnd (checkF s f != 0) _ _
  refine cnd_iff.2 ⟨fun hc => ?_, fun hc => ?_⟩
  · rw [if_pos (ne_of_bne hc)] at h; exact h
  have hc := eq_of_bne hc
  have v := vok_of hc
  rw [if_neg (by simpa using hc)] at h
  have hx := v.x v.cH
  refine ⟨fun s => s.2, ⟨v.f4, says_hi _⟩, _, ⟨hx, rfl⟩, _, ⟨v.f4, rfl⟩, _, ⟨⟨hx.lts, v.want⟩, rfl⟩, h⟩
theorem p50 {s : Store} {f : List Spring} {Q : List Int × Int × Unit → Prop} (h : f50_wp (s, f, ()) () Q) : V50 s f Q := by
  have h : Q ((resMost s f).1, (resMost s f).2, ()) := h
  unfold resMost at h
  show cnd (checkF s f != 0) _ _
  refine cnd_iff.2 ⟨fun hc => ?_, fun hc => ?_⟩
  · rw [if_pos (ne_of_bne hc)] at h; exact h
  have hc := eq_of_bne hc
  have v := vok_of hc
  rw [if_neg (by simpa using hc)] at h
  have hx := v.x v.cH
  have hw := v.want
  refine ⟨fun s => s.2, ⟨v.f4, says_hi _⟩, hx, v.f4, hw, fun pre b => b = pre.foldl (mostStep (makesF (s, f, cH f))) NO4 ∧ le4 b (wantF f), ⟨rfl, le4_no hw⟩, ?_, ?_⟩
  · rintro pre t rest hxs b ⟨hb, hble⟩
    have hxs : GX.Fa.upTo (wantF f) = pre ++ t :: rest := hxs
    have ht : le4 t (wantF f) := (mem_upTo hw).1 (by rw [hxs]; simp)
    have htf := ht.fok hw
    have hbf := hble.fok hw
    have e0 : (pre ++ [t]).foldl (mostStep (makesF (s, f, cH f))) NO4 = mostStep (makesF (s, f, cH f)) b t := by rw [fold_snoc, ← hb]
    have go : ∀ b', mostStep (makesF (s, f, cH f)) b t = b' → le4 b' (wantF f) → b' = (pre ++ [t]).foldl (mostStep (makesF (s, f, cH f))) NO4 ∧ le4 b' (wantF f) := fun b' h1 h2 => ⟨by rw [e0, h1], h2⟩
    refine ⟨_, ⟨htf.bnd, rfl⟩, _, ⟨hbf.bnd, rfl⟩, ?_⟩
    show cnd (decide (sumF t < sumF b)) (_ ∧ _) (cnd (sumF t == sumF b) _ _)
    refine cnd_iff.2 ⟨fun h1 => go b ?_ hble, fun h1 => cnd_iff.2 ⟨fun h2 => ⟨by decide, by decide, by decide, by decide, by decide, by decide, _, rfl, ?_⟩, fun h2 => ⟨_, ⟨⟨pok (hx.lvs b0 b0), pok hx.lts, htf⟩, rfl⟩, cnd_iff.2 ⟨fun h3 => go b ?_ hble, fun h3 => go t ?_ ht⟩⟩⟩⟩
    · unfold mostStep; rw [h1]; rfl
    · show cnd (decide (cmpL (l4 t) (l4 b) ≤ 0)) (_ ∧ _) _
      refine cnd_iff.2 ⟨fun h3 => go b ?_ hble, fun h3 => ⟨_, ⟨⟨pok (hx.lvs b0 b0), pok hx.lts, htf⟩, rfl⟩, cnd_iff.2 ⟨fun h4 => go b ?_ hble, fun h4 => go t ?_ ht⟩⟩⟩
      · unfold mostStep; rw [h1, h2, h3]; rfl
      · have h4 : (!(makesF (s, f, cH f) t)) = true := h4
        unfold mostStep; rw [h1, h2, h3, h4]; rfl
      · have h4 : (!(makesF (s, f, cH f) t)) = false := h4
        unfold mostStep; rw [h1, h2, h3, h4]; rfl
    · have h3 : (!(makesF (s, f, cH f) t)) = true := h3
      unfold mostStep; rw [h1, h2, h3]; rfl
    · have h3 : (!(makesF (s, f, cH f) t)) = false := h3
      unfold mostStep; rw [h1, h2, h3]; rfl
  · rintro b ⟨hb, hble⟩ _
    refine ⟨by decide, by omega, by have := v.f4; omega, ?_, ?_⟩
    · show ((l4 b).take _).length ≤ 1000000
      rw [List.length_take]; simp [l4]; omega
    · have hb : b = mostF (makesF (s, f, cH f)) (wantF f) := hb
      rw [hb]
      exact h
theorem p83 {l : List Int} {f : List Spring} {Q : Bool → Prop} (h : f83_wp l (f, ()) Q) : V83 l f Q := by
  obtain ⟨hn, h⟩ := h
  have hn : f.length ≤ 100 := hn
  have h : Q (noneF f.length l) := h
  intro hl
  show cnd (!(l.all (inB 0 (IntKind.wrap .i64 ((f.length : Int) - 1))))) (Q true) (Q (!(sortedB l)))
  rw [wrapS (by omega) (by omega)]
  unfold noneF at h
  cases ha : !(l.all (inB 0 ((f.length : Int) - 1))) with
  | true => rw [ha] at h; exact h
  | false => rw [ha] at h; exact h
theorem p39 {s : Store} {f : List Spring} {Q : Int × Int × Int × Unit → Prop} (h : f39_wp (s, f, ()) () Q) : V39 s f Q := by
  have h : Q ((resLoss s f).1, (resLoss s f).2.1, (resLoss s f).2.2, ()) := h
  unfold resLoss at h
  show cnd (checkF s f != 0) _ _
  refine cnd_iff.2 ⟨fun hc => ?_, fun hc => ?_⟩
  · rw [if_pos (ne_of_bne hc)] at h; exact h
  have hc := eq_of_bne hc
  have v := vok_of hc
  rw [if_neg (by simpa using hc)] at h
  have hx := v.x v.cH
  have hs := v.sm
  have e : IntKind.wrap .i64 (Int.sub 0 s.2.1) = -s.2.1 := by
    have : Int.sub 0 s.2.1 = -s.2.1 := by show (0 : Int) - s.2.1 = _; omega
    rw [this, wrapS (by omega) (by omega)]
  have h1 : BinsOK (lvs (s, f, cH f) s.2.1 (-s.2.1)) := hx.lvs ⟨by omega, by omega⟩ ⟨by omega, by omega⟩
  refine ⟨fun s => s.2, ⟨v.f4, says_hi _⟩, lvs (s, f, cH f) s.2.1 (-s.2.1), ⟨hx, by rw [e]; rfl⟩, _, ⟨h1.n, rfl⟩, _, ⟨v.f4, rfl⟩, _, ⟨⟨pok h1, v.want, Int.le_refl _, by show (0 : Int) ≤ _; omega⟩, rfl⟩, _, ⟨hx, rfl⟩, _, ⟨hx.lts.n, rfl⟩, _, ⟨v.f4, rfl⟩, _, ⟨⟨pok hx.lts, v.want, Int.le_refl _, by show (0 : Int) ≤ _; omega⟩, rfl⟩, ?_⟩
  show cnd (decide (GX.Fa.least (lvs (s, f, cH f) s.2.1 (-s.2.1)) (wantF f) ≥ 549755813888)) _ (cnd (decide (GX.Fa.least (lts (s, f, cH f)) (wantF f) ≥ GX.Fa.NONE)) _ _)
  unfold lossF at h
  refine cnd_iff.2 ⟨fun h1 => ?_, fun h1 => cnd_iff.2 ⟨fun h2 => ?_, fun h2 => ?_⟩⟩
  · rw [if_pos (by rw [h1]; rfl)] at h; exact h
  · rw [if_pos (by rw [h1, h2]; rfl)] at h; exact h
  · rw [if_neg (by rw [h1, h2]; decide)] at h; exact h
theorem set4_put (t : FansT) (u : Int) : ∀ {k : Nat}, k < 4 → set4 t k u = put4 t k u
  | 0, _ => rfl
  | 1, _ => rfl
  | 2, _ => rfl
  | 3, _ => rfl
  | k + 4, h => absurd h (by omega)
theorem put4_all {p : Int → Prop} {t : FansT} {k : Nat} {u : Int} (ht : all4 p t) (hu : p u) : all4 p (put4 t k u) := by
  unfold put4
  refine all4_tup fun i hi => ?_
  split
  · exact hu
  · exact all4_at ht hi
theorem p41 {s : Store} {f : List Spring} {k : Int} {Q : Int × Int × Unit → Prop} (h : f41_wp (s, f, k, ()) () Q) : V41 s f k Q := by
  have h : Q ((resRise s f k).1, (resRise s f k).2, ()) := h
  unfold resRise at h
  show cnd (checkF s f != 0) _ _
  refine cnd_iff.2 ⟨fun hc => ?_, fun hc hl => ?_⟩
  · rw [if_pos (ne_of_bne hc)] at h; exact h
  have hc := eq_of_bne hc
  have v := vok_of hc
  rw [if_neg (by simpa using hc)] at h
  have hf4 := v.f4
  show cnd (!([k].all (inB 0 (IntKind.wrap .i64 ((f.length : Int) - 1))))) _ _
  rw [all_one, wrapS (by omega) (by omega)]
  refine cnd_iff.2 ⟨fun h1 => ?_, fun h1 => ?_⟩
  · rw [if_pos (by simpa using h1)] at h; exact h
  have h1 : inB 0 ((f.length : Int) - 1) k = true := by simpa using h1
  rw [if_neg (by rw [h1]; simp)] at h
  have hk := inB_iff.1 h1
  obtain ⟨j, rfl⟩ := Int.eq_ofNat_of_zero_le hk.1
  have hj : j < 4 := by omega
  rw [Int.toNat_natCast] at h
  refine ⟨fun x => ∃ n : Nat, x = n ∧ n ≤ 40 ∧ riseGo s f j 40 = riseGo s f j n, fun x => x.toNat, ⟨40, rfl, by omega, rfl⟩, ?_⟩
  rintro x ⟨n, rfl, hn, heq⟩
  refine cnd_iff.2 ⟨fun h2 => ?_, fun h2 => ?_⟩
  · have h2 : (n : Int) ≥ 2 := of_decide_eq_true h2
    obtain ⟨m, rfl⟩ : ∃ m, n = m + 1 := ⟨n - 1, by omega⟩
    have hx : XOK (s, f, put4 (cH f) j ((m + 1 : Nat) : Int)) := v.x (put4_all v.cH ⟨by omega, by omega⟩)
    refine ⟨fun s => s.2, ⟨v.f4, says_hi _⟩, by omega, by omega, ?_⟩
    show ∃ r, (f86_wp (s, f, set4 (cH f) j ((m + 1 : Nat) : Int)) () fun r' => r' = r) ∧ ∃ r2, (f69_wp (s, f, set4 (cH f) j ((m + 1 : Nat) : Int)) () fun r' => r' = r2) ∧ _
    rw [set4_put _ _ hj]
    refine ⟨_, ⟨hx, rfl⟩, _, ⟨v.f4, rfl⟩, _, ⟨⟨pok (hx.lvs b0 b0), pok hx.lts, v.want⟩, rfl⟩, ?_⟩
    show cnd (riseOK s f j ((m + 1 : Nat) : Int)) _ _
    have er : riseGo s f j (m + 1) = if riseOK s f j ((m + 1 : Nat) : Int) then (((m + 1 : Nat) : Int), 0) else riseGo s f j m := by
      rw [riseGo, if_neg (by omega)]
    rw [heq, er] at h
    refine cnd_iff.2 ⟨fun h3 => ?_, fun h3 => ?_⟩
    · rw [if_pos h3] at h; exact h
    · have hw : IntKind.wrap .i64 (((m + 1 : Nat) : Int) - 1) = m := by rw [wrapS (by omega) (by omega)]; push_cast; omega
      rw [hw]
      refine ⟨⟨m, rfl, by omega, ?_⟩, by show (m : Int).toNat < ((m + 1 : Nat) : Int).toNat; omega⟩
      rw [heq, er, if_neg (by rw [h3]; simp)]
  · have h2 : ¬ (n : Int) ≥ 2 := of_decide_eq_false h2
    rw [heq] at h
    have : riseGo s f j n = (0, 9) := by
      match n, h2 with
      | 0, _ => rfl
      | 1, _ => rfl
      | n + 2, h2 => omega
    rw [this] at h
    exact h
theorem p31 {s : Store} {f : List Spring} {p : Int} {Q : Int × Int × Unit → Prop} (h : f31_wp (s, f, p, ()) () Q) : V31 s f p Q := by
  have h : Q ((resNew s f p).1, (resNew s f p).2, ()) := h
  unfold resNew at h
  show cnd (checkF s f != 0) _ _
  refine cnd_iff.2 ⟨fun hc => ?_, fun hc => ?_⟩
  · rw [if_pos (ne_of_bne hc)] at h; exact h
  have hc := eq_of_bne hc
  have v := vok_of hc
  rw [if_neg (by simpa using hc)] at h
  show cnd (!(inB 1 200 p)) _ _
  refine cnd_iff.2 ⟨fun h1 => ?_, fun h1 => ?_⟩
  · rw [if_pos (by simpa using h1)] at h; exact h
  have h1 : inB 1 200 p = true := by simpa using h1
  rw [if_neg (by rw [h1]; simp)] at h
  have hp := inB_iff.1 h1
  have hw4 := v.want4
  have hN : 0 ≤ sumF (wantF f) ∧ sumF (wantF f) ≤ 16 := by
    obtain ⟨⟨g1, g1'⟩, ⟨g2, g2'⟩, ⟨g3, g3'⟩, ⟨g4, g4'⟩⟩ := hw4
    unfold sumF; omega
  obtain ⟨N, hNe⟩ := Int.eq_ofNat_of_zero_le hN.1
  refine ⟨fun s => s.2, ⟨v.f4, says_hi _⟩, by have := v.n6; omega, v.f4, v.want.bnd, ?_⟩
  have hw : IntKind.wrap .i64 (sumF (wantF f) + 1) = ((N + 1 : Nat) : Int) := by rw [hNe, wrapS (by omega) (by omega)]; push_cast; rfl
  have hf : newF s f p = match (List.range (N + 1)).find? (newOK s f p) with | some n => ((n : Int), 0) | none => (0, 9) := by
    unfold newF; rw [hNe]; rfl
  refine forUpGSN (σ := List Int × Int × List Lot × List Spring × FansT) (n := N + 1) hw (by omega) (fun k => ∀ m, m < k → newOK s f p m = false) (fun k => (s.1 ++ List.replicate k p, s.2.1, s.2.2, f, cH f)) (fun m hm => absurd hm (Nat.not_lt_zero _)) (by simp; rfl) (fun k hk hg I μ hI hw => ?_) (fun hg => ?_)
  · have hlv : ∀ l, l ∈ s.1 ++ List.replicate k p → bnd 400 l := fun l hl => by
      rcases List.mem_append.1 hl with h2 | h2
      · have := v.lv l h2; exact ⟨by omega, by omega⟩
      · rw [List.eq_of_mem_replicate h2]; exact ⟨by omega, by omega⟩
    have hln : (s.1 ++ List.replicate k p).length ≤ 500 := by have := v.n6; rw [List.length_append, List.length_replicate]; omega
    have hx0 := v.x v.cH
    have hx : XOK ((s.1 ++ List.replicate k p, s.2.1, s.2.2), f, cH f) := ⟨hx0.n, hln, hx0.nt, hlv, hx0.sm, hx0.lt, hx0.sp, hx0.ct⟩
    have hB := hx.lvs b0 b0
    refine ⟨_, ⟨hx, rfl⟩, _, ⟨hB.n, rfl⟩, _, ⟨v.f4, rfl⟩, _, ⟨⟨pok hB, v.want, Int.le_refl _, by show (0 : Int) ≤ _; omega⟩, rfl⟩, ?_⟩
    show cnd (newOK s f p k) _ _
    refine cnd_iff.2 ⟨fun h2 => ?_, fun h2 => ⟨?_, ?_⟩⟩
    · have : (List.range (N + 1)).find? (newOK s f p) = some k := by
        rw [List.find?_range_eq_some]
        exact ⟨h2, List.mem_range.2 hk, fun j hj => by rw [hg j hj]; rfl⟩
      rw [hf, this] at h
      exact h
    · have := hln
      simp only [List.length_cons, List.length_nil]
      omega
    · rw [hw]
      have e : s.1 ++ List.replicate k p ++ [p] = s.1 ++ List.replicate (k + 1) p := by rw [List.append_assoc, ← List.replicate_succ']
      show I _ (s.1 ++ List.replicate k p ++ [p], s.2.1, s.2.2, f, cH f) ∧ μ _ (s.1 ++ List.replicate k p ++ [p], s.2.1, s.2.2, f, cH f) < _
      rw [e]
      refine hI fun m hm => ?_
      rcases Nat.lt_succ_iff_lt_or_eq.1 hm with h3 | rfl
      · exact hg m h3
      · exact h2
  · have : (List.range (N + 1)).find? (newOK s f p) = none := by
      rw [List.find?_eq_none]
      intro m hm
      rw [hg m (List.mem_range.1 hm)]; simp
    rw [hf, this] at h
    exact h
end Go.Proofs.Fa
set_option linter.unusedVariables false
namespace Go.Proofs.Fa
open Go Go.GX Go.Proofs

theorem for4b {body : (Int → Int → Prop) → (Int → Int → Nat) → Int → Int → Prop} (F : Nat → Int) {s0 : Int} (h0 : s0 = F 0)
    (hb : ∀ k : Nat, k < 4 → ∀ (I : Int → Int → Prop) (μ : Int → Int → Nat), (I (k + 1 : Int) (F (k + 1)) ∧ μ (k + 1 : Int) (F (k + 1)) < μ k (F k)) → IntKind.wrap .i64 ((k : Int) + 1) = k + 1 → body I μ k (F k))
    {e : Int → Int → Prop} (he : e 4 (F 4)) :
    ∃ (I : Int → Int → Prop) (μ : Int → Int → Nat), I 0 s0 ∧ ∀ x s, I x s → cnd (decide (x < 4)) (body I μ x s) (e x s) := for4 F h0 hb he
theorem needS_bnd {c w : FansT} {seam ck : Int} (hc : all4 (fun x => 0 ≤ x ∧ x ≤ 40) c) (hw : all4 (fun x => 0 ≤ x ∧ x ≤ 4) w) (hs : 0 ≤ seam ∧ seam ≤ 10) : ∀ {k : Nat}, k ≤ 4 → 0 ≤ needS c w seam ck k ∧ needS c w seam ck k ≤ (k : Int) * 200
  | 0, _ => ⟨Int.le_refl _, by simp [needS]⟩
  | k + 1, h => by
    have ih := needS_bnd hc hw hs (ck := ck) (k := k) (by omega)
    have h1 := all4_at hc (k := k) (by omega)
    have h2 := all4_at hw (k := k) (by omega)
    have h1 : 0 ≤ at4 c k ∧ at4 c k ≤ 40 := h1
    have h2 : 0 ≤ at4 w k ∧ at4 w k ≤ 4 := h2
    have h3 : 0 ≤ at4 w k * (at4 c k + seam) := Int.mul_nonneg h2.1 (by omega)
    have h4 : at4 w k * (at4 c k + seam) ≤ 4 * 50 := Int.mul_le_mul h2.2 (by omega) (by omega) (by omega)
    simp only [needS]
    push_cast
    split <;> omega
theorem hasS_succ {ls : List Int} {seam ck : Int} {k : Nat} (hk : k < ls.length) : hasS (ls.take (k + 1)) seam ck = if ls.getD k 0 ≥ ck then hasS (ls.take k) seam ck + (ls.getD k 0 + seam) else hasS (ls.take k) seam ck := by
  unfold hasS
  rw [List.take_add_one, List.foldl_append, List.getElem?_eq_getElem hk, getD_lt hk]
  rfl
theorem hasS_bnd {ls : List Int} {seam ck : Int} (hl : ∀ l, l ∈ ls → 1 ≤ l ∧ l ≤ 200) (hs : 0 ≤ seam ∧ seam ≤ 10) : ∀ {k : Nat}, k ≤ ls.length → 0 ≤ hasS (ls.take k) seam ck ∧ hasS (ls.take k) seam ck ≤ (k : Int) * 210
  | 0, _ => ⟨Int.le_refl _, by simp [hasS]⟩
  | k + 1, h => by
    have ih := hasS_bnd hl hs (ck := ck) (k := k) (by omega)
    have h1 := hl _ (getD_mem (d := 0) (show k < ls.length by omega))
    rw [hasS_succ (by omega)]
    push_cast
    split <;> omega
def boundS (s : Store) (f : List Spring) (p : Int) (k : Nat) : Int × Int := (List.range k).foldl (boundStep s f p) (0, 0)
theorem boundS_succ (s : Store) (f : List Spring) (p : Int) (k : Nat) : boundS s f p (k + 1) = boundStep s f p (boundS s f p k) k := by
  unfold boundS; rw [List.range_succ, List.foldl_append]; rfl
theorem p34 {s : Store} {f : List Spring} {p : Int} {Q : Int × Int × Int × Unit → Prop} (h : f34_wp (s, f, p, ()) () Q) : V34 s f p Q := by
  have h : Q ((resBound s f p).1, (resBound s f p).2.1, (resBound s f p).2.2, ()) := h
  unfold resBound at h
  show cnd (checkF s f != 0) _ _
  refine cnd_iff.2 ⟨fun hc => ?_, fun hc => ?_⟩
  · rw [if_pos (ne_of_bne hc)] at h; exact h
  have hc := eq_of_bne hc
  have v := vok_of hc
  rw [if_neg (by simpa using hc)] at h
  show cnd (!(inB 1 200 p)) _ _
  refine cnd_iff.2 ⟨fun h1 => ?_, fun h1 => ?_⟩
  · rw [if_pos (by simpa using h1)] at h; exact h
  have h1 : inB 1 200 p = true := by simpa using h1
  rw [if_neg (by rw [h1]; simp)] at h
  have hp := inB_iff.1 h1
  have hs := v.sm
  have hf4 := v.f4
  have hn6 := v.n6
  refine ⟨(s, f, cH f), ⟨fun s => s.2, ⟨v.f4, says_hi _⟩, rfl⟩, fun hl => ?_⟩
  refine forUp2 (σ := Int) (τ := Int) (n := f.length) hl (fun k => (boundS s f p k).1) (fun k => (boundS s f p k).2) rfl rfl (fun k hk I μ hI hw => ⟨v.f4, ?_⟩) h
  have hk4 : k < 4 := by omega
  refine for4b (needS (cH f) (wantF f) s.2.1 (at4 (cH f) k)) rfl (fun i hi I μ hI hw => ?_) ?_
  · refine ⟨by omega, by omega, by omega, by omega, by omega, by omega, ?_⟩
    rw [hw]
    show cnd (decide (at4L (cH f) i ≥ at4L (cH f) k)) (_ ∧ _ ∧ I _ (IntKind.wrap .i64 (_ + IntKind.wrap .i64 (at4L (wantF f) i * IntKind.wrap .i64 (at4L (cH f) i + s.2.1)))) ∧ μ _ (IntKind.wrap .i64 (_ + IntKind.wrap .i64 (at4L (wantF f) i * IntKind.wrap .i64 (at4L (cH f) i + s.2.1)))) < _) _
    rw [at4_L _ hi, at4_L _ hi, at4_L _ hk4]
    have b1 := needS_bnd (ck := at4 (cH f) k) v.cH v.want4 hs (k := i) (by omega)
    have g1 : 0 ≤ at4 (cH f) i ∧ at4 (cH f) i ≤ 40 := all4_at v.cH hi
    have g2 : 0 ≤ at4 (wantF f) i ∧ at4 (wantF f) i ≤ 4 := all4_at v.want4 hi
    have h3 : 0 ≤ at4 (wantF f) i * (at4 (cH f) i + s.2.1) := Int.mul_nonneg g2.1 (by omega)
    have h4 : at4 (wantF f) i * (at4 (cH f) i + s.2.1) ≤ 4 * 50 := Int.mul_le_mul g2.2 (by omega) (by omega) (by omega)
    rw [wrapS (x := at4 (cH f) i + s.2.1) (by omega) (by omega), wrapS (x := at4 (wantF f) i * (at4 (cH f) i + s.2.1)) (by omega) (by omega), wrapS (x := needS _ _ _ _ i + _) (by omega) (by omega)]
    simp only [needS] at hI
    refine cnd_iff.2 ⟨fun h5 => ⟨by omega, by omega, ?_⟩, fun h5 => ?_⟩
    · rw [if_pos (of_decide_eq_true h5)] at hI; exact hI
    · rw [if_neg (of_decide_eq_false h5), Int.add_zero] at hI; exact hI
  intro hl2
  have bN := needS_bnd (ck := at4 (cH f) k) v.cH v.want4 hs (k := 4) (by omega)
  refine forUp (σ := Int) (n := s.1.length) hl2 (fun j => needS (cH f) (wantF f) s.2.1 (at4 (cH f) k) 4 - hasS (s.1.take j) s.2.1 (at4 (cH f) k)) (by simp [hasS]) (fun j hj I μ hI hw => ?_) ?_
  · refine ⟨by omega, by omega, by omega, by omega, ?_⟩
    rw [hw]
    show cnd (decide (s.1.getD j 0 ≥ at4L (cH f) k)) _ _
    rw [at4_L _ hk4]
    have bH := hasS_bnd (ck := at4 (cH f) k) v.lv hs (k := j) (by omega)
    have hg := v.lv _ (getD_mem (d := 0) hj)
    simp only [hasS_succ hj] at hI
    show cnd _ (I _ (IntKind.wrap .i64 (_ - IntKind.wrap .i64 (s.1.getD j 0 + s.2.1))) ∧ μ _ (IntKind.wrap .i64 (_ - IntKind.wrap .i64 (s.1.getD j 0 + s.2.1))) < _) _
    rw [wrapS (x := s.1.getD j 0 + s.2.1) (by omega) (by omega), wrapS (by omega) (by omega)]
    refine cnd_iff.2 ⟨fun h5 => ?_, fun h5 => ?_⟩
    · rw [if_pos (of_decide_eq_true h5)] at hI
      rw [show needS (cH f) (wantF f) s.2.1 (at4 (cH f) k) 4 - (hasS (s.1.take j) s.2.1 (at4 (cH f) k) + (s.1.getD j 0 + s.2.1)) = needS (cH f) (wantF f) s.2.1 (at4 (cH f) k) 4 - hasS (s.1.take j) s.2.1 (at4 (cH f) k) - (s.1.getD j 0 + s.2.1) by omega] at hI
      exact hI
    · rw [if_neg (of_decide_eq_false h5)] at hI; exact hI
  · have bH := hasS_bnd (ck := at4 (cH f) k) v.lv hs (k := s.1.length) (by omega)
    rw [List.take_length] at bH
    simp only [List.take_length]
    have e1 : IntKind.wrap .i64 (p + s.2.1) = p + s.2.1 := wrapS (by omega) (by omega)
    rw [hw, e1]
    have hm : 0 ≤ mxI 0 (missB s f k) ∧ mxI 0 (missB s f k) ≤ 800 := by
      unfold mxI missB
      split <;> omega
    have e2 : IntKind.wrap .i64 (mxI 0 (missB s f k) + (p + s.2.1)) = mxI 0 (missB s f k) + (p + s.2.1) := wrapS (by omega) (by omega)
    have e3 : IntKind.wrap .i64 (mxI 0 (missB s f k) + (p + s.2.1) - 1) = mxI 0 (missB s f k) + (p + s.2.1) - 1 := wrapS (by omega) (by omega)
    have hd : 0 ≤ boundN s f p k ∧ boundN s f p k ≤ 100000 := by
      unfold boundN
      rw [Int.tdiv_eq_ediv_of_nonneg (by omega)]
      refine ⟨Int.ediv_nonneg (by omega) (by omega), ?_⟩
      have := Int.ediv_le_self (a := mxI 0 (missB s f k) + (p + s.2.1) - 1) (p + s.2.1) (by omega)
      omega
    have e4 : IntKind.wrap .i64 (boundN s f p k) = boundN s f p k := wrapS (by omega) (by omega)
    refine ⟨by omega, ?_⟩
    show cnd (decide (IntKind.wrap .i64 (Int.tdiv (IntKind.wrap .i64 (IntKind.wrap .i64 (mxI 0 (missB s f k) + (p + s.2.1)) - 1)) (p + s.2.1)) > _)) (I _ (IntKind.wrap .i64 (Int.tdiv (IntKind.wrap .i64 (IntKind.wrap .i64 (mxI 0 (missB s f k) + (p + s.2.1)) - 1)) (p + s.2.1))) _ ∧ μ _ (IntKind.wrap .i64 (Int.tdiv (IntKind.wrap .i64 (IntKind.wrap .i64 (mxI 0 (missB s f k) + (p + s.2.1)) - 1)) (p + s.2.1))) _ < _) _
    rw [e2, e3]
    show cnd (decide (IntKind.wrap .i64 (boundN s f p k) > _)) (I _ (IntKind.wrap .i64 (boundN s f p k)) _ ∧ μ _ (IntKind.wrap .i64 (boundN s f p k)) _ < _) _
    rw [e4]
    simp only [boundS_succ, boundStep] at hI
    refine cnd_iff.2 ⟨fun h5 => ?_, fun h5 => ?_⟩
    · rw [if_pos (of_decide_eq_true h5)] at hI; exact hI
    · rw [if_neg (of_decide_eq_false h5)] at hI; exact hI

theorem restGo_none {f : List Spring} {seam : Int} {a : List Int} : ∀ {b : List Int} {first : Bool} {left : Int}, restGo f seam b first left = none → restGo f seam (b ++ a) first left = none
  | [], _, _, h => by cases h
  | sp :: b, first, left, h => by
    simp only [restGo, List.cons_append] at h ⊢
    split
    · rfl
    · rename_i hh
      rw [if_neg hh] at h
      exact restGo_none h

theorem restGo_snoc {f : List Spring} {seam : Int} {x : Int} : ∀ {b : List Int} {first : Bool} {left l : Int}, restGo f seam b first left = some l →
    restGo f seam (b ++ [x]) first left = (if restNx f seam x (first && b.isEmpty) l < 0 then none else some (restNx f seam x (first && b.isEmpty) l))
  | [], first, left, l, h => by
    cases h
    simp only [List.nil_append, restGo, List.isEmpty_nil, Bool.and_true]
  | sp :: b, first, left, l, h => by
    simp only [restGo, List.cons_append] at h ⊢
    split at h
    · cases h
    · rename_i hh
      rw [if_neg hh, restGo_snoc h]
      simp only [List.isEmpty_cons, Bool.and_false, Bool.false_and]
theorem restGo_bnd {f : List Spring} {seam : Int} (hf : ∀ s, s ∈ f → 0 ≤ s.1.2) (hs : 0 ≤ seam) : ∀ {b : List Int} {first : Bool} {left l : Int}, 0 ≤ left → restGo f seam b first left = some l → 0 ≤ l ∧ l ≤ left
  | [], first, left, l, h0, h => by cases h; exact ⟨h0, Int.le_refl _⟩
  | sp :: b, first, left, l, h0, h => by
    simp only [restGo] at h
    split at h
    · cases h
    · rename_i hh
      have := restGo_bnd hf hs (by omega) h
      have g : 0 ≤ (f.getD sp.toNat ((0, 0), 0, 0)).1.2 := by
        by_cases hl : sp.toNat < f.length
        · exact hf _ (getD_mem hl)
        · rw [List.getD_eq_getElem?_getD, List.getElem?_eq_none (by omega)]; exact Int.le_refl _
      unfold restNx at this
      split at this <;> omega
theorem restAll_snoc {f : List Spring} {seam : Int} : ∀ {ls : List Int} {c : List (List Int)} {k : Nat} {out : List Int}, k < c.length → c.length = ls.length → restAll f seam (ls.take k) (c.take k) = some out →
    restAll f seam (ls.take (k + 1)) (c.take (k + 1)) = (restOne f seam (ls.getD k 0) (c.getD k [])).map fun x => out ++ [x]
  | [], c, k, out, hk, hl, h => by rw [List.length_nil] at hl; omega
  | leaf :: ls, [], k, out, hk, hl, h => by simp at hk
  | leaf :: ls, l :: c, 0, out, hk, hl, h => by
    cases h
    simp only [List.take_succ_cons, List.take_zero, restAll, List.getD_cons_zero]
    cases restOne f seam leaf l <;> rfl
  | leaf :: ls, l :: c, k + 1, out, hk, hl, h => by
    simp only [List.take_succ_cons, restAll, List.getD_cons_succ] at h ⊢
    cases hr : restOne f seam leaf l with
    | none => rw [hr] at h; cases h
    | some x =>
      rw [hr] at h
      simp only [List.take_succ_cons, restAll, List.getD_cons_succ] at h ⊢
      cases ha : restAll f seam (ls.take k) (c.take k) with
      | none => rw [ha] at h; cases h
      | some o =>
        rw [ha] at h
        cases h
        rw [restAll_snoc (by simpa using hk) (by simpa using hl) ha]
        cases restOne f seam (ls.getD k 0) (c.getD k []) <;> rfl
theorem restAll_none {f : List Spring} {seam : Int} : ∀ {ls : List Int} {c : List (List Int)} {k : Nat}, c.length = ls.length → restAll f seam (ls.take k) (c.take k) = none → restAll f seam ls c = none
  | [], c, k, hl, h => by
    obtain rfl : c = [] := by cases c with | nil => rfl | cons a r => simp at hl
    simpa using h
  | leaf :: ls, [], k, hl, h => by simp at hl
  | leaf :: ls, l :: c, 0, hl, h => by cases h
  | leaf :: ls, l :: c, k + 1, hl, h => by
    simp only [List.take_succ_cons, restAll] at h ⊢
    cases hr : restOne f seam leaf l with
    | none => rfl
    | some x =>
      rw [hr] at h
      simp only at h ⊢
      cases ha : restAll f seam (ls.take k) (c.take k) with
      | none => rw [restAll_none (by simpa using hl) ha]; rfl
      | some o => rw [ha] at h; cases h
theorem take_snoc {α : Type} {l : List α} {k : Nat} (hk : k < l.length) (d : α) : l.take (k + 1) = l.take k ++ [l.getD k d] := by
  rw [List.take_add_one, List.getElem?_eq_getElem hk, getD_lt hk]; rfl
theorem p36 {s : Store} {f : List Spring} {c : List (List Int)} {Q : List Int × Int × Unit → Prop} (h : f36_wp (s, f, c, ()) () Q) : V36 s f c Q := by
  have h : Q ((resRest s f c).1, (resRest s f c).2, ()) := h
  unfold resRest at h
  show cnd (checkF s f != 0) _ _
  refine cnd_iff.2 ⟨fun hc => ?_, fun hc _ _ => ?_⟩
  · rw [if_pos (ne_of_bne hc)] at h; exact h
  have hc := eq_of_bne hc
  have v := vok_of hc
  rw [if_neg (by simpa using hc)] at h
  have hs := v.sm
  have hf4 := v.f4
  have hn6 := v.n6
  unfold restF at h
  refine cnd_iff.2 ⟨fun h1 => ?_, fun h1 => ?_⟩
  · have h1 : (c.length : Int) ≠ s.1.length := ne_of_bne h1
    rw [if_pos (.inl (by omega))] at h; exact h
  have h1 : (c.length : Int) = s.1.length := eq_of_bne h1
  have hcl : c.length = s.1.length := by omega
  refine ⟨noneF f.length, fun l _ Q h => ⟨by show f.length ≤ 100; omega, h⟩, cnd_iff.2 ⟨fun h2 => ?_, fun h2 _ => ?_⟩⟩
  · rw [if_pos (.inr h2)] at h; exact h
  have h2 : c.any (noneF f.length) = false := h2
  rw [if_neg (by rw [h2]; simp [hcl])] at h
  have hin : ∀ k, k < c.length → ∀ j, j < (c.getD k []).length → 0 ≤ (c.getD k []).getD j 0 ∧ (c.getD k []).getD j 0 ≤ (f.length : Int) - 1 := by
    intro k hk j hj
    have := (List.any_eq_false.1 h2) _ (getD_mem (d := []) hk)
    simp only [noneF, Bool.or_eq_true, not_or] at this
    have h3 : (c.getD k []).all (inB 0 ((f.length : Int) - 1)) = true := by
      have := this.1
      cases hh : (c.getD k []).all (inB 0 ((f.length : Int) - 1)) with
      | true => rfl
      | false => rw [hh] at this; simp at this
    exact inB_iff.1 (all_iff.1 h3 _ (getD_mem hj))
  refine ⟨fun x out => ∃ k : Nat, (k ≤ c.length ∧ x = k ∧ out.length = k) ∧ restAll f s.2.1 (s.1.take k) (c.take k) = some out, fun x _ => (c.length - x).toNat, ⟨0, ⟨Nat.zero_le _, rfl, rfl⟩, by cases c <;> cases s.1 <;> rfl⟩, ?_⟩
  rintro x out ⟨k, ⟨hk, rfl, hol⟩, hout⟩
  refine cnd_iff.2 ⟨fun h3 => ?_, fun h3 => ?_⟩
  · have h3 : (k : Int) < c.length := of_decide_eq_true h3
    have hk : k < c.length := by omega
    refine ⟨by omega, by omega, by omega, by omega, fun hl => ?_⟩
    have hleaf := v.lv _ (getD_mem (d := 0) (show k < s.1.length by omega))
    have hsn := restAll_snoc hk hcl hout
    have hnn : restOne f s.2.1 (s.1.getD k 0) (c.getD k []) = none → restAll f s.2.1 s.1 c = none := fun hh => restAll_none (k := k + 1) hcl (by rw [hsn, hh]; rfl)
    have hfs : ∀ s, s ∈ f → 0 ≤ s.1.2 := fun s hs => by have := v.sp s hs; omega
    refine forUpGS2 (n := (c.getD k []).length) hl (fun j left out' => out' = out ∧ restGo f s.2.1 ((c.getD k []).take j) true (s.1.getD k 0) = some left) ⟨rfl, by simp [restGo]⟩ (fun j hj left out' hg I μ hI hw => ?_) (fun left out' hg _ => ?_)
    · obtain ⟨rfl, hg⟩ := hg
      have hij := hin k hk j hj
      have hb := restGo_bnd hfs hs.1 (by omega) hg
      have hsp : (f.getD ((c.getD k []).getD j 0).toNat ((0, 0), 0, 0)).1.2 ≤ 40 ∧ 0 ≤ (f.getD ((c.getD k []).getD j 0).toNat ((0, 0), 0, 0)).1.2 := by
        have := v.getS (i := ((c.getD k []).getD j 0).toNat) (by omega)
        omega
      have hstep := restGo_snoc (x := (c.getD k []).getD j 0) hg
      rw [← take_snoc hj 0] at hstep
      refine ⟨by omega, by show (j : Int) < ((c.getD k []).length : Int); omega, hij.1, by show (c.getD k []).getD j 0 < (f.length : Int); omega, ?_⟩
      rw [hw]
      have e1 : IntKind.wrap .i64 (left - (f.getD ((c.getD k []).getD j 0).toNat ((0, 0), 0, 0)).1.2) = left - (f.getD ((c.getD k []).getD j 0).toNat ((0, 0), 0, 0)).1.2 := wrapS (by omega) (by omega)
      have e2 : IntKind.wrap .i64 (left - (f.getD ((c.getD k []).getD j 0).toNat ((0, 0), 0, 0)).1.2 - s.2.1) = left - (f.getD ((c.getD k []).getD j 0).toNat ((0, 0), 0, 0)).1.2 - s.2.1 := wrapS (by omega) (by omega)
      show cnd (decide ((j : Int) > 0)) (cnd (decide (IntKind.wrap .i64 (IntKind.wrap .i64 (left - (f.getD ((c.getD k []).getD j 0).toNat ((0, 0), 0, 0)).1.2) - s.2.1) < 0)) _ (I _ (IntKind.wrap .i64 (IntKind.wrap .i64 (left - (f.getD ((c.getD k []).getD j 0).toNat ((0, 0), 0, 0)).1.2) - s.2.1)) _ ∧ μ _ (IntKind.wrap .i64 (IntKind.wrap .i64 (left - (f.getD ((c.getD k []).getD j 0).toNat ((0, 0), 0, 0)).1.2) - s.2.1)) _ < _))
        (cnd (decide (IntKind.wrap .i64 (left - (f.getD ((c.getD k []).getD j 0).toNat ((0, 0), 0, 0)).1.2) < 0)) _ (I _ (IntKind.wrap .i64 (left - (f.getD ((c.getD k []).getD j 0).toNat ((0, 0), 0, 0)).1.2)) _ ∧ μ _ (IntKind.wrap .i64 (left - (f.getD ((c.getD k []).getD j 0).toNat ((0, 0), 0, 0)).1.2)) _ < _))
      rw [e1, e2]
      have out9 : restGo f s.2.1 ((c.getD k []).take (j + 1)) true (s.1.getD k 0) = none → Q ([], 9, ()) := fun hh => by
        have h4 : restOne f s.2.1 (s.1.getD k 0) (c.getD k []) = none := by
          have := restGo_none (a := (c.getD k []).drop (j + 1)) hh
          rw [List.take_append_drop] at this
          unfold restOne; rw [this]; rfl
        rw [hnn h4] at h; exact h
      have hemp : ((c.getD k []).take j).isEmpty = decide (j = 0) := by
        cases j with
        | zero => rfl
        | succ j =>
          cases hh : (c.getD k []).take (j + 1) with
          | nil => have := congrArg List.length hh; rw [List.length_take, List.length_nil] at this; omega
          | cons a r => rfl
      rw [hemp] at hstep
      refine cnd_iff.2 ⟨fun h4 => ?_, fun h4 => ?_⟩
      · have h4 : (j : Int) > 0 := of_decide_eq_true h4
        have h5 : ¬ j = 0 := by omega
        simp only [h5, decide_false, Bool.and_false, restNx, Bool.false_eq_true, if_false] at hstep
        refine cnd_iff.2 ⟨fun h6 => ?_, fun h6 => hI _ _ ⟨rfl, ?_⟩⟩
        · rw [if_pos (of_decide_eq_true h6)] at hstep; exact out9 hstep
        · rw [if_neg (of_decide_eq_false h6)] at hstep; exact hstep
      · have h4 : ¬ (j : Int) > 0 := of_decide_eq_false h4
        have h5 : j = 0 := by omega
        simp only [h5, decide_true, Bool.and_true, restNx, if_true, Int.sub_zero] at hstep
        subst h5
        refine cnd_iff.2 ⟨fun h6 => ?_, fun h6 => hI _ _ ⟨rfl, ?_⟩⟩
        · rw [if_pos (of_decide_eq_true h6)] at hstep; exact out9 hstep
        · rw [if_neg (of_decide_eq_false h6)] at hstep; exact hstep
    · obtain ⟨rfl, hg⟩ := hg
      rw [List.take_length] at hg
      have hb := restGo_bnd hfs hs.1 (by omega) hg
      have hw2 : IntKind.wrap .i64 ((k : Int) + 1) = k + 1 := wrapS (by omega) (by omega)
      have e3 : IntKind.wrap .i64 (left - s.2.1) = left - s.2.1 := wrapS (by omega) (by omega)
      rw [hw2, e3]
      have fin : ∀ y, restOne f s.2.1 (s.1.getD k 0) (c.getD k []) = some y → (∃ k' : Nat, (k' ≤ c.length ∧ (k : Int) + 1 = k' ∧ (out' ++ [y]).length = k') ∧ restAll f s.2.1 (s.1.take k') (c.take k') = some (out' ++ [y])) ∧ ((c.length : Int) - ((k : Int) + 1)).toNat < ((c.length : Int) - (k : Int)).toNat := fun y hy => by
        refine ⟨⟨k + 1, ⟨by omega, by push_cast; rfl, by simp [hol]⟩, ?_⟩, by omega⟩
        rw [hsn, hy]; rfl
      refine cnd_iff.2 ⟨fun h4 => ⟨by simp only [List.length_cons, List.length_nil]; omega, fin _ ?_⟩, fun h4 => ⟨by simp only [List.length_cons, List.length_nil]; omega, fin _ ?_⟩⟩
      · have h4 : ((c.getD k []).length : Int) > 0 := of_decide_eq_true h4
        unfold restOne
        rw [hg, Option.map_some, if_pos (by omega)]
      · have h4 : ¬ ((c.getD k []).length : Int) > 0 := of_decide_eq_false h4
        unfold restOne
        rw [hg, Option.map_some, if_neg (by omega)]
  · have h3 : ¬ (k : Int) < c.length := of_decide_eq_false h3
    have : k = c.length := by omega
    subst this
    rw [List.take_length, hcl, List.take_length] at hout
    rw [hout] at h
    exact h
end Go.Proofs.Fa
set_option maxRecDepth 100000
namespace Go.Proofs.Fa
open Go Go.GX Go.Proofs
variable [Inhabited BaseD]
theorem ok92 : CallsOK Try.prog (assoc glT) 92 f92_ct :=
  callsOK_mkM [] st_ok mp_ok it_ok mk_ok in_ok AllOK.nil no_an Try.func92 (by kernel_rfl) (by kernel_rfl) f92_ct fun n ⟨lo, hi, _⟩ Q h => (v92 n lo hi Q).mp (p92 h)
theorem ok104 : CallsOK Try.prog (assoc glT) 104 f104_ct :=
  callsOK_mkM [] st_ok mp_ok it_ok mk_ok in_ok AllOK.nil idx_an Try.func104 (by kernel_rfl) (by kernel_rfl) f104_ct fun ⟨xs, f, _⟩ _ Q h => (v104 xs f Q).mp (p104 h)
theorem ok91 : CallsOK Try.prog (assoc glT) 91 f91_ct :=
  callsOK_mkM [] st_ok mp_ok it_ok mk_ok in_ok (AllOK.cons ok104 AllOK.nil) no_an Try.func91 (by kernel_rfl) (by kernel_rfl) f91_ct fun ⟨xs, f, _⟩ _ Q h => (v91 xs f Q).mp (p91 h)
theorem ok93 : CallsOK Try.prog (assoc glT) 93 f93_ct :=
  callsOK_mkM [] st_ok mp_ok it_ok mk_ok in_ok AllOK.nil idx_an Try.func93 (by kernel_rfl) (by kernel_rfl) f93_ct fun ⟨xs, f, _⟩ _ Q h => (v93 xs f Q).mp (p93 h)
theorem ok59 : CallsOK Try.prog (assoc glT) 59 f59_ct :=
  callsOK_mkM [] st_ok mp_ok it_ok mk_ok in_ok (AllOK.cons ok93 AllOK.nil) no_an Try.func59 (by kernel_rfl) (by kernel_rfl) f59_ct fun ⟨xs, f, _⟩ _ Q h => (v59 xs f Q).mp (p59 h)
theorem ok94 : CallsOK Try.prog (assoc glT) 94 f94_ct :=
  callsOK_mkM [] st_ok mp_ok it_ok mk_ok in_ok AllOK.nil idx_an Try.func94 (by kernel_rfl) (by kernel_rfl) f94_ct fun ⟨xs, f, _⟩ _ Q h => (v94 xs f Q).mp (p94 h)
theorem ok62 : CallsOK Try.prog (assoc glT) 62 f62_ct :=
  callsOK_mkM [] st_ok mp_ok it_ok mk_ok in_ok (AllOK.cons ok94 AllOK.nil) no_an Try.func62 (by kernel_rfl) (by kernel_rfl) f62_ct fun ⟨xs, f, _⟩ _ Q h => (v62 xs f Q).mp (p62 h)
theorem ok101 : CallsOK Try.prog (assoc glT) 101 f101_ct :=
  callsOK_mkM [] st_ok mp_ok it_ok mk_ok in_ok AllOK.nil idx_an Try.func101 (by kernel_rfl) (by kernel_rfl) f101_ct fun ⟨xs, f, _⟩ _ Q h => (v101 xs f Q).mp (p101 h)
theorem ok85 : CallsOK Try.prog (assoc glT) 85 f85_ct :=
  callsOK_mkM [] st_ok mp_ok it_ok mk_ok in_ok (AllOK.cons ok101 AllOK.nil) no_an Try.func85 (by kernel_rfl) (by kernel_rfl) f85_ct fun ⟨xs, f, _⟩ _ Q h => (v85 xs f Q).mp (p85 h)
theorem ok58 : CallsOK Try.prog (assoc glT) 58 f58_ct :=
  callsOK_mkM [] st_ok mp_ok it_ok mk_ok in_ok (AllOK.cons ok91 (AllOK.cons ok92 AllOK.nil)) no_an Try.func58 (by kernel_rfl) (by kernel_rfl) f58_ct fun ⟨lo, hi, xs, _⟩ _ Q h => (v58 lo hi xs Q).mp (p58 h)
theorem ok61 : CallsOK Try.prog (assoc glT) 61 f61_ct :=
  callsOK_mkM [] st_ok mp_ok it_ok mk_ok in_ok (AllOK.cons ok58 AllOK.nil) no_an Try.func61 (by kernel_rfl) (by kernel_rfl) f61_ct fun l _ Q h => (v61 l Q).mp (p61 h)
theorem ok60 : CallsOK Try.prog (assoc glT) 60 f60_ct :=
  callsOK_mkM [] st_ok mp_ok it_ok mk_ok in_ok (AllOK.cons ok61 AllOK.nil) no_an Try.func60 (by kernel_rfl) (by kernel_rfl) f60_ct fun l _ Q h => (v60 l Q).mp (p60 h)
theorem ok64 : CallsOK Try.prog (assoc glT) 64 f64_ct :=
  callsOK_mkM [] st_ok mp_ok it_ok mk_ok in_ok (AllOK.cons ok58 AllOK.nil) no_an Try.func64 (by kernel_rfl) (by kernel_rfl) f64_ct fun s _ Q h => (v64 s Q).mp (p64 h)
theorem ok63 : CallsOK Try.prog (assoc glT) 63 f63_ct :=
  callsOK_mkM [] st_ok mp_ok it_ok mk_ok in_ok (AllOK.cons ok64 AllOK.nil) no_an Try.func63 (by kernel_rfl) (by kernel_rfl) f63_ct fun s _ Q h => (v63 s Q).mp (p63 h)
theorem ok20 : CallsOK Try.prog (assoc glT) 20 f20_ct :=
  callsOK_mkM [] st_ok mp_ok it_ok mk_ok in_ok (AllOK.cons ok58 (AllOK.cons ok59 (AllOK.cons ok60 (AllOK.cons ok62 (AllOK.cons ok63 AllOK.nil))))) no_an Try.func20 (by kernel_rfl) (by kernel_rfl) f20_ct fun ⟨s, f, _⟩ _ Q h => (v20 s f Q).mp (p20 h)
theorem ok78 : CallsOK Try.prog (assoc glT) 78 f78_ct :=
  callsOK_mkM [] st_ok mp_ok it_ok mk_ok in_ok (AllOK.cons ok58 AllOK.nil) no_an Try.func78 (by kernel_rfl) (by kernel_rfl) f78_ct fun n _ Q h => (v78 n Q).mp (p78 h)
theorem ok79 : CallsOK Try.prog (assoc glT) 79 f79_ct :=
  callsOK_mkM [300] st_ok mp_ok it_ok mk_ok in_ok AllOK.nil no_an Try.func79 (by kernel_rfl) (by kernel_rfl) f79_ct fun xs _ Q h => (v79 xs Q).mp (p79 h)
theorem ok106 : CallsOK Try.prog (assoc glT) 106 f106_ct :=
  callsOK_mkM [] st_ok mp_ok it_ok mk_ok in_ok AllOK.nil no_an Try.func106 (by kernel_rfl) (by kernel_rfl) f106_ct fun n _ Q h => (v106 n Q).mp (p106 h)
theorem ok100 : CallsOK Try.prog (assoc glT) 100 f100_ct :=
  callsOK_mkM [] st_ok mp_ok it_ok mk_ok in_ok (AllOK.cons ok106 AllOK.nil) no_an Try.func100 (by kernel_rfl) (by kernel_rfl) f100_ct fun ⟨a, b, _⟩ _ Q h => (v100 a b Q).mp (p100 h)
theorem ok103 : CallsOK Try.prog (assoc glT) 103 f103_ct :=
  callsOK_mkM [] st_ok mp_ok it_ok mk_ok in_ok (AllOK.cons ok106 AllOK.nil) no_an Try.func103 (by kernel_rfl) (by kernel_rfl) f103_ct fun ⟨a, b, _⟩ _ Q h => (v103 a b Q).mp (p103 h)
theorem ok89 : CallsOK Try.prog (assoc glT) 89 f89_ct :=
  callsOK_mkM [] st_ok mp_ok it_ok mk_ok in_ok (AllOK.cons ok103 AllOK.nil) f89_an Try.func89 (by kernel_rfl) (by kernel_rfl) f89_ct fun ⟨a, b, _⟩ _ Q h => (v89 a b Q).mp (p89 h)
theorem ok84 : CallsOK Try.prog (assoc glT) 84 f84_ct :=
  callsOK_mkM [] st_ok mp_ok it_ok mk_ok in_ok (AllOK.cons ok100 AllOK.nil) f84_an Try.func84 (by kernel_rfl) (by kernel_rfl) f84_ct fun xs _ Q h => (v84 xs Q).mp (p84 h)
theorem ok110 : CallsOK Try.prog (assoc glT) 110 f110_ct :=
  callsOK_mkM [] st_ok mp_ok it_ok mk_ok in_ok AllOK.nil no_an Try.func110 (by kernel_rfl) (by kernel_rfl) f110_ct fun ⟨a, b, _⟩ _ Q h => (v110 a b Q).mp (p110 h)
theorem ok108 : CallsOK Try.prog (assoc glT) 108 f108_ct :=
  callsOK_mkM [] st_ok mp_ok it_ok mk_ok in_ok (AllOK.cons ok110 AllOK.nil) no_an Try.func108 (by kernel_rfl) (by kernel_rfl) f108_ct fun ⟨a, b, _⟩ _ Q h => (v108 a b Q).mp (p108 h)
theorem ok107 : CallsOK Try.prog (assoc glT) 107 f107_ct :=
  callsOK_mkM [903,906] st_ok mp_ok it_ok mk_ok in_ok (AllOK.cons ok108 AllOK.nil) f107_an Try.func107 (by kernel_rfl) (by kernel_rfl) f107_ct fun ⟨xs, n, _⟩ _ Q h => (v107 xs n Q).mp (p107 h)
theorem ok80 : CallsOK Try.prog (assoc glT) 80 f80_ct :=
  callsOK_mkM [] st_ok mp_ok it_ok mk_ok in_ok AllOK.nil f80_an Try.func80 (by kernel_rfl) (by kernel_rfl) f80_ct fun f _ Q h => (v80 f Q).mp (p80 h)
theorem ok105 : CallsOK Try.prog (assoc glT) 105 f105_ct :=
  callsOK_mkM [] st_ok mp_ok it_ok mk_ok in_ok (AllOK.cons ok107 AllOK.nil) f105_an Try.func105 (by kernel_rfl) (by kernel_rfl) f105_ct fun f _ Q h => (v105 f Q).mp (p105 h)
theorem ok97 : CallsOK Try.prog (assoc glT) 97 f97_ct :=
  callsOK_mkM [] st_ok mp_ok it_ok mk_ok in_ok AllOK.nil f97_an Try.func97 (by kernel_rfl) (by kernel_rfl) f97_ct fun ⟨b, f, _⟩ _ Q h => (v97 b f Q).mp (p97 h)
theorem ok98 : CallsOK Try.prog (assoc glT) 98 f98_ct :=
  callsOK_mkM [] st_ok mp_ok it_ok mk_ok in_ok AllOK.nil f97_an Try.func98 (by kernel_rfl) (by kernel_rfl) f98_ct fun ⟨b, f, _⟩ _ Q h => (v98 b f Q).mp (p98 h)
theorem ok99 : CallsOK Try.prog (assoc glT) 99 f99_ct :=
  callsOK_mkM [] st_ok mp_ok it_ok mk_ok in_ok AllOK.nil f99_an Try.func99 (by kernel_rfl) (by kernel_rfl) f99_ct fun ⟨a, b, _⟩ _ Q h => (v99 a b Q).mp (p99 h)
theorem ok66 : CallsOK Try.prog (assoc glT) 66 f66_ct :=
  callsOK_mkM [] st_ok mp_ok it_ok mk_ok in_ok AllOK.nil no_an Try.func66 (by kernel_rfl) (by kernel_rfl) f66_ct fun s _ Q h => (v66 s Q).mp (p66 h)
theorem ok65 : CallsOK Try.prog (assoc glT) 65 f65_ct :=
  callsOK_mkM [] st_ok mp_ok it_ok mk_ok in_ok AllOK.nil f65_an Try.func65 (by kernel_rfl) (by kernel_rfl) f65_ct fun ⟨s, f, e, _⟩ _ Q h => (v65 s f e Q).mp (p65 h)
theorem ok69 : CallsOK Try.prog (assoc glT) 69 f69_ct :=
  callsOK_mkM [] st_ok mp_ok it_ok mk_ok in_ok AllOK.nil f69_an Try.func69 (by kernel_rfl) (by kernel_rfl) f69_ct fun x _ Q h => (v69 x Q).mp (p69 h)
theorem ok68 : CallsOK Try.prog (assoc glT) 68 f68_ct :=
  callsOK_mkM [] st_ok mp_ok it_ok mk_ok in_ok AllOK.nil f68_an Try.func68 (by kernel_rfl) (by kernel_rfl) f68_ct fun ⟨x, e, i, _⟩ _ Q h => (v68 x e i Q).mp (p68 h)
theorem ok77 : CallsOK Try.prog (assoc glT) 77 f77_ct :=
  callsOK_mkM [] st_ok mp_ok it_ok mk_ok in_ok AllOK.nil f77_an Try.func77 (by kernel_rfl) (by kernel_rfl) f77_ct fun x _ Q h => (v77 x Q).mp (p77 h)
theorem ok82 : CallsOK Try.prog (assoc glT) 82 f82_ct := ok82x ok97 ok98 ok99
end Go.Proofs.Fa
set_option maxRecDepth 100000
namespace Go.Proofs.Fa
open Go Go.GX Go.Proofs
variable [Inhabited BaseD]
theorem ok95 : CallsOK Try.prog (assoc glT) 95 f95_ct :=
  callsOK_mkM [] st_ok mp_ok it_ok mk_ok in_ok (AllOK.cons ok82 (AllOK.cons ok97 (AllOK.cons ok98 (AllOK.cons ok99 (AllOK.cons ok105 (AllOK.cons ok89 AllOK.nil)))))) f95_an Try.func95 (by kernel_rfl) (by kernel_rfl) f95_ct fun ⟨p, f, _⟩ _ Q h => (v95 p f Q).mp (p95 h)
theorem ok67 : CallsOK Try.prog (assoc glT) 67 f67_ct :=
  callsOK_mkM [] st_ok mp_ok it_ok mk_ok in_ok (AllOK.cons ok81 (AllOK.cons ok82 (AllOK.cons ok95 AllOK.nil))) no_an Try.func67 (by kernel_rfl) (by kernel_rfl) f67_ct fun ⟨bs, f, _⟩ _ Q h => (v67 bs f Q).mp (p67 h)
theorem ok102 : CallsOK Try.prog (assoc glT) 102 f102_ct :=
  callsOK_mkM [] st_ok mp_ok it_ok mk_ok in_ok (AllOK.cons ok82 AllOK.nil) no_an Try.func102 (by kernel_rfl) (by kernel_rfl) f102_ct fun f ⟨p, q, _⟩ Q h => (v102 f p q Q).mp (p102 h)
theorem ok86 : CallsOK Try.prog (assoc glT) 86 f86_ct :=
  callsOK_mkM [] st_ok mp_ok it_ok mk_ok in_ok (AllOK.cons ok68 (AllOK.cons ok81 (AllOK.cons ok77 (AllOK.cons ok102 AllOK.nil)))) no_an Try.func86 (by kernel_rfl) (by kernel_rfl) f86_ct fun x _ Q h => (v86 x Q).mp (p86 h)
theorem ok21 : CallsOK Try.prog (assoc glT) 21 f21_ct :=
  callsOK_mkM [] st_ok mp_ok it_ok mk_ok in_ok (AllOK.cons ok20 (AllOK.cons ok65 (AllOK.cons ok66 (AllOK.cons ok68 (AllOK.cons ok69 (AllOK.cons ok67 AllOK.nil)))))) no_an Try.func21 (by kernel_rfl) (by kernel_rfl) f21_ct fun ⟨s, f, _⟩ _ Q h => (v21 s f Q).mp (p21 h)
theorem ok29 : CallsOK Try.prog (assoc glT) 29 f29_ct :=
  callsOK_mkM [] st_ok mp_ok it_ok mk_ok in_ok (AllOK.cons ok20 (AllOK.cons ok65 (AllOK.cons ok66 (AllOK.cons ok77 (AllOK.cons ok69 (AllOK.cons ok67 AllOK.nil)))))) no_an Try.func29 (by kernel_rfl) (by kernel_rfl) f29_ct fun ⟨s, f, _⟩ _ Q h => (v29 s f Q).mp (p29 h)
theorem ok50 : CallsOK Try.prog (assoc glT) 50 f50_ct :=
  callsOK_mkM [] st_ok mp_ok it_ok mk_ok in_ok (AllOK.cons ok20 (AllOK.cons ok65 (AllOK.cons ok66 (AllOK.cons ok86 (AllOK.cons ok69 (AllOK.cons ok80 (AllOK.cons ok89 (AllOK.cons ok79 AllOK.nil)))))))) f50_an Try.func50 (by kernel_rfl) (by kernel_rfl) f50_ct fun ⟨s, f, _⟩ _ Q h => (v50 s f Q).mp (p50 h)
theorem ok31 : CallsOK Try.prog (assoc glT) 31 f31_ct :=
  callsOK_mkM [] st_ok mp_ok it_ok mk_ok in_ok (AllOK.cons ok20 (AllOK.cons ok78 (AllOK.cons ok65 (AllOK.cons ok66 (AllOK.cons ok79 (AllOK.cons ok69 (AllOK.cons ok80 (AllOK.cons ok68 (AllOK.cons ok81 (AllOK.cons ok82 AllOK.nil)))))))))) f31_an Try.func31 (by kernel_rfl) (by kernel_rfl) f31_ct fun ⟨s, f, p, _⟩ _ Q h => (v31 s f p Q).mp (p31 h)
theorem ok34 : CallsOK Try.prog (assoc glT) 34 f34_ct :=
  callsOK_mkM [] st_ok mp_ok it_ok mk_ok in_ok (AllOK.cons ok20 (AllOK.cons ok78 (AllOK.cons ok65 (AllOK.cons ok66 (AllOK.cons ok69 AllOK.nil))))) f34_an Try.func34 (by kernel_rfl) (by kernel_rfl) f34_ct fun ⟨s, f, p, _⟩ _ Q h => (v34 s f p Q).mp (p34 h)
theorem ok83 : CallsOK Try.prog (assoc glT) 83 f83_ct :=
  callsOK_mkM [] st_ok mp_ok it_ok mk_ok in_ok (AllOK.cons ok58 (AllOK.cons ok84 AllOK.nil)) no_an Try.func83 (by kernel_rfl) (by kernel_rfl) f83_ct fun l ⟨f, _⟩ Q h => (v83 l f Q).mp (p83 h)
theorem ok36 : CallsOK Try.prog (assoc glT) 36 f36_ct :=
  callsOK_mkM [] st_ok mp_ok it_ok mk_ok in_ok (AllOK.cons ok20 (AllOK.cons ok83 (AllOK.cons ok85 AllOK.nil))) f36_an Try.func36 (by kernel_rfl) (by kernel_rfl) f36_ct fun ⟨s, f, c, _⟩ _ Q h => (v36 s f c Q).mp (p36 h)
theorem ok39 : CallsOK Try.prog (assoc glT) 39 f39_ct :=
  callsOK_mkM [] st_ok mp_ok it_ok mk_ok in_ok (AllOK.cons ok20 (AllOK.cons ok65 (AllOK.cons ok66 (AllOK.cons ok68 (AllOK.cons ok81 (AllOK.cons ok69 (AllOK.cons ok82 (AllOK.cons ok77 AllOK.nil)))))))) no_an Try.func39 (by kernel_rfl) (by kernel_rfl) f39_ct fun ⟨s, f, _⟩ _ Q h => (v39 s f Q).mp (p39 h)
theorem ok41 : CallsOK Try.prog (assoc glT) 41 f41_ct :=
  callsOK_mkM [] st_ok mp_ok it_ok mk_ok in_ok (AllOK.cons ok20 (AllOK.cons ok58 (AllOK.cons ok65 (AllOK.cons ok66 (AllOK.cons ok86 (AllOK.cons ok69 AllOK.nil)))))) f41_an Try.func41 (by kernel_rfl) (by kernel_rfl) f41_ct fun ⟨s, f, k, _⟩ _ Q h => (v41 s f k Q).mp (p41 h)
end Go.Proofs.Fa
set_option linter.unusedVariables false
set_option maxRecDepth 100000
namespace Go.Proofs.Fa
open Go Go.GX Go.Proofs

def V38 (a : List Int) (b : List Int) (Q : Bool → Prop) : Prop := List.length a ≤ (9223372036854775807 : Nat) → List.length b ≤ (9223372036854775807 : Nat) → cnd ((↑(List.length a) : Int) != (↑(List.length b) : Int)) (Q false) (∃ (I : Int → Prop), ∃ (μ : Int → Nat), I (0 : Int) ∧ ∀ (x : Int), I x → List.length a ≤ (9223372036854775807 : Nat) → cnd (decide (x < (↑(List.length a) : Int))) ((0 : Int) ≤ x ∧ x < (↑(List.length a) : Int) ∧ (0 : Int) ≤ x ∧ x < (↑(List.length b) : Int) ∧ cnd (List.getD a (Int.toNat x) (0 : Int) != List.getD b (Int.toNat x) (0 : Int)) (Q false) (I (IntKind.wrap IntKind.i64 (x + (1 : Int))) ∧ μ (IntKind.wrap IntKind.i64 (x + (1 : Int))) < μ x)) (Q true))
theorem v38 (a : List Int) (b : List Int) (Q : Bool → Prop) : V38 a b Q = vcFunc (S0 [] []) f38_ct.own f38_ct.fresh one_an Try.f38 (bodyOf Try.f38) f38_ct.A f38_ct.C f38_ct.R (a, b, ()) () Q := by kernel_rfl

def V28 (a : List (List Int)) (b : List (List Int)) (Q : Bool → Prop) : Prop := List.length a ≤ (9223372036854775807 : Nat) → List.length b ≤ (9223372036854775807 : Nat) → cnd ((↑(List.length a) : Int) != (↑(List.length b) : Int)) (Q false) (∃ (I : Int → Prop), ∃ (μ : Int → Nat), I (0 : Int) ∧ ∀ (x : Int), I x → List.length a ≤ (9223372036854775807 : Nat) → cnd (decide (x < (↑(List.length a) : Int))) ((0 : Int) ≤ x ∧ x < (↑(List.length a) : Int) ∧ (0 : Int) ≤ x ∧ x < (↑(List.length b) : Int) ∧ ∃ (r : Bool), (f38_wp (List.getD a (Int.toNat x) ([] : List Int), List.getD b (Int.toNat x) ([] : List Int), ()) () fun (r' : Bool) ↦ r' = r) ∧ cnd (!r) (Q false) (I (IntKind.wrap IntKind.i64 (x + (1 : Int))) ∧ μ (IntKind.wrap IntKind.i64 (x + (1 : Int))) < μ x)) (Q true))
theorem v28 (a : List (List Int)) (b : List (List Int)) (Q : Bool → Prop) : V28 a b Q = vcFunc (S0 [(38, f38_ct)] []) f28_ct.own f28_ct.fresh one_an Try.f28 (bodyOf Try.f28) f28_ct.A f28_ct.C f28_ct.R (a, b, ()) () Q := by kernel_rfl

end Go.Proofs.Fa
set_option linter.unusedVariables false
namespace Go.Proofs.Fa
open Go Go.GX Go.Proofs

theorem list_ext' {α : Type} {a b : List α} (d : α) (hl : a.length = b.length) (h : ∀ j, j < a.length → a.getD j d = b.getD j d) : a = b := by
  refine List.ext_getElem hl fun j h1 h2 => ?_
  have := h j h1
  rwa [getD_lt h1, getD_lt h2] at this

theorem same_loop {α : Type} [DecidableEq α] {a b : List α} (d : α) {Q : Bool → Prop} (h : Q (decide (a = b))) {T : Int → Prop → Prop → Prop}
    (ht : ∀ (k : Nat) (P1 P2 : Prop), k < a.length → k < b.length → (a.getD k d ≠ b.getD k d → P1) → (a.getD k d = b.getD k d → P2) → T (k : Int) P1 P2) (h1 : a.length ≤ 9223372036854775807 → b.length ≤ 9223372036854775807 → True) :
    a.length ≤ 9223372036854775807 → b.length ≤ 9223372036854775807 → cnd ((a.length : Int) != (b.length : Int)) (Q false)
      (∃ (I : Int → Prop) (μ : Int → Nat), I 0 ∧ ∀ x, I x → a.length ≤ 9223372036854775807 → cnd (decide (x < (a.length : Int))) (0 ≤ x ∧ x < (a.length : Int) ∧ 0 ≤ x ∧ x < (b.length : Int) ∧ T x (Q false) (I (IntKind.wrap .i64 (x + 1)) ∧ μ (IntKind.wrap .i64 (x + 1)) < μ x)) (Q true)) := by
  intro _ _
  refine cnd_iff.2 ⟨fun hl => ?_, fun hl => ?_⟩
  · have : a ≠ b := by
      intro e; rw [e] at hl; simp at hl
    rw [decide_eq_false this] at h; exact h
  have hl : a.length = b.length := by have := eq_of_bne hl; omega
  refine forUpGL (fun k => ∀ j, j < k → a.getD j d = b.getD j d) (fun j hj => absurd hj (Nat.not_lt_zero _)) (fun k hk hg _ I μ hI hw => ?_) (fun hg => ?_)
  · refine ⟨by omega, by omega, by omega, by omega, ?_⟩
    refine ht k _ _ hk (by omega) (fun hne => ?_) (fun he => ?_)
    · have : a ≠ b := by intro e; rw [e] at hne; exact hne rfl
      rw [decide_eq_false this] at h; exact h
    · rw [hw]
      refine hI fun j hj => ?_
      rcases Nat.lt_succ_iff_lt_or_eq.1 hj with h3 | rfl
      · exact hg j h3
      · exact he
  · rw [decide_eq_true (list_ext' d hl hg)] at h; exact h
theorem p38 {a b : List Int} {Q : Bool → Prop} (h : f38_wp (a, b, ()) () Q) : V38 a b Q :=
  same_loop (0 : Int) h (T := fun x P1 P2 => cnd (a.getD x.toNat 0 != b.getD x.toNat 0) P1 P2) (fun k P1 P2 _ _ g1 g2 => cnd_iff.2 ⟨fun e => g1 (ne_of_bne e), fun e => g2 (eq_of_bne e)⟩) fun _ _ => trivial
theorem p28 {a b : List (List Int)} {Q : Bool → Prop} (h : f28_wp (a, b, ()) () Q) : V28 a b Q :=
  same_loop ([] : List Int) h (T := fun x P1 P2 => ∃ r : Bool, (f38_wp (a.getD x.toNat [], b.getD x.toNat [], ()) () fun r' => r' = r) ∧ cnd (!r) P1 P2) (fun k P1 P2 _ _ g1 g2 => ⟨decide (a.getD k [] = b.getD k []), rfl, cnd_iff.2 ⟨fun e => g1 (by simpa using e), fun e => g2 (by simpa using e)⟩⟩) fun _ _ => trivial
theorem F5.fok {f : FansT} (h : F5 f) : FOK f := all4_mono (fun x g => ⟨g.1, by omega⟩) h
end Go.Proofs.Fa
set_option linter.unusedVariables false
set_option maxRecDepth 20000
namespace Go.Proofs.Fa
open Go Go.GX Go.Proofs

theorem atF_bnd {n : Int} (h0 : 0 ≤ n) (h1 : n < 625) : F5 (atF n) := by
  unfold atF
  refine ⟨⟨?_, ?_⟩, ⟨?_, ?_⟩, ⟨?_, ?_⟩, ⟨?_, ?_⟩⟩ <;> simp only <;> omega
theorem idx_bnd {f : FansT} (h : F5 f) : 0 ≤ idx5 f ∧ idx5 f < 625 := by
  obtain ⟨⟨a1, a2⟩, ⟨b1, b2⟩, ⟨c1, c2⟩, ⟨d1, d2⟩⟩ := h
  unfold idx5; omega
theorem at_idx {f : FansT} (h : F5 f) : atF (idx5 f) = f := by
  obtain ⟨⟨a1, a2⟩, ⟨b1, b2⟩, ⟨c1, c2⟩, ⟨d1, d2⟩⟩ := h
  obtain ⟨a, b, c, d⟩ := f
  simp only at a1 a2 b1 b2 c1 c2 d1 d2
  unfold atF idx5
  simp only [Prod.mk.injEq]
  omega
theorem less_F5 {f s : FansT} (hf : F5 f) (hs : F5 s) (hg : ge0 (GX.Fa.less f s) = true) : F5 (GX.Fa.less f s) := by
  obtain ⟨⟨a1, a2⟩, ⟨b1, b2⟩, ⟨c1, c2⟩, ⟨d1, d2⟩⟩ := hf
  obtain ⟨⟨e1, e2⟩, ⟨f1, f2⟩, ⟨g1, g2⟩, ⟨h1, h2⟩⟩ := hs
  simp only [ge0, Bool.and_eq_true, decide_eq_true_eq] at hg
  obtain ⟨⟨⟨k1, k2⟩, k3⟩, k4⟩ := hg
  have l1 : (GX.Fa.less f s).1 = f.1 - s.1 := rfl
  have l2 : (GX.Fa.less f s).2.1 = f.2.1 - s.2.1 := rfl
  have l3 : (GX.Fa.less f s).2.2.1 = f.2.2.1 - s.2.2.1 := rfl
  have l4 : (GX.Fa.less f s).2.2.2 = f.2.2.2 - s.2.2.2 := rfl
  exact ⟨⟨k1, by omega⟩, ⟨k2, by omega⟩, ⟨k3, by omega⟩, ⟨k4, by omega⟩⟩
theorem costF_bnd {b : BinT} {s : FansT} (hb : BOK b) (hs : F5 s) : -5000000000 ≤ costF b s ∧ costF b s ≤ 5000000000 := by
  have := loss_bnd hb hs.fok
  unfold costF
  split
  · exact ⟨this.1, this.2⟩
  · omega
theorem lstStep_bnd {b : BinT} {rest : FansT → Int} {f s : FansT} {B best : Int} (hb : BOK b) (hf : F5 f) (hs : F5 s) (hr : ∀ g, F5 g → rest g ≤ B) (h0 : -1 ≤ best) (h1 : best ≤ B + 5000000000) : -1 ≤ lstStep b rest f best s ∧ lstStep b rest f best s ≤ B + 5000000000 := by
  unfold lstStep
  split
  · exact ⟨h0, h1⟩
  · rename_i hn
    simp only [Bool.or_eq_true, Bool.not_eq_true', decide_eq_true_eq, not_or] at hn
    have hg : ge0 (GX.Fa.less f s) = true := by
      cases hh : ge0 (GX.Fa.less f s) with
      | true => rfl
      | false => exact absurd hh hn.1
    have h2 := hr _ (less_F5 hf hs hg)
    have h3 := costF_bnd hb hs
    split
    · rename_i hc
      simp only [Bool.and_eq_true, decide_eq_true_eq] at hc
      have := hn.2
      omega
    · exact ⟨h0, h1⟩
theorem lstR_bnd {b : BinT} {rest : FansT → Int} {f : FansT} {B : Int} (hb : BOK b) (hf : F5 f) (hr : ∀ g, F5 g → rest g ≤ B) (hB : -1 ≤ B) : ∀ k : Nat, k ≤ 625 → -1 ≤ (List.range k).foldl (fun best (n : Nat) => lstStep b rest f best (atF n)) (-1) ∧ (List.range k).foldl (fun best (n : Nat) => lstStep b rest f best (atF n)) (-1) ≤ B + 5000000000
  | 0, _ => ⟨Int.le_refl _, by simp; omega⟩
  | k + 1, hk => by
    rw [foldl_succ]
    obtain ⟨h1, h2⟩ := lstR_bnd hb hf hr hB k (by omega)
    exact lstStep_bnd hb hf (atF_bnd (by omega) (by omega)) hr h1 h2
theorem Bins0.cons {b : BinT} {r : List BinT} (h : Bins0 (b :: r)) : BOK b ∧ (∀ s, F5 s → GX.Fa.fitsB b s = true → 0 ≤ GX.Fa.lossV b s) ∧ Bins0 r :=
  ⟨(h.b.cons).1, h.n b (by simp), (h.b.cons).2, fun c hc => h.n c (by simp [hc]), by have := h.k; simp at this; omega⟩
theorem Bins0.drop {bs : List BinT} (h : Bins0 bs) (k : Nat) : Bins0 (bs.drop k) :=
  ⟨h.b.drop k, fun b hb => h.n b (List.mem_of_mem_drop hb), by have := h.k; rw [List.length_drop]; omega⟩
theorem tval_bnd : ∀ {bs : List BinT}, Bins0 bs → ∀ f, F5 f → -1 ≤ tval bs f ∧ tval bs f ≤ (bs.length : Int) * 5000000000
  | [], _, f, _ => by
    unfold tval
    split <;> simp
  | b :: r, h, f, hf => by
    obtain ⟨h1, _, h3⟩ := h.cons
    unfold tval lstR
    have := idx_bnd hf
    obtain ⟨g1, g2⟩ := lstR_bnd (B := (r.length : Int) * 5000000000) h1 hf (fun g hg => (tval_bnd h3 g hg).2) (by omega) ((idx5 f).toNat + 1) (by omega)
    refine ⟨g1, ?_⟩
    have e : (((b :: r).length : Nat) : Int) = (r.length : Int) + 1 := by simp
    rw [e]; omega

theorem getD_set {l : List Int} {k n : Nat} {v : Int} (hk : k < l.length) : (l.set k v).getD n 0 = if n = k then v else l.getD n 0 := by
  rw [List.getD_eq_getElem?_getD, List.getElem?_set, List.getD_eq_getElem?_getD]
  by_cases h : k = n
  · subst h; simp [hk]
  · simp [h, Ne.symm h]
end Go.Proofs.Fa
set_option linter.unusedVariables false
namespace Go.Proofs.Fa
open Go Go.GX Go.Proofs

theorem cmpI3_self (a : Int) : cmpI3 a a = 0 := by simp [cmpI3]
theorem cmpI3_zero {a b : Int} (h : cmpI3 a b = 0) : a = b := by
  unfold cmpI3 at h
  split at h
  · cases h
  · split at h
    · cases h
    · omega
theorem cmpI3_neg (a b : Int) : cmpI3 b a = - cmpI3 a b := by
  unfold cmpI3
  by_cases h1 : a < b
  · have h2 : ¬ b < a := by omega
    simp [h1, h2]
  · by_cases h2 : b < a
    · simp [h1, h2]
    · simp [h1, h2]
theorem cmpI3_lt {a b : Int} : cmpI3 a b < 0 ↔ a < b := by
  unfold cmpI3
  split
  · simp; assumption
  · split <;> simp <;> omega
theorem cmpL_self : ∀ a : List Int, cmpL a a = 0
  | [] => rfl
  | a :: r => by rw [cmpL, if_neg (by rw [cmpI3_self]; simp)]; exact cmpL_self r
theorem cmpL_zero : ∀ {a b : List Int}, cmpL a b = 0 → a = b
  | [], [], _ => rfl
  | [], _ :: _, h => by cases h
  | _ :: _, [], h => by cases h
  | a :: r, b :: s, h => by
    rw [cmpL] at h
    split at h
    · rename_i hh; exact absurd h hh
    · rename_i hh
      have hh : cmpI3 a b = 0 := by simpa using hh
      rw [cmpI3_zero hh, cmpL_zero h]
theorem cmpL_neg : ∀ a b : List Int, cmpL b a = - cmpL a b
  | [], [] => rfl
  | [], _ :: _ => rfl
  | _ :: _, [] => rfl
  | a :: r, b :: s => by
    rw [cmpL, cmpL, cmpI3_neg a b]
    by_cases h : cmpI3 a b = 0
    · rw [h, if_neg (by simp), if_neg (by simp)]; exact cmpL_neg r s
    · rw [if_pos (by omega), if_pos h]
theorem cmpL_trans : ∀ {a b c : List Int}, cmpL a b < 0 → cmpL b c < 0 → cmpL a c < 0
  | [], [], _, h, _ => by cases h
  | [], _ :: _, [], _, h => by cases h
  | [], _ :: _, _ :: _, _, _ => by show (-1 : Int) < 0; decide
  | _ :: _, [], _, h, _ => by cases h
  | _ :: _, _ :: _, [], _, h => by cases h
  | a :: r, b :: s, c :: t, h1, h2 => by
    rw [cmpL] at h1 h2 ⊢
    by_cases e1 : cmpI3 a b = 0
    · rw [if_neg (by simp [e1])] at h1
      have := cmpI3_zero e1
      subst this
      by_cases e2 : cmpI3 a c = 0
      · rw [if_neg (by simp [e2])] at h2 ⊢
        exact cmpL_trans h1 h2
      · rw [if_pos e2] at h2 ⊢
        exact h2
    · rw [if_pos e1] at h1
      have l1 := cmpI3_lt.1 h1
      by_cases e2 : cmpI3 b c = 0
      · have := cmpI3_zero e2
        subst this
        rw [if_pos e1]; exact h1
      · rw [if_pos e2] at h2
        have l2 := cmpI3_lt.1 h2
        have l3 : cmpI3 a c < 0 := cmpI3_lt.2 (by omega)
        rw [if_pos (by omega)]; exact l3
theorem cmpL_pre : ∀ (b u v : List Int), cmpL (b ++ u) (b ++ v) = cmpL u v
  | [], u, v => rfl
  | a :: b, u, v => by
    rw [List.cons_append, List.cons_append, cmpL, if_neg (by rw [cmpI3_self]; simp)]
    exact cmpL_pre b u v

theorem at4_put {t : FansT} {k : Nat} {u : Int} {i : Nat} (hi : i < 4) : at4 (put4 t k u) i = if i = k then u else at4 t i := by
  unfold put4; rw [at4_tup _ hi]
theorem fan_ext {s t : FansT} (h : ∀ i, i < 4 → at4 s i = at4 t i) : s = t := by
  have h0 := h 0 (by omega)
  have h1 := h 1 (by omega)
  have h2 := h 2 (by omega)
  have h3 := h 3 (by omega)
  exact Prod.ext h0 (Prod.ext h1 (Prod.ext h2 h3))
theorem bump_at {t : FansT} {k : Int} (hk : 0 ≤ k ∧ k ≤ 3) {i : Nat} (hi : i < 4) : at4 (bump t k) i = at4 t i + if (i : Int) = k then 1 else 0 := by
  unfold bump
  rw [at4_put hi]
  by_cases h : i = k.toNat
  · rw [if_pos h, if_pos (by omega), h]
  · rw [if_neg h, if_neg (by omega), Int.add_zero]
theorem num_fold {l : List Int} (hl : in4 l) : ∀ (t : FansT) {i : Nat}, i < 4 → at4 (l.foldl bump t) i = at4 t i + (l.count (i : Int) : Nat) := by
  induction l with
  | nil => intro t i hi; simp
  | cons a l ih =>
    intro t i hi
    rw [List.foldl_cons, ih (fun x hx => hl x (by simp [hx])) _ hi, bump_at (hl a (by simp)) hi, List.count_cons]
    by_cases h : (i : Int) = a
    · subst h; simp; omega
    · have h2 : ¬ a = (i : Int) := fun e => h e.symm
      simp [h, h2]
theorem num_at {l : List Int} (hl : in4 l) {i : Nat} (hi : i < 4) : at4 (numF l) i = (l.count (i : Int) : Nat) := by
  unfold numF
  rw [num_fold hl _ hi]
  have : at4 NO4 i = 0 := by
    match i, hi with
    | 0, _ => rfl
    | 1, _ => rfl
    | 2, _ => rfl
    | 3, _ => rfl
  omega
theorem numF_snoc (l : List Int) (k : Int) : numF (l ++ [k]) = bump (numF l) k := by unfold numF; rw [List.foldl_append]; rfl
theorem sumF_at (f : FansT) : sumF f = at4 f 0 + at4 f 1 + at4 f 2 + at4 f 3 := rfl
theorem num_sum {l : List Int} (hl : in4 l) : sumF (numF l) = (l.length : Nat) := by
  induction l with
  | nil => rfl
  | cons a l ih =>
    have ih := ih fun x hx => hl x (by simp [hx])
    have ha := hl a (by simp)
    have hl2 : in4 l := fun x hx => hl x (by simp [hx])
    rw [sumF_at] at ih ⊢
    rw [num_at hl2 (by omega), num_at hl2 (by omega), num_at hl2 (by omega), num_at hl2 (by omega)] at ih
    rw [num_at hl (by omega), num_at hl (by omega), num_at hl (by omega), num_at hl (by omega)]
    simp only [List.count_cons, List.length_cons]
    have h4 : a = 0 ∨ a = 1 ∨ a = 2 ∨ a = 3 := by omega
    rcases h4 with rfl | rfl | rfl | rfl <;> simp at ih ⊢ <;> omega
theorem asc_split (a : Int) : ∀ {l : List Int}, asc l → (∀ x, x ∈ l → a ≤ x) → ∃ l', l = List.replicate (l.count a) a ++ l' ∧ asc l' ∧ (∀ x, x ∈ l' → a + 1 ≤ x) ∧ (∀ b, b ≠ a → l'.count b = l.count b) ∧ ∀ x, x ∈ l' → x ∈ l
  | [], _, _ => ⟨[], by simp, List.Pairwise.nil, by simp, by simp, by simp⟩
  | x :: r, h, hx => by
    have h0 : (∀ y ∈ r, x ≤ y) ∧ asc r := List.pairwise_cons.1 h
    by_cases e : x = a
    · subst e
      obtain ⟨l', e1, e2, e3, e4, e5⟩ := asc_split x h0.2 (fun y hy => h0.1 y hy)
      refine ⟨l', ?_, e2, e3, fun b hb => ?_, fun y hy => List.mem_cons_of_mem _ (e5 y hy)⟩
      · rw [List.count_cons_self, List.replicate_succ, List.cons_append, ← e1]
      · rw [e4 b hb, List.count_cons_of_ne (Ne.symm hb)]
    · have hx1 := hx x (by simp)
      have hgt : ∀ y ∈ x :: r, a + 1 ≤ y := fun y hy => by
        rcases List.mem_cons.1 hy with rfl | hy
        · omega
        · have := h0.1 y hy; omega
      refine ⟨x :: r, ?_, h, hgt, fun b _ => rfl, fun y hy => hy⟩
      have : (x :: r).count a = 0 := List.count_eq_zero.2 fun hm => by have := hgt a hm; omega
      rw [this]; rfl
theorem listF_num {l : List Int} (ha : asc l) (hl : in4 l) : l = listF (numF l) := by
  obtain ⟨l1, a1, a2, a3, a4, a5⟩ := asc_split 0 ha fun x hx => (hl x hx).1
  obtain ⟨l2, b1, b2, b3, b4, b5⟩ := asc_split 1 a2 a3
  obtain ⟨l3, c1, c2, c3, c4, c5⟩ := asc_split 2 b2 b3
  obtain ⟨l4, d1, d2, d3, d4, d5⟩ := asc_split 3 c2 c3
  have e4 : l4 = [] := by
    cases l4 with
    | nil => rfl
    | cons y r =>
      have g1 := d3 y (by simp)
      have g2 := (hl y (a5 y (b5 y (c5 y (d5 y (by simp)))))).2
      omega
  have n0 : (numF l).1 = (l.count 0 : Nat) := num_at hl (i := 0) (by omega)
  have n1 : (numF l).2.1 = (l.count 1 : Nat) := num_at hl (i := 1) (by omega)
  have n2 : (numF l).2.2.1 = (l.count 2 : Nat) := num_at hl (i := 2) (by omega)
  have n3 : (numF l).2.2.2 = (l.count 3 : Nat) := num_at hl (i := 3) (by omega)
  have q1 : l1.count 1 = l.count 1 := a4 1 (by omega)
  have q2 : l2.count 2 = l.count 2 := (b4 2 (by omega)).trans (a4 2 (by omega))
  have q3 : l3.count 3 = l.count 3 := (c4 3 (by omega)).trans ((b4 3 (by omega)).trans (a4 3 (by omega)))
  unfold listF
  rw [n0, n1, n2, n3]
  simp only [Int.toNat_natCast]
  rw [e4, List.append_nil] at d1
  rw [q1] at b1
  rw [q2] at c1
  rw [q3] at d1
  rw [← d1, List.append_assoc, List.append_assoc, ← c1, ← b1]
  exact a1
theorem listF_in4 (s : FansT) : in4 (listF s) := by
  intro x hx
  simp only [listF, List.mem_append, List.mem_replicate] at hx
  omega
theorem numF_list {s : FansT} (hs : FOK s) : numF (listF s) = s := by
  refine fan_ext fun i hi => ?_
  rw [num_at (listF_in4 s) hi]
  have h := all4_at hs hi
  unfold listF
  simp only [List.count_append, List.count_replicate]
  match i, hi with
  | 0, _ => have h : 0 ≤ s.1 ∧ s.1 ≤ 1000 := h; show _ = s.1; simp; omega
  | 1, _ => have h : 0 ≤ s.2.1 ∧ s.2.1 ≤ 1000 := h; show _ = s.2.1; simp; omega
  | 2, _ => have h : 0 ≤ s.2.2.1 ∧ s.2.2.1 ≤ 1000 := h; show _ = s.2.2.1; simp; omega
  | 3, _ => have h : 0 ≤ s.2.2.2 ∧ s.2.2.2 ≤ 1000 := h; show _ = s.2.2.2; simp; omega
theorem listF_asc (s : FansT) : asc (listF s) := by
  unfold asc listF
  simp only [List.pairwise_append, List.pairwise_replicate, List.mem_append, List.mem_replicate]
  refine ⟨⟨⟨by simp, by simp, ?_⟩, by simp, ?_⟩, by simp, ?_⟩ <;> intro a ha b hb <;> omega

theorem fromL_le {b : List Int} (ha : asc b) (hb : in4 b) : 0 ≤ fromL b ∧ fromL b ≤ 3 ∧ ∀ x, x ∈ b → x ≤ fromL b := by
  unfold fromL
  by_cases h : b.length > 0
  · rw [if_pos h]
    have hm : b.getD (b.length - 1) 0 ∈ b := getD_mem (by omega)
    refine ⟨(hb _ hm).1, (hb _ hm).2, fun x hx => ?_⟩
    obtain ⟨j, hj, rfl⟩ := List.mem_iff_getElem.1 hx
    rw [getD_lt (by omega)]
    by_cases e : j = b.length - 1
    · subst e; exact Int.le_refl _
    · exact (List.pairwise_iff_getElem.1 ha) j (b.length - 1) hj (by omega) (by omega)
  · rw [if_neg h]
    have : b = [] := by cases b with | nil => rfl | cons a r => simp at h
    subst this
    exact ⟨by omega, by omega, by simp⟩
theorem asc_snoc {b : List Int} (ha : asc b) (hb : in4 b) {k : Int} (hk : fromL b ≤ k) : asc (b ++ [k]) := by
  unfold asc
  rw [List.pairwise_append]
  refine ⟨ha, by simp, fun x hx y hy => ?_⟩
  rw [List.mem_singleton] at hy
  subst hy
  have := (fromL_le ha hb).2.2 x hx
  omega
theorem in4_snoc {b : List Int} (hb : in4 b) {k : Int} (h0 : 0 ≤ k) (h3 : k ≤ 3) : in4 (b ++ [k]) := fun x hx => by
  rcases List.mem_append.1 hx with h | h
  · exact hb x h
  · rw [List.mem_singleton] at h; subst h; exact ⟨h0, h3⟩

def nextL (n : Nat) (b : List Int) (f : FansT) (j : Nat) : List (List Int) := if at4 (numF b) ((fromL b).toNat + j) < at4 f ((fromL b).toNat + j) then listsF n (b ++ [(((fromL b).toNat + j : Nat) : Int)]) f else []
theorem listsF_succ (n : Nat) (b : List Int) (f : FansT) : listsF (n + 1) b f = b :: (List.range (4 - (fromL b).toNat)).flatMap (nextL n b f) := rfl
theorem lists_sound {f : FansT} : ∀ {n : Nat} {b l : List Int}, asc b → in4 b → (∀ i, i < 4 → at4 (numF b) i ≤ at4 f i) → l ∈ listsF n b f → b <+: l ∧ asc l ∧ in4 l ∧ ∀ i, i < 4 → at4 (numF l) i ≤ at4 f i
  | 0, b, l, _, _, _, h => by simp [listsF] at h
  | n + 1, b, l, ha, hb, hc, h => by
    rw [listsF_succ] at h
    rcases List.mem_cons.1 h with rfl | h
    · exact ⟨List.prefix_refl _, ha, hb, hc⟩
    · obtain ⟨j, hj, h⟩ := List.mem_flatMap.1 h
      have hj := List.mem_range.1 hj
      have hfr := fromL_le ha hb
      unfold nextL at h
      split at h
      · rename_i hlt
        have hb2 := in4_snoc hb (k := (((fromL b).toNat + j : Nat) : Int)) (by omega) (by omega)
        obtain ⟨g1, g2, g3, g4⟩ := lists_sound (asc_snoc ha hb (by omega)) hb2 (fun i hi => by
          rw [numF_snoc, bump_at (by omega) hi]
          have := hc i hi
          split
          · rename_i e
            have : i = (fromL b).toNat + j := by omega
            subst this; omega
          · omega) h
        exact ⟨(List.prefix_append _ _).trans g1, g2, g3, g4⟩
      · simp at h
theorem lists_complete {f : FansT} : ∀ {n : Nat} {b l : List Int}, asc l → in4 l → (∀ i, i < 4 → at4 (numF l) i ≤ at4 f i) → b <+: l → l.length < b.length + n → l ∈ listsF n b f
  | 0, b, l, _, _, _, hp, h => by have := hp.length_le; omega
  | n + 1, b, l, ha, hl, hc, hp, h => by
    rw [listsF_succ]
    obtain ⟨t, rfl⟩ := hp
    cases t with
    | nil => simp
    | cons k t =>
      refine List.mem_cons_of_mem _ (List.mem_flatMap.2 ?_)
      have hb : in4 b := fun x hx => hl x (by simp [hx])
      have hab : asc b := (List.pairwise_append.1 ha).1
      have hk := hl k (by simp)
      have hfk : fromL b ≤ k := by
        unfold fromL
        by_cases h0 : b.length > 0
        · rw [if_pos h0]
          exact (List.pairwise_append.1 ha).2.2 _ (getD_mem (by omega)) k (by simp)
        · rw [if_neg h0]; exact hk.1
      have hf0 := (fromL_le hab hb).1
      refine ⟨(k - fromL b).toNat, List.mem_range.2 (by omega), ?_⟩
      have ek : (((fromL b).toNat + (k - fromL b).toNat : Nat) : Int) = k := by omega
      have ei : (fromL b).toNat + (k - fromL b).toNat = k.toNat := by omega
      unfold nextL
      rw [ek, ei]
      have hcnt : at4 (numF b) k.toNat < at4 f k.toNat := by
        have := hc k.toNat (by omega)
        rw [num_at hl (by omega)] at this
        rw [num_at hb (by omega)]
        have e2 : ((k.toNat : Nat) : Int) = k := by omega
        rw [e2] at this ⊢
        rw [List.count_append, List.count_cons_self] at this
        omega
      rw [if_pos hcnt]
      have e3 : b ++ k :: t = (b ++ [k]) ++ t := by simp
      rw [e3] at ha hl hc h ⊢
      exact lists_complete ha hl hc (List.prefix_append _ _) (by simp at h ⊢; omega)
theorem lists_order {f : FansT} : ∀ (n : Nat) (b : List Int), asc b → in4 b → (∀ i, i < 4 → at4 (numF b) i ≤ at4 f i) → (listsF n b f).Pairwise fun x y => cmpL x y < 0
  | 0, b, _, _, _ => by simp [listsF]
  | n + 1, b, ha, hb, hc => by
    have hfr := fromL_le ha hb
    have hpre : ∀ {j : Nat} {l : List Int}, j < 4 - (fromL b).toNat → l ∈ nextL n b f j → ∃ t, l = b ++ (((fromL b).toNat + j : Nat) : Int) :: t := fun {j l} hj h => by
      unfold nextL at h
      split at h
      · rename_i hlt
        obtain ⟨⟨t, ht⟩, _⟩ := lists_sound (asc_snoc ha hb (by omega)) (in4_snoc hb (by omega) (by omega)) (fun i hi => by
          rw [numF_snoc, bump_at (by omega) hi]
          have := hc i hi
          split
          · rename_i e
            have : i = (fromL b).toNat + j := by omega
            subst this; omega
          · omega) h
        exact ⟨t, by rw [← ht]; simp⟩
      · simp at h
    rw [listsF_succ, List.pairwise_cons]
    refine ⟨fun y hy => ?_, ?_⟩
    · obtain ⟨j, hj, h⟩ := List.mem_flatMap.1 hy
      obtain ⟨t, rfl⟩ := hpre (List.mem_range.1 hj) h
      have := cmpL_pre b [] ((((fromL b).toNat + j : Nat) : Int) :: t)
      rw [List.append_nil] at this
      rw [this]; show (-1 : Int) < 0; decide
    · have key : ∀ m : Nat, m ≤ 4 - (fromL b).toNat → ((List.range m).flatMap (nextL n b f)).Pairwise fun x y => cmpL x y < 0 := by
        intro m
        induction m with
        | zero => intro _; simp
        | succ m ih =>
          intro hm
          rw [List.range_succ, List.flatMap_append, List.flatMap_singleton, List.pairwise_append]
          refine ⟨ih (by omega), ?_, fun x hx y hy => ?_⟩
          · unfold nextL
            split
            · rename_i hlt
              refine lists_order n _ (asc_snoc ha hb (by omega)) (in4_snoc hb (by omega) (by omega)) fun i hi => ?_
              rw [numF_snoc, bump_at (by omega) hi]
              have := hc i hi
              split
              · rename_i e
                have : i = (fromL b).toNat + m := by omega
                subst this; omega
              · omega
            · simp
          · obtain ⟨j, hj, h⟩ := List.mem_flatMap.1 hx
            have hj := List.mem_range.1 hj
            obtain ⟨t, rfl⟩ := hpre (by omega) h
            obtain ⟨u, rfl⟩ := hpre (by omega) hy
            rw [cmpL_pre, cmpL]
            have : cmpI3 (((fromL b).toNat + j : Nat) : Int) (((fromL b).toNat + m : Nat) : Int) < 0 := cmpI3_lt.2 (by omega)
            rw [if_pos (by omega)]; exact this
      exact key _ (Nat.le_refl _)
theorem allL_mem {f : FansT} (hf : F5 f) {l : List Int} : l ∈ allL f ↔ ∃ s, le4 s f ∧ l = listF s := by
  have h0 : ∀ i, i < 4 → at4 (numF []) i ≤ at4 f i := fun i hi => by
    have : 0 ≤ at4 f i ∧ at4 f i ≤ 4 := all4_at hf hi
    rw [num_at (by intro x hx; simp at hx) hi]; simp; omega
  have le_of : ∀ {s : FansT}, (∀ i, i < 4 → 0 ≤ at4 s i ∧ at4 s i ≤ at4 f i) → le4 s f := fun {s} h => ⟨h 0 (by omega), h 1 (by omega), h 2 (by omega), h 3 (by omega)⟩
  unfold allL
  constructor
  · intro h
    obtain ⟨_, h1, h2, h3⟩ := lists_sound (b := []) List.Pairwise.nil (by intro x hx; simp at hx) h0 h
    refine ⟨numF l, le_of fun i hi => ⟨?_, h3 i hi⟩, listF_num h1 h2⟩
    rw [num_at h2 hi]; omega
  · rintro ⟨s, hs, rfl⟩
    have hsf := hs.fok hf.fok
    have e := numF_list hsf
    refine lists_complete (listF_asc s) (listF_in4 s) (fun i hi => ?_) (List.nil_prefix) ?_
    · rw [e]
      obtain ⟨⟨a1, a2⟩, ⟨b1, b2⟩, ⟨c1, c2⟩, ⟨d1, d2⟩⟩ := hs
      match i, hi with
      | 0, _ => exact a2
      | 1, _ => exact b2
      | 2, _ => exact c2
      | 3, _ => exact d2
    · have h4 := num_sum (listF_in4 s)
      rw [e] at h4
      obtain ⟨⟨a1, a2⟩, ⟨b1, b2⟩, ⟨c1, c2⟩, ⟨d1, d2⟩⟩ := hs
      unfold sumF at h4 ⊢
      simp only [List.length_nil]
      omega
theorem allL_order {f : FansT} (hf : F5 f) : (allL f).Pairwise fun x y => cmpL x y < 0 := lists_order _ _ List.Pairwise.nil (by intro x hx; simp at hx) fun i hi => by
  have : 0 ≤ at4 f i ∧ at4 f i ≤ 4 := all4_at hf hi
  rw [num_at (by intro x hx; simp at hx) hi]; simp; omega
end Go.Proofs.Fa
set_option linter.unusedVariables false
namespace Go.Proofs.Fa
open Go Go.GX Go.Proofs

theorem VOK.n500 {s : Store} {f : List Spring} (v : VOK s f) : s.1.length ≤ 500 := by have := v.n6; omega
theorem VOK.m500 {s : Store} {f : List Spring} (v : VOK s f) : s.2.2.length ≤ 500 := by have := v.n5; omega
theorem dot_const (s : FansT) (e : Int) : GX.Fa.dot s (tup4 fun _ => e) = sumF s * e := by
  show s.1 * e + s.2.1 * e + s.2.2.1 * e + s.2.2.2 * e = (s.1 + s.2.1 + s.2.2.1 + s.2.2.2) * e
  rw [Int.add_mul, Int.add_mul, Int.add_mul]
theorem isNo_sum {s : FansT} (h : all4 (fun x => 0 ≤ x ∧ x ≤ 4) s) : (GX.Fa.isNo s = true ∧ sumF s = 0) ∨ (GX.Fa.isNo s = false ∧ 1 ≤ sumF s) := by
  obtain ⟨⟨a1, a2⟩, ⟨b1, b2⟩, ⟨c1, c2⟩, ⟨d1, d2⟩⟩ := h
  by_cases g : sumF s = 0
  · refine .inl ⟨?_, g⟩
    unfold sumF at g
    simp only [GX.Fa.isNo, Bool.and_eq_true, beq_iff_eq]
    exact ⟨by omega, by omega, by omega, by omega⟩
  · refine .inr ⟨?_, ?_⟩
    · rw [Bool.eq_false_iff]
      intro hh
      simp only [GX.Fa.isNo, Bool.and_eq_true, beq_iff_eq] at hh
      unfold sumF at g
      omega
    · unfold sumF at g ⊢; omega
theorem leavesR_ok {ls : List Int} {seam : Int} {c : FansT} {each first : Int} (hn : ls.length ≤ 100) (hl : ∀ l, l ∈ ls → bnd 400 l) (hs : bnd 400 seam) (hc : all4 (bnd 400) c) (he : bnd 1000 each) (hf : bnd 1000 first) (h0 : 0 ≤ each) (h1 : 0 ≤ each + first) : Bins0 (leavesR ls seam c each first) := by
  refine ⟨⟨by simp only [leavesR, List.length_map]; omega, fun b hb => ?_⟩, fun b hb s hs5 _ => ?_, by simpa [leavesR] using hn⟩
  · simp only [leavesR, List.mem_map] at hb
    obtain ⟨p, hp, rfl⟩ := hb
    have hp := hl p hp
    refine ⟨all4_tup fun i hi => ?_, all4_tup fun i hi => ?_, ?_, ?_⟩
    · have := all4_at hc hi
      exact ⟨by have := this.1; have := hs.1; omega, by have := this.2; have := hs.2; omega⟩
    · exact ⟨by have := he.1; omega, by have := he.2; omega⟩
    · exact ⟨by show -1000000 ≤ p + seam; have := hp.1; have := hs.1; omega, by show p + seam ≤ 1000000; have := hp.2; have := hs.2; omega⟩
    · exact ⟨by show -1000000 ≤ first; have := hf.1; omega, by show first ≤ 1000000; have := hf.2; omega⟩
  · simp only [leavesR, List.mem_map] at hb
    obtain ⟨p, hp, rfl⟩ := hb
    show 0 ≤ GX.Fa.dot s (tup4 fun _ => each) + (if GX.Fa.isNo s then 0 else first)
    rw [dot_const]
    rcases isNo_sum hs5 with ⟨g1, g2⟩ | ⟨g1, g2⟩
    · rw [g1, g2, if_pos rfl]; omega
    · rw [g1, if_neg (by simp)]
      have := Int.mul_le_mul_of_nonneg_right g2 h0
      omega
theorem lotsR_ok {ls : List Lot} {f : List Spring} {c : FansT} (hn : ls.length ≤ 100) (hl : ∀ l, l ∈ ls → bnd 400 l.1 ∧ bnd 400 l.2) (hsp : ∀ s, s ∈ f → bnd 400 s.2.2) (hc : all4 (bnd 400) c) (h0 : all4 (fun x => 0 ≤ x) c) : Bins0 (lotsR ls f c) := by
  refine ⟨⟨by simp only [lotsR, List.length_map]; omega, fun b hb => ?_⟩, fun b hb s hs5 _ => ?_, by simpa [lotsR] using hn⟩
  · simp only [lotsR, List.mem_map] at hb
    obtain ⟨l, hl', rfl⟩ := hb
    have hl := hl l hl'
    refine ⟨all4_tup fun i hi => ?_, all4_tup fun i hi => ?_, ?_, ⟨by show -1000000 ≤ (0 : Int); omega, by show (0 : Int) ≤ 1000000; omega⟩⟩
    · have := all4_at hc hi
      split
      · split
        · exact ⟨by omega, by omega⟩
        · exact ⟨by have := this.1; omega, by have := this.2; omega⟩
      · exact ⟨by omega, by omega⟩
    · split
      · rename_i hlt
        split
        · exact ⟨by omega, by omega⟩
        · have h1 := all4_at hc hi
          have h2 := hsp _ (getD_mem (d := ((0, 0), 0, 0)) hlt)
          have h3 : bnd 800 (l.1 - (f.getD i ((0, 0), 0, 0)).2.2) := ⟨by have := hl.1.1; have := h2.2; omega, by have := hl.1.2; have := h2.1; omega⟩
          have h4 := bnd_mul (by omega) h1 h3
          exact ⟨by have := h4.1; omega, by have := h4.2; omega⟩
      · exact ⟨by omega, by omega⟩
    · exact ⟨by show -1000000 ≤ l.2; have := hl.2.1; omega, by show l.2 ≤ 1000000; have := hl.2.2; omega⟩
  · simp only [lotsR, List.mem_map] at hb
    obtain ⟨l, hl', rfl⟩ := hb
    have key : all4 (fun x => 0 ≤ x) (lotR f c l).2.1 := all4_tup fun i hi => by
      split
      · split
        · omega
        · rename_i hgt
          exact Int.mul_nonneg (all4_at h0 hi) (by omega)
      · omega
    have : 0 ≤ GX.Fa.dot s (lotR f c l).2.1 := by
      unfold GX.Fa.dot
      have g1 := Int.mul_nonneg hs5.1.1 key.1
      have g2 := Int.mul_nonneg hs5.2.1.1 key.2.1
      have g3 := Int.mul_nonneg hs5.2.2.1.1 key.2.2.1
      have g4 := Int.mul_nonneg hs5.2.2.2.1 key.2.2.2
      omega
    show 0 ≤ GX.Fa.dot s (lotR f c l).2.1 + (if GX.Fa.isNo s then 0 else 0)
    rw [ite_self]; omega
theorem cnt400 {c : FansT} (h : all4 (fun x => 0 ≤ x ∧ x ≤ 40) c) : all4 (bnd 400) c := all4_mono (fun x h => ⟨by omega, by omega⟩) h
theorem cnt0 {c : FansT} (h : all4 (fun x => 0 ≤ x ∧ x ≤ 40) c) : all4 (fun x => 0 ≤ x) c := all4_mono (fun x h => h.1) h
theorem VOK.lv4 {s : Store} {f : List Spring} (v : VOK s f) : ∀ l, l ∈ s.1 → bnd 400 l := fun l hl => by have := v.lv l hl; exact ⟨by omega, by omega⟩
theorem VOK.sm4 {s : Store} {f : List Spring} (v : VOK s f) : bnd 400 s.2.1 := by have := v.sm; exact ⟨by omega, by omega⟩
theorem VOK.lt4 {s : Store} {f : List Spring} (v : VOK s f) : ∀ l, l ∈ s.2.2 → bnd 400 l.1 ∧ bnd 400 l.2 := fun l hl => by have := v.lt l hl; exact ⟨⟨by omega, by omega⟩, ⟨by omega, by omega⟩⟩
theorem VOK.sp4 {s : Store} {f : List Spring} (v : VOK s f) : ∀ s, s ∈ f → bnd 400 s.2.2 := fun x hx => by have := v.sp x hx; exact ⟨by omega, by omega⟩
theorem VOK.lvR {s : Store} {f : List Spring} (v : VOK s f) {c : FansT} (hc : all4 (fun x => 0 ≤ x ∧ x ≤ 40) c) : Bins0 (lvR s c 0 0) :=
  leavesR_ok (by have := v.n6; omega) v.lv4 v.sm4 (cnt400 hc) ⟨by omega, by omega⟩ ⟨by omega, by omega⟩ (by omega) (by omega)
theorem VOK.lvS {s : Store} {f : List Spring} (v : VOK s f) {c : FansT} (hc : all4 (fun x => 0 ≤ x ∧ x ≤ 40) c) : Bins0 (Fa.lvR s c s.2.1 (-s.2.1)) :=
  leavesR_ok (by have := v.n6; omega) v.lv4 v.sm4 (cnt400 hc) (by have := v.sm; exact ⟨by omega, by omega⟩) (by have := v.sm; exact ⟨by omega, by omega⟩) v.sm.1 (by omega)
theorem VOK.ltR {s : Store} {f : List Spring} (v : VOK s f) {c : FansT} (hc : all4 (fun x => 0 ≤ x ∧ x ≤ 40) c) : Bins0 (ltR s f c) :=
  lotsR_ok (by have := v.n5; omega) v.lt4 v.sp4 (cnt400 hc) (cnt0 hc)
end Go.Proofs.Fa
set_option linter.unusedVariables false
set_option maxRecDepth 100000
namespace Go.Proofs.Fa
open Go Go.GX Go.Proofs

end Go.Proofs.Fa
set_option linter.unusedVariables false
namespace Go.Proofs.Fa
open Go Go.GX Go.Proofs

theorem le4.F5 {s f : FansT} (h : le4 s f) (hf : F5 f) : F5 s ∧ F5 (GX.Fa.less f s) := by
  obtain ⟨⟨a1, a2⟩, ⟨b1, b2⟩, ⟨c1, c2⟩, ⟨d1, d2⟩⟩ := h
  obtain ⟨⟨a3, a4⟩, ⟨b3, b4⟩, ⟨c3, c4⟩, ⟨d3, d4⟩⟩ := hf
  refine ⟨⟨⟨by omega, by omega⟩, ⟨by omega, by omega⟩, ⟨by omega, by omega⟩, ⟨by omega, by omega⟩⟩, ⟨⟨?_, ?_⟩, ⟨?_, ?_⟩, ⟨?_, ?_⟩, ⟨?_, ?_⟩⟩⟩ <;> simp only [GX.Fa.less] <;> omega
end Go.Proofs.Fa
set_option linter.unusedVariables false
namespace Go.Proofs.Fa
open Go Go.GX Go.Proofs

theorem cH_at {f : List Spring} {i : Nat} (hi : i < 4) : at4 (cH f) i = if i < f.length then (f.getD i ((0, 0), 0, 0)).1.2 else 0 := at4_tup _ hi
theorem want_at {f : List Spring} {i : Nat} (hi : i < 4) : at4 (wantF f) i = if i < f.length then (f.getD i ((0, 0), 0, 0)).2.1 else 0 := at4_tup _ hi
def totS (f : List Spring) (seam : Int) : List Int → Bool → Int
  | [], _ => 0
  | sp :: r, first => (f.getD sp.toNat ((0, 0), 0, 0)).1.2 + (if first then 0 else seam) + totS f seam r false
theorem getH0 {f : List Spring} (hf : ∀ s, s ∈ f → 0 ≤ s.1.2 ∧ s.1.2 ≤ 40) (i : Nat) : 0 ≤ (f.getD i ((0, 0), 0, 0)).1.2 ∧ (f.getD i ((0, 0), 0, 0)).1.2 ≤ 40 := by
  by_cases hl : i < f.length
  · exact hf _ (getD_mem hl)
  · rw [List.getD_eq_getElem?_getD, List.getElem?_eq_none (by omega)]; exact ⟨Int.le_refl _, by show (0 : Int) ≤ 40; omega⟩
theorem totS_bnd {f : List Spring} {seam : Int} (hf : ∀ s, s ∈ f → 0 ≤ s.1.2 ∧ s.1.2 ≤ 40) (hs : 0 ≤ seam ∧ seam ≤ 10) : ∀ (l : List Int) (first : Bool), 0 ≤ totS f seam l first ∧ totS f seam l first ≤ (l.length : Int) * 50
  | [], _ => ⟨Int.le_refl _, by simp [totS]⟩
  | sp :: r, first => by
    have ih := totS_bnd hf hs r false
    have g := getH0 hf sp.toNat
    simp only [totS, List.length_cons]
    push_cast
    split <;> omega
theorem totS_snoc {f : List Spring} {seam : Int} (x : Int) : ∀ (l : List Int) (first : Bool), totS f seam (l ++ [x]) first = totS f seam l first + (f.getD x.toNat ((0, 0), 0, 0)).1.2 + (if first && l.isEmpty then 0 else seam)
  | [], first => by simp [totS]
  | sp :: r, first => by
    simp only [List.cons_append, totS, totS_snoc x r false, List.isEmpty_cons, Bool.and_false, Bool.false_and]
    omega
theorem restGo_tot {f : List Spring} {seam : Int} (hf : ∀ s, s ∈ f → 0 ≤ s.1.2 ∧ s.1.2 ≤ 40) (hs : 0 ≤ seam ∧ seam ≤ 10) : ∀ (l : List Int) (first : Bool) (left : Int), 0 ≤ left → restGo f seam l first left = if left - totS f seam l first < 0 then none else some (left - totS f seam l first)
  | [], first, left, h => by
    show some left = if left - 0 < 0 then none else some (left - 0)
    rw [Int.sub_zero, if_neg (by omega)]
  | sp :: r, first, left, h => by
    have ht := totS_bnd hf hs r false
    have e : left - totS f seam (sp :: r) first = restNx f seam sp first left - totS f seam r false := by
      simp only [totS, restNx]; omega
    simp only [restGo]
    rw [e]
    split
    · rw [if_pos (by omega)]
    · rw [restGo_tot hf hs r false _ (by omega)]
end Go.Proofs.Fa
set_option maxRecDepth 100000
namespace Go.Proofs.Fa
open Go Go.GX Go.Proofs
variable [Inhabited BaseD]
theorem ok38 : CallsOK Try.prog (assoc glT) 38 f38_ct :=
  callsOK_mkM [] st_ok mp_ok it_ok mk_ok in_ok AllOK.nil one_an Try.func38 (by kernel_rfl) (by kernel_rfl) f38_ct fun ⟨a, b, _⟩ _ Q h => (v38 a b Q).mp (p38 h)
theorem ok28 : CallsOK Try.prog (assoc glT) 28 f28_ct :=
  callsOK_mkM [] st_ok mp_ok it_ok mk_ok in_ok (AllOK.cons ok38 AllOK.nil) one_an Try.func28 (by kernel_rfl) (by kernel_rfl) f28_ct fun ⟨a, b, _⟩ _ Q h => (v28 a b Q).mp (p28 h)
end Go.Proofs.Fa
set_option linter.unusedVariables false
set_option maxRecDepth 100000
namespace Go.Proofs.Fa
open Go Go.GX Go.Proofs

def V55 (a : Int) (b : Int) (Q : Int × Int → Prop) : Prop := Q (a, b)
theorem v55 (a : Int) (b : Int) (Q : Int × Int → Prop) : V55 a b Q = vcFunc (S0 [] []) f55_ct.own f55_ct.fresh no_an Try.f55 (bodyOf Try.f55) f55_ct.A f55_ct.C f55_ct.R (a, b, ()) () Q := by kernel_rfl

def V56 (Q : List Int × Int × List (Int × Int) → Prop) : Prop := Q ((30 : Int) :: (28 : Int) :: (34 : Int) :: ([] : List Int), (2 : Int), ((35 : Int), (40 : Int)) :: ((25 : Int), (40 : Int)) :: ([] : List (Int × Int)))
theorem v56 (Q : List Int × Int × List (Int × Int) → Prop) : V56 Q = vcFunc (S0 [] []) f56_ct.own f56_ct.fresh no_an Try.f56 (bodyOf Try.f56) f56_ct.A f56_ct.C f56_ct.R () () Q := by kernel_rfl

def V57 (Q : List Spring → Prop) : Prop := f55_wp ((14 : Int), (16 : Int), ()) () fun (r : Int × Int) ↦ f55_wp ((10 : Int), (10 : Int), ()) () fun (r_1 : Int × Int) ↦ Q (((r.1, r.2), (2 : Int), (20 : Int)) :: ((r_1.1, r_1.2), (3 : Int), (30 : Int)) :: ([] : List Spring))
theorem v57 (Q : List Spring → Prop) : V57 Q = vcFunc (S0 [(55, f55_ct)] [104]) f57_ct.own f57_ct.fresh no_an Try.f57 (bodyOf Try.f57) f57_ct.A f57_ct.C f57_ct.R () () Q := by kernel_rfl

def V17 (Q : Bool → Prop) : Prop := f56_wp () () fun (r : List Int × Int × List (Int × Int)) ↦ f57_wp () () fun (r_1 : List Spring) ↦ f21_wp ((r.1, r.2.1, r.2.2), r_1, ()) () fun (r : List (List Int) × Int × Unit) ↦ f56_wp () () fun (r_2 : List Int × Int × List (Int × Int)) ↦ f57_wp () () fun (r_3 : List Spring) ↦ f29_wp ((r_2.1, r_2.2.1, r_2.2.2), r_3, ()) () fun (r_4 : List (List Int) × Int × Unit) ↦ f56_wp () () fun (r_5 : List Int × Int × List (Int × Int)) ↦ f57_wp () () fun (r_6 : List Spring) ↦ f39_wp ((r_5.1, r_5.2.1, r_5.2.2), r_6, ()) () fun (r_7 : Int × Int × Int × Unit) ↦ f57_wp () () fun (r_8 : List Spring) ↦ (0 : Int) ≤ (0 : Int) ∧ (0 : Int) < (↑(List.length r_8) : Int) ∧ f56_wp () () fun (r_9 : List Int × Int × List (Int × Int)) ↦ f50_wp ((r_9.1, r_9.2.1, r_9.2.2), List.set r_8 (Int.toNat (0 : Int)) ((Prod.fst (Prod.fst (List.getD r_8 (Int.toNat (0 : Int)) (((0 : Int), (0 : Int)), (0 : Int), (0 : Int)))), Prod.snd (Prod.fst (List.getD r_8 (Int.toNat (0 : Int)) (((0 : Int), (0 : Int)), (0 : Int), (0 : Int))))), (3 : Int), Prod.snd (Prod.snd (List.getD r_8 (Int.toNat (0 : Int)) (((0 : Int), (0 : Int)), (0 : Int), (0 : Int))))), ()) () fun (r_10 : List Int × Int × Unit) ↦ f56_wp () () fun (r_11 : List Int × Int × List (Int × Int)) ↦ (0 : Int) ≤ (0 : Int) ∧ (0 : Int) ≤ (2 : Int) ∧ (2 : Int) ≤ (↑(List.length r_11.1) : Int) ∧ ∃ (r_12 : List Spring), (f57_wp () () fun (r' : List Spring) ↦ r' = r_12) ∧ ∃ (r_13 : Int × Int × Unit), (f31_wp ((List.drop (Int.toNat (0 : Int)) (List.take (Int.toNat (2 : Int)) r_11.1), r_11.2.1, r_11.2.2), r_12, (40 : Int), ()) () fun (r' : Int × Int × Unit) ↦ r' = r_13) ∧ ∃ (r_14 : List Spring), (f57_wp () () fun (r' : List Spring) ↦ r' = r_14) ∧ ∃ (r_15 : Int × Int × Int × Unit), (f34_wp ((List.drop (Int.toNat (0 : Int)) (List.take (Int.toNat (2 : Int)) r_11.1), r_11.2.1, r_11.2.2), r_14, (40 : Int), ()) () fun (r' : Int × Int × Int × Unit) ↦ r' = r_15) ∧ f56_wp () () fun (r_16 : List Int × Int × List (Int × Int)) ↦ f57_wp () () fun (r_17 : List Spring) ↦ f36_wp ((r_16.1, r_16.2.1, r_16.2.2), r_17, ((0 : Int) :: ([] : List Int)) :: ((0 : Int) :: ([] : List Int)) :: ((1 : Int) :: (1 : Int) :: (1 : Int) :: ([] : List Int)) :: ([] : List (List Int)), ()) () fun (r_18 : List Int × Int × Unit) ↦ f56_wp () () fun (r_19 : List Int × Int × List (Int × Int)) ↦ f57_wp () () fun (r_20 : List Spring) ↦ f41_wp ((r_19.1, r_19.2.1, r_19.2.2), r_20, (0 : Int), ()) () fun (r_21 : Int × Int × Unit) ↦ cnd (r.2.1 != (0 : Int)) (Q false) (cnd (r_4.2.1 != (0 : Int)) (Q false) (cnd (r_7.2.2.1 != (0 : Int)) (Q false) (cnd (r_10.2.1 != (0 : Int)) (Q false) (cnd (r_13.2.1 != (0 : Int)) (Q false) (cnd (r_15.2.2.1 != (0 : Int)) (Q false) (cnd (r_18.2.1 != (0 : Int)) (Q false) (cnd (r_21.2.1 != (0 : Int)) (Q false) (f28_wp (r.1, ((0 : Int) :: ([] : List Int)) :: ((0 : Int) :: ([] : List Int)) :: ((1 : Int) :: (1 : Int) :: (1 : Int) :: ([] : List Int)) :: ([] : List (List Int)), ()) () fun (r : Bool) ↦ cnd r (f28_wp (r_4.1, ((1 : Int) :: (1 : Int) :: (1 : Int) :: ([] : List Int)) :: ((0 : Int) :: (0 : Int) :: ([] : List Int)) :: ([] : List (List Int)), ()) () fun (r : Bool) ↦ cnd r (cnd (r_7.1 == (4 : Int)) (cnd (r_7.2.1 == (310 : Int)) (f38_wp (r_10.1, (3 : Int) :: (2 : Int) :: ([] : List Int), ()) () fun (r : Bool) ↦ cnd r (cnd (r_13.1 == (1 : Int)) (cnd (r_15.1 == (1 : Int)) (cnd (r_15.2.1 == (1 : Int)) (f38_wp (r_18.1, (12 : Int) :: (10 : Int) :: (0 : Int) :: ([] : List Int), ()) () fun (r : Bool) ↦ cnd r (Q (r_21.1 == (20 : Int))) (Q false)) (Q false)) (Q false)) (Q false)) (Q false)) (Q false)) (Q false)) (Q false)) (Q false)))))))))
theorem v17 (Q : Bool → Prop) : V17 Q = vcFunc (S0 [(56, f56_ct), (57, f57_ct), (21, f21_ct), (29, f29_ct), (39, f39_ct), (50, f50_ct), (31, f31_ct), (34, f34_ct), (36, f36_ct), (41, f41_ct), (28, f28_ct), (38, f38_ct)] []) f17_ct.own f17_ct.fresh no_an Try.f17 (bodyOf Try.f17) f17_ct.A f17_ct.C f17_ct.R () () Q := by kernel_rfl

def V3 (s : List Int × Int × List (Int × Int)) (f : List Spring) (Q : Bool → Prop) : Prop := f16_wp ((s.1, s.2.1, s.2.2), f, ()) () fun (r : Bool) ↦ cnd r (f17_wp () () fun (r : Bool) ↦ Q r) (f18_wp (s.1, s.2.1, s.2.2) () fun (r : List Int × Int × List (Int × Int)) ↦ f19_wp f () fun (r_1 : List Spring) ↦ f20_wp ((r.1, r.2.1, r.2.2), r_1, ()) () fun (r_2 : Int) ↦ f21_wp ((r.1, r.2.1, r.2.2), r_1, ()) () fun (r_3 : List (List Int) × Int × Unit) ↦ f22_wp ((s.1, s.2.1, s.2.2), f, ()) () fun (r_4 : Int) ↦ f23_wp ((r.1, r.2.1, r.2.2), (s.1, s.2.1, s.2.2), r_1, f, ()) () fun (r : Bool) ↦ cnd (!r) (Q false) (cnd (r_2 != r_4) (Q false) (cnd (r_4 == (0 : Int)) (∃ (r : Int × Int × Int × Int), (f26_wp (f, true, ()) () fun (r' : Int × Int × Int × Int) ↦ r' = r) ∧ ∃ (r_5 : List BinT), (f25_wp (s.1, s.2.1, (r.1, r.2.1, r.2.2.1, r.2.2.2), (0 : Int), (1 : Int), ()) () fun (r' : List BinT) ↦ r' = r_5) ∧ ∃ (r : Int × Int × Int × Int), (f27_wp f () fun (r' : Int × Int × Int × Int) ↦ r' = r) ∧ ∃ (r_6 : List (List Int) × Bool × Unit), (f24_wp (r_5, (r.1, r.2.1, r.2.2.1, r.2.2.2), ()) () fun (r' : List (List Int) × Bool × Unit) ↦ r' = r_6) ∧ cnd r_6.2.1 (cnd (r_3.2.1 == (0 : Int)) (f28_wp (r_3.1, r_6.1, ()) () fun (r : Bool) ↦ cnd r (f17_wp () () fun (r : Bool) ↦ Q r) (Q false)) (Q false)) (cnd (r_3.2.1 == (9 : Int)) (List.length r_3.1 ≤ (9223372036854775807 : Nat) → cnd ((↑(List.length r_3.1) : Int) == (0 : Int)) (f17_wp () () fun (r : Bool) ↦ Q r) (Q false)) (Q false))) (cnd (r_3.2.1 == r_4) (List.length r_3.1 ≤ (9223372036854775807 : Nat) → cnd ((↑(List.length r_3.1) : Int) == (0 : Int)) (f17_wp () () fun (r : Bool) ↦ Q r) (Q false)) (Q false)))))
theorem v3 (s : List Int × Int × List (Int × Int)) (f : List Spring) (Q : Bool → Prop) : V3 s f Q = vcFunc (S0 [(16, f16_ct), (17, f17_ct), (18, f18_ct), (19, f19_ct), (20, f20_ct), (21, f21_ct), (22, f22_ct), (23, f23_ct), (26, f26_ct), (25, f25_ct), (27, f27_ct), (24, f24_ct), (28, f28_ct)] []) f3_ct.own f3_ct.fresh no_an Try.f3 (bodyOf Try.f3) f3_ct.A f3_ct.C f3_ct.R (s, f, ()) () Q := by kernel_rfl

def V4 (s : List Int × Int × List (Int × Int)) (f : List Spring) (Q : Bool → Prop) : Prop := f16_wp ((s.1, s.2.1, s.2.2), f, ()) () fun (r : Bool) ↦ cnd r (f17_wp () () fun (r : Bool) ↦ Q r) (f18_wp (s.1, s.2.1, s.2.2) () fun (r : List Int × Int × List (Int × Int)) ↦ f19_wp f () fun (r_1 : List Spring) ↦ f29_wp ((r.1, r.2.1, r.2.2), r_1, ()) () fun (r_2 : List (List Int) × Int × Unit) ↦ f22_wp ((s.1, s.2.1, s.2.2), f, ()) () fun (r_3 : Int) ↦ f23_wp ((r.1, r.2.1, r.2.2), (s.1, s.2.1, s.2.2), r_1, f, ()) () fun (r : Bool) ↦ cnd (!r) (Q false) (cnd (r_3 == (0 : Int)) (∃ (r : Int × Int × Int × Int), (f26_wp (f, true, ()) () fun (r' : Int × Int × Int × Int) ↦ r' = r) ∧ ∃ (r_4 : List BinT), (f30_wp (s.2.2, f, (r.1, r.2.1, r.2.2.1, r.2.2.2), ()) () fun (r' : List BinT) ↦ r' = r_4) ∧ ∃ (r : Int × Int × Int × Int), (f27_wp f () fun (r' : Int × Int × Int × Int) ↦ r' = r) ∧ ∃ (r_5 : List (List Int) × Bool × Unit), (f24_wp (r_4, (r.1, r.2.1, r.2.2.1, r.2.2.2), ()) () fun (r' : List (List Int) × Bool × Unit) ↦ r' = r_5) ∧ cnd r_5.2.1 (cnd (r_2.2.1 == (0 : Int)) (f28_wp (r_2.1, r_5.1, ()) () fun (r : Bool) ↦ cnd r (f17_wp () () fun (r : Bool) ↦ Q r) (Q false)) (Q false)) (cnd (r_2.2.1 == (9 : Int)) (List.length r_2.1 ≤ (9223372036854775807 : Nat) → cnd ((↑(List.length r_2.1) : Int) == (0 : Int)) (f17_wp () () fun (r : Bool) ↦ Q r) (Q false)) (Q false))) (cnd (r_2.2.1 == r_3) (List.length r_2.1 ≤ (9223372036854775807 : Nat) → cnd ((↑(List.length r_2.1) : Int) == (0 : Int)) (f17_wp () () fun (r : Bool) ↦ Q r) (Q false)) (Q false))))
theorem v4 (s : List Int × Int × List (Int × Int)) (f : List Spring) (Q : Bool → Prop) : V4 s f Q = vcFunc (S0 [(16, f16_ct), (17, f17_ct), (18, f18_ct), (19, f19_ct), (29, f29_ct), (22, f22_ct), (23, f23_ct), (26, f26_ct), (30, f30_ct), (27, f27_ct), (24, f24_ct), (28, f28_ct)] []) f4_ct.own f4_ct.fresh no_an Try.f4 (bodyOf Try.f4) f4_ct.A f4_ct.C f4_ct.R (s, f, ()) () Q := by kernel_rfl

end Go.Proofs.Fa
set_option linter.unusedVariables false
set_option maxRecDepth 100000
namespace Go.Proofs.Fa
open Go Go.GX Go.Proofs

theorem p55 {a b : Int} {Q : Int × Int → Prop} (h : f55_wp (a, b, ()) () Q) : V55 a b Q := h
theorem p56 {Q : Store → Prop} (h : f56_wp () () Q) : V56 Q := h
theorem p57 {Q : List Spring → Prop} (h : f57_wp () () Q) : V57 Q := h
def stL : Store := ([30, 28], 2, [(35, 40), (25, 40)])
def spT : List Spring := [((14, 16), 3, 20), ((10, 10), 3, 30)]
theorem d21 : resLeaves stD spD = ([[0], [0], [1, 1, 1]], 0) := by decide +kernel
theorem d29 : resLots stD spD = ([[1, 1, 1], [0, 0]], 0) := by decide +kernel
theorem d39 : resLoss stD spD = (4, 310, 0) := by decide +kernel
theorem d50 : resMost stD spT = ([3, 2], 0) := by decide +kernel
theorem d31 : resNew stL spD 40 = (1, 0) := by decide +kernel
theorem d34 : resBound stL spD 40 = (1, 1, 0) := by decide +kernel
theorem d36 : resRest stD spD [[0], [0], [1, 1, 1]] = ([12, 10, 0], 0) := by decide +kernel
theorem d41 : resRise stD spD 0 = (20, 0) := by decide +kernel
theorem p17 {Q : Bool → Prop} (h : f17_wp () () Q) : V17 Q := by
  have h : Q true := h
  refine ⟨by decide, by decide, by decide, by decide, by decide, _, rfl, _, rfl, _, rfl, _, rfl, ?_⟩
  show cnd ((resLeaves stD spD).2 != 0) (Q false) (cnd ((resLots stD spD).2 != 0) (Q false) (cnd ((resLoss stD spD).2.2 != 0) (Q false) (cnd ((resMost stD spT).2 != 0) (Q false) (cnd ((resNew stL spD 40).2 != 0) (Q false) (cnd ((resBound stL spD 40).2.2 != 0) (Q false) (cnd ((resRest stD spD [[0], [0], [1, 1, 1]]).2 != 0) (Q false) (cnd ((resRise stD spD 0).2 != 0) _
    (cnd (decide ((resLeaves stD spD).1 = [[0], [0], [1, 1, 1]])) (cnd (decide ((resLots stD spD).1 = [[1, 1, 1], [0, 0]])) (cnd ((resLoss stD spD).1 == 4) (cnd ((resLoss stD spD).2.1 == 310) (cnd (decide ((resMost stD spT).1 = [3, 2])) (cnd ((resNew stL spD 40).1 == 1) (cnd ((resBound stL spD 40).1 == 1) (cnd ((resBound stL spD 40).2.1 == 1) (cnd (decide ((resRest stD spD [[0], [0], [1, 1, 1]]).1 = [12, 10, 0])) (Q ((resRise stD spD 0).1 == 20)) (Q false)) (Q false)) (Q false)) (Q false)) (Q false)) (Q false)) (Q false)) (Q false)) (Q false)))))))))
  rw [d21, d29, d39, d50, d31, d34, d36, d41]
  exact h
theorem known {Q : Bool → Prop} (h : Q true) : f17_wp () () fun r => Q r := h
theorem beqT {a b : Int} (h : a = b) : (a == b) = true := by simp [h]
theorem cndE {a b : Int} {p q : Prop} (h : a = b) (hp : p) : cnd (a == b) p q := by rw [beqT h]; exact hp
theorem cndD {c : Prop} [Decidable c] {p q : Prop} (h : c) (hp : p) : cnd (decide c) p q := by rw [decide_eq_true h]; exact hp
theorem cndN {a b : Int} {p q : Prop} (h : a = b) (hq : q) : cnd (a != b) p q := by rw [bne, beqT h]; exact hq
theorem cndEe {a b : Int} {p q : Prop} (h : a ≠ b) (hq : q) : cnd (a == b) p q := by
  have : (a == b) = false := by simp [h]
  rw [this]; exact hq
theorem large_iff {s : Store} {f : List Spring} {Q : Bool → Prop} {T : Prop} (h : Q true) (hT : s.1.length ≤ 8 → s.2.2.length ≤ 8 → f.length ≤ 8 → T) : cnd (decide (8 < s.1.length ∨ 8 < s.2.2.length ∨ 8 < f.length)) (f17_wp () () fun r => Q r) T :=
  cnd_iff.2 ⟨fun _ => known h, fun h1 => by
    have h1 := of_decide_eq_false h1
    exact hT (by omega) (by omega) (by omega)⟩
theorem same_iff {s : Store} {f : List Spring} {p q : Prop} (h : q) : cnd (!(decide (s = s ∧ f = f))) p q := by
  rw [decide_eq_true ⟨rfl, rfl⟩]; exact h
end Go.Proofs.Fa
set_option maxRecDepth 100000
set_option maxHeartbeats 0
namespace Go.Proofs.Fa
open Go Go.GX Go.Proofs
variable [Inhabited BaseD]
theorem ok55 : CallsOK Try.prog (assoc glT) 55 f55_ct :=
  callsOK_mkM [] st_ok mp_ok it_ok mk_ok in_ok AllOK.nil no_an Try.func55 (by kernel_rfl) (by kernel_rfl) f55_ct fun ⟨a, b, _⟩ _ Q h => (v55 a b Q).mp (p55 h)
theorem ok56 : CallsOK Try.prog (assoc glT) 56 f56_ct :=
  callsOK_mkM [] st_ok mp_ok it_ok mk_ok in_ok AllOK.nil no_an Try.func56 (by kernel_rfl) (by kernel_rfl) f56_ct fun _ _ Q h => (v56  Q).mp (p56 h)
theorem ok57 : CallsOK Try.prog (assoc glT) 57 f57_ct :=
  callsOK_mkM [104] st_ok mp_ok it_ok mk_ok in_ok (AllOK.cons ok55 AllOK.nil) no_an Try.func57 (by kernel_rfl) (by kernel_rfl) f57_ct fun _ _ Q h => (v57  Q).mp (p57 h)
theorem ok17 : CallsOK Try.prog (assoc glT) 17 f17_ct :=
  callsOK_mkM [] st_ok mp_ok it_ok mk_ok in_ok (AllOK.cons ok56 (AllOK.cons ok57 (AllOK.cons ok21 (AllOK.cons ok29 (AllOK.cons ok39 (AllOK.cons ok50 (AllOK.cons ok31 (AllOK.cons ok34 (AllOK.cons ok36 (AllOK.cons ok41 (AllOK.cons ok28 (AllOK.cons ok38 AllOK.nil)))))))))))) no_an Try.func17 (by kernel_rfl) (by kernel_rfl) f17_ct fun _ _ Q h => (v17  Q).mp (p17 h)
end Go.Proofs.Fa
set_option linter.unusedVariables false
namespace Go.Proofs.Fa
open Go Go.GX Go.Proofs

theorem ge0_iff {f s : FansT} : ge0 (GX.Fa.less f s) = true ↔ s.1 ≤ f.1 ∧ s.2.1 ≤ f.2.1 ∧ s.2.2.1 ≤ f.2.2.1 ∧ s.2.2.2 ≤ f.2.2.2 := by
  show (decide (0 ≤ f.1 - s.1) && decide (0 ≤ f.2.1 - s.2.1) && decide (0 ≤ f.2.2.1 - s.2.2.1) && decide (0 ≤ f.2.2.2 - s.2.2.2)) = true ↔ _
  simp only [Bool.and_eq_true, decide_eq_true_eq]
  constructor
  · rintro ⟨⟨⟨h1, h2⟩, h3⟩, h4⟩; exact ⟨by omega, by omega, by omega, by omega⟩
  · rintro ⟨h1, h2, h3, h4⟩; exact ⟨⟨⟨by omega, by omega⟩, by omega⟩, by omega⟩
theorem le4_of {f s : FansT} (hs : F5 s) (h : ge0 (GX.Fa.less f s) = true) : le4 s f := by
  obtain ⟨h1, h2, h3, h4⟩ := ge0_iff.1 h
  exact ⟨⟨hs.1.1, h1⟩, ⟨hs.2.1.1, h2⟩, ⟨hs.2.2.1.1, h3⟩, ⟨hs.2.2.2.1, h4⟩⟩
theorem le4_ge {f s : FansT} (h : le4 s f) : ge0 (GX.Fa.less f s) = true := ge0_iff.2 ⟨h.1.2, h.2.1.2, h.2.2.1.2, h.2.2.2.2⟩
theorem le4_F5 {s f : FansT} (h : le4 s f) (hf : F5 f) : F5 s ∧ F5 (GX.Fa.less f s) := by
  obtain ⟨⟨a1, a2⟩, ⟨b1, b2⟩, ⟨c1, c2⟩, ⟨d1, d2⟩⟩ := h
  obtain ⟨⟨a3, a4⟩, ⟨b3, b4⟩, ⟨c3, c4⟩, ⟨d3, d4⟩⟩ := hf
  refine ⟨⟨⟨by omega, by omega⟩, ⟨by omega, by omega⟩, ⟨by omega, by omega⟩, ⟨by omega, by omega⟩⟩, ⟨⟨?_, ?_⟩, ⟨?_, ?_⟩, ⟨?_, ?_⟩, ⟨?_, ?_⟩⟩⟩ <;> simp only [GX.Fa.less] <;> omega
theorem le4_idx {s f : FansT} (h : le4 s f) : idx5 s ≤ idx5 f := by
  obtain ⟨⟨a1, a2⟩, ⟨b1, b2⟩, ⟨c1, c2⟩, ⟨d1, d2⟩⟩ := h
  unfold idx5; omega

theorem lst_fold (b : BinT) (rest : FansT → Int) (f : FansT) : ∀ k : Nat,
    ((List.range k).foldl (fun best (n : Nat) => lstStep b rest f best (atF n)) (-1) = -1 ∧ ∀ m : Nat, m < k → ge0 (GX.Fa.less f (atF m)) = true → 0 ≤ rest (GX.Fa.less f (atF m)) → 0 ≤ costF b (atF m) → False) ∨
    ∃ n : Nat, n < k ∧ (ge0 (GX.Fa.less f (atF n)) = true ∧ 0 ≤ rest (GX.Fa.less f (atF n)) ∧ 0 ≤ costF b (atF n)) ∧ (List.range k).foldl (fun best (n : Nat) => lstStep b rest f best (atF n)) (-1) = costF b (atF n) + rest (GX.Fa.less f (atF n)) ∧
      ∀ m : Nat, m < k → ge0 (GX.Fa.less f (atF m)) = true → 0 ≤ rest (GX.Fa.less f (atF m)) → 0 ≤ costF b (atF m) → (List.range k).foldl (fun best (n : Nat) => lstStep b rest f best (atF n)) (-1) ≤ costF b (atF m) + rest (GX.Fa.less f (atF m))
  | 0 => .inl ⟨rfl, fun m hm => absurd hm (Nat.not_lt_zero _)⟩
  | k + 1 => by
    have ih := lst_fold b rest f k
    rw [foldl_succ]
    generalize (List.range k).foldl (fun best (n : Nat) => lstStep b rest f best (atF n)) (-1) = v at ih ⊢
    by_cases hC : ge0 (GX.Fa.less f (atF k)) = true ∧ 0 ≤ rest (GX.Fa.less f (atF k)) ∧ 0 ≤ costF b (atF k)
    · obtain ⟨c1, c2, c3⟩ := hC
      have e : lstStep b rest f v (atF k) = if decide (v < 0) || decide (costF b (atF k) + rest (GX.Fa.less f (atF k)) < v) then costF b (atF k) + rest (GX.Fa.less f (atF k)) else v := by
        unfold lstStep
        rw [c1, decide_eq_false (show ¬ rest (GX.Fa.less f (atF k)) < 0 by omega), decide_eq_true c3]
        simp
      rw [e]
      by_cases hb : v < 0 ∨ costF b (atF k) + rest (GX.Fa.less f (atF k)) < v
      · rw [if_pos (by simpa using hb)]
        refine .inr ⟨k, by omega, ⟨c1, c2, c3⟩, rfl, fun m hm h1 h2 h3 => ?_⟩
        rcases Nat.lt_succ_iff_lt_or_eq.1 hm with q | rfl
        · rcases ih with ⟨_, ih⟩ | ⟨n, _, ⟨_, g2, g3⟩, hv, ih⟩
          · exact (ih m q h1 h2 h3).elim
          · have := ih m q h1 h2 h3
            rcases hb with hb | hb
            · omega
            · omega
        · exact Int.le_refl _
      · rw [if_neg (by simpa using hb)]
        rcases ih with ⟨hv, ih⟩ | ⟨n, hn, g, hv, ih⟩
        · exact absurd (.inl (by omega)) hb
        · refine .inr ⟨n, by omega, g, hv, fun m hm h1 h2 h3 => ?_⟩
          rcases Nat.lt_succ_iff_lt_or_eq.1 hm with q | rfl
          · exact ih m q h1 h2 h3
          · omega
    · have e : lstStep b rest f v (atF k) = v := by
        unfold lstStep
        by_cases c1 : ge0 (GX.Fa.less f (atF k)) = true
        · by_cases c2 : 0 ≤ rest (GX.Fa.less f (atF k))
          · have c3 : ¬ 0 ≤ costF b (atF k) := fun c3 => hC ⟨c1, c2, c3⟩
            rw [decide_eq_false c3]
            simp
          · rw [decide_eq_true (show rest (GX.Fa.less f (atF k)) < 0 by omega)]; simp
        · rw [Bool.eq_false_iff.2 c1]; simp
      rw [e]
      rcases ih with ⟨hv, ih⟩ | ⟨n, hn, g, hv, ih⟩
      · refine .inl ⟨hv, fun m hm h1 h2 h3 => ?_⟩
        rcases Nat.lt_succ_iff_lt_or_eq.1 hm with q | rfl
        · exact ih m q h1 h2 h3
        · exact hC ⟨h1, h2, h3⟩
      · refine .inr ⟨n, by omega, g, hv, fun m hm h1 h2 h3 => ?_⟩
        rcases Nat.lt_succ_iff_lt_or_eq.1 hm with q | rfl
        · exact ih m q h1 h2 h3
        · exact absurd ⟨h1, h2, h3⟩ hC
theorem lstR_spec {b : BinT} {rest : FansT → Int} {f : FansT} (hf : F5 f) :
    (lstR b rest f = -1 ∧ ∀ s, le4 s f → 0 ≤ rest (GX.Fa.less f s) → 0 ≤ costF b s → False) ∨
    ∃ s, le4 s f ∧ 0 ≤ rest (GX.Fa.less f s) ∧ 0 ≤ costF b s ∧ lstR b rest f = costF b s + rest (GX.Fa.less f s) ∧ ∀ t, le4 t f → 0 ≤ rest (GX.Fa.less f t) → 0 ≤ costF b t → lstR b rest f ≤ costF b t + rest (GX.Fa.less f t) := by
  have hi := idx_bnd hf
  have to : ∀ s, le4 s f → (idx5 s).toNat < (idx5 f).toNat + 1 ∧ atF ((idx5 s).toNat : Nat) = s := fun s hs => by
    have h5 := (le4_F5 hs hf).1
    have := idx_bnd h5
    have := le4_idx hs
    refine ⟨by omega, ?_⟩
    rw [show (((idx5 s).toNat : Nat) : Int) = idx5 s by omega]
    exact at_idx h5
  rcases lst_fold b rest f ((idx5 f).toNat + 1) with ⟨h1, h2⟩ | ⟨n, hn, ⟨g1, g2, g3⟩, h1, h2⟩
  · refine .inl ⟨h1, fun s hs a1 a2 => ?_⟩
    obtain ⟨t1, t2⟩ := to s hs
    exact h2 _ t1 (by rw [t2]; exact le4_ge hs) (by rw [t2]; exact a1) (by rw [t2]; exact a2)
  · refine .inr ⟨atF n, le4_of (atF_bnd (by omega) (by omega)) g1, g2, g3, h1, fun s hs a1 a2 => ?_⟩
    obtain ⟨t1, t2⟩ := to s hs
    have := h2 _ t1 (by rw [t2]; exact le4_ge hs) (by rw [t2]; exact a1) (by rw [t2]; exact a2)
    rw [t2] at this
    exact this
theorem least_fold (b : BinT) (r : List BinT) (f : FansT) : ∀ (l : List FansT) (v : Int), l.foldl (leastStep b r f) v ≤ v ∧
    (∀ s, s ∈ l → GX.Fa.fitsB b s = true → l.foldl (leastStep b r f) v ≤ GX.Fa.lossV b s + GX.Fa.least r (GX.Fa.less f s)) ∧
    (l.foldl (leastStep b r f) v = v ∨ ∃ s, s ∈ l ∧ GX.Fa.fitsB b s = true ∧ l.foldl (leastStep b r f) v = GX.Fa.lossV b s + GX.Fa.least r (GX.Fa.less f s))
  | [], v => ⟨Int.le_refl _, fun s hs => by simp at hs, .inl rfl⟩
  | x :: l, v => by
    rw [List.foldl_cons]
    obtain ⟨h1, h2, h3⟩ := least_fold b r f l (leastStep b r f v x)
    have hx : leastStep b r f v x ≤ v ∧ (GX.Fa.fitsB b x = true → leastStep b r f v x ≤ GX.Fa.lossV b x + GX.Fa.least r (GX.Fa.less f x)) ∧ (leastStep b r f v x = v ∨ (GX.Fa.fitsB b x = true ∧ leastStep b r f v x = GX.Fa.lossV b x + GX.Fa.least r (GX.Fa.less f x))) := by
      unfold leastStep
      by_cases hf : GX.Fa.fitsB b x = true
      · rw [if_pos hf]
        split
        · exact ⟨by omega, fun _ => Int.le_refl _, .inr ⟨hf, rfl⟩⟩
        · exact ⟨Int.le_refl _, fun _ => by omega, .inl rfl⟩
      · rw [if_neg hf]
        exact ⟨Int.le_refl _, fun h => absurd h hf, .inl rfl⟩
    refine ⟨by omega, fun s hs hf => ?_, ?_⟩
    · rcases List.mem_cons.1 hs with rfl | hs
      · have := hx.2.1 hf; omega
      · exact h2 s hs hf
    · rcases h3 with h3 | ⟨s, hs, hf, h3⟩
      · rcases hx.2.2 with h4 | ⟨hf, h4⟩
        · exact .inl (h3.trans h4)
        · exact .inr ⟨x, by simp, hf, h3.trans h4⟩
      · exact .inr ⟨s, by simp [hs], hf, h3⟩

def supp (n : Nat) (f : FansT) : Prop := ∀ i, i < 4 → n ≤ i → at4 f i = 0
theorem at4_less (f s : FansT) : ∀ {i : Nat}, i < 4 → at4 (GX.Fa.less f s) i = at4 f i - at4 s i
  | 0, _ => rfl
  | 1, _ => rfl
  | 2, _ => rfl
  | 3, _ => rfl
  | k + 4, h => absurd h (by omega)
theorem le4_at {s f : FansT} (h : le4 s f) : ∀ {i : Nat}, i < 4 → 0 ≤ at4 s i ∧ at4 s i ≤ at4 f i
  | 0, _ => h.1
  | 1, _ => h.2.1
  | 2, _ => h.2.2.1
  | 3, _ => h.2.2.2
  | k + 4, h => absurd h (by omega)
theorem supp.le {n : Nat} {f s : FansT} (h : supp n f) (hs : le4 s f) : supp n s ∧ supp n (GX.Fa.less f s) := by
  refine ⟨fun i hi hn => ?_, fun i hi hn => ?_⟩
  · have := h i hi hn
    have := le4_at hs hi
    omega
  · have := h i hi hn
    have := le4_at hs hi
    rw [at4_less _ _ hi]; omega
def agree (n : Nat) (b b' : BinT) : Prop := ∀ s, F5 s → supp n s → GX.Fa.fitsB b s = GX.Fa.fitsB b' s ∧ (GX.Fa.fitsB b s = true → GX.Fa.lossV b s = GX.Fa.lossV b' s)
def agrees (n : Nat) : List BinT → List BinT → Prop
  | [], [] => True
  | b :: r, b' :: r' => agree n b b' ∧ agrees n r r'
  | _, _ => False
theorem cost_fit {b : BinT} {s : FansT} (hb : GX.Fa.fitsB b s = true → 0 ≤ GX.Fa.lossV b s) : 0 ≤ costF b s ↔ GX.Fa.fitsB b s = true := by
  unfold costF
  by_cases h : GX.Fa.fitsB b s = true
  · rw [if_pos h]; exact ⟨fun _ => h, fun _ => hb h⟩
  · rw [if_neg h]; exact ⟨fun h => by omega, fun h' => absurd h' h⟩
theorem cost_loss {b : BinT} {s : FansT} (h : GX.Fa.fitsB b s = true) : costF b s = GX.Fa.lossV b s := if_pos h
theorem tval_top {bs : List BinT} (h : Bins0 bs) {f : FansT} (hf : F5 f) : tval bs f < GX.Fa.NONE := by
  have h1 := (tval_bnd h f hf).2
  have := h.k
  unfold GX.Fa.NONE
  omega
theorem tval_least {n : Nat} : ∀ {bs bs' : List BinT}, agrees n bs bs' → Bins0 bs → ∀ {f : FansT}, F5 f → supp n f → GX.Fa.least bs' f = if tval bs f < 0 then GX.Fa.NONE else tval bs f
  | [], [], _, _, f, _, _ => by
    rw [GX.Fa.least]
    unfold tval
    by_cases h : GX.Fa.isNo f = true
    · rw [if_pos h, if_pos h]; rfl
    · rw [if_neg h, if_neg h]; rfl
  | [], _ :: _, h, _, _, _, _ => h.elim
  | _ :: _, [], h, _, _, _, _ => h.elim
  | b :: r, b' :: r', h, hb, f, hf, hs => by
    obtain ⟨ha, hr⟩ := h
    obtain ⟨b1, b2, b3⟩ := hb.cons
    have htop := tval_top hb hf
    obtain ⟨l1, l2, l3⟩ := least_fold b' r' f (GX.Fa.upTo f) GX.Fa.NONE
    rw [← least_cons] at l1 l2 l3
    have IH : ∀ s, le4 s f → GX.Fa.least r' (GX.Fa.less f s) = if tval r (GX.Fa.less f s) < 0 then GX.Fa.NONE else tval r (GX.Fa.less f s) := fun s h => tval_least hr b3 (le4_F5 h hf).2 (hs.le h).2
    have att : GX.Fa.least (b' :: r') f = GX.Fa.NONE ∨ ∃ s, le4 s f ∧ 0 ≤ costF b s ∧ 0 ≤ tval r (GX.Fa.less f s) ∧ GX.Fa.least (b' :: r') f = costF b s + tval r (GX.Fa.less f s) := by
      rcases l3 with l3 | ⟨s, hm, hfit, l3⟩
      · exact .inl l3
      · have hle := (mem_upTo hf.fok).1 hm
        have h5 := (le4_F5 hle hf).1
        have hsp := (hs.le hle).1
        obtain ⟨q1, q2⟩ := ha s h5 hsp
        rw [hfit] at q1
        have hc : 0 ≤ costF b s := (cost_fit (b2 s h5)).2 q1
        rw [IH s hle, ← q2 q1, ← cost_loss q1] at l3
        by_cases ht : tval r (GX.Fa.less f s) < 0
        · rw [if_pos ht] at l3; exact .inl (by omega)
        · rw [if_neg ht] at l3; exact .inr ⟨s, hle, hc, by omega, l3⟩
    have low : ∀ s, le4 s f → 0 ≤ tval r (GX.Fa.less f s) → 0 ≤ costF b s → GX.Fa.least (b' :: r') f ≤ costF b s + tval r (GX.Fa.less f s) := fun s hle ht hc => by
      have h5 := (le4_F5 hle hf).1
      have hfit := (cost_fit (b2 s h5)).1 hc
      obtain ⟨q1, q2⟩ := ha s h5 (hs.le hle).1
      have := l2 s ((mem_upTo hf.fok).2 hle) (q1 ▸ hfit)
      rw [IH s hle, if_neg (by omega), ← q2 hfit, ← cost_loss hfit] at this
      exact this
    have e : tval (b :: r) f = lstR b (tval r) f := rfl
    rw [e] at htop ⊢
    rcases lstR_spec (b := b) (rest := tval r) hf with ⟨v, hno⟩ | ⟨s, hle, ht, hc, v, hmin⟩
    · rw [v, if_pos (by omega)]
      rcases att with att | ⟨s, hle, hc, ht, _⟩
      · exact att
      · exact (hno s hle ht hc).elim
    · rw [if_neg (by omega)]
      have h1 := low s hle ht hc
      rcases att with att | ⟨s', hle', hc', ht', h'⟩
      · omega
      · have := hmin s' hle' ht' hc'
        omega
theorem leL_trans {a b c : List Int} (h1 : cmpL a b ≤ 0) (h2 : cmpL b c ≤ 0) : cmpL a c ≤ 0 := by
  by_cases e1 : cmpL a b = 0
  · rw [cmpL_zero e1]; exact h2
  · by_cases e2 : cmpL b c = 0
    · rw [← cmpL_zero e2]; exact h1
    · exact Int.le_of_lt (cmpL_trans (b := b) (by omega) (by omega))
theorem leL_anti {a b : List Int} (h1 : cmpL a b ≤ 0) (h2 : cmpL b a ≤ 0) : a = b := by
  rw [cmpL_neg a b] at h2
  exact cmpL_zero (by omega)

def smD (b : BinT) (r : List BinT) (f : FansT) (left : Int) (s : FansT) : Bool := GX.Fa.fitsB b s && decide (GX.Fa.lossV b s + GX.Fa.least r (GX.Fa.less f s) = left)
theorem pick_fold (b : BinT) (r : List BinT) (f : FansT) (left : Int) : ∀ (l : List FansT) (st : List Int × FansT × Bool), (st.2.2 = true → st.1 = listF st.2.1) →
    (l.foldl (smStep b r f left) st = st ∧ (∀ s, s ∈ l → smD b r f left s = true → st.2.2 = true ∧ cmpL st.1 (listF s) ≤ 0)) ∨
    ((l.foldl (smStep b r f left) st).2.2 = true ∧ (l.foldl (smStep b r f left) st).1 = listF (l.foldl (smStep b r f left) st).2.1 ∧ ((l.foldl (smStep b r f left) st).2.1 ∈ l ∧ smD b r f left (l.foldl (smStep b r f left) st).2.1 = true) ∧
      (∀ s, s ∈ l → smD b r f left s = true → cmpL (l.foldl (smStep b r f left) st).1 (listF s) ≤ 0) ∧ (st.2.2 = true → cmpL (l.foldl (smStep b r f left) st).1 st.1 ≤ 0))
  | [], st, h => .inl ⟨rfl, fun s hs => by simp at hs⟩
  | x :: l, st, h => by
    rw [List.foldl_cons]
    have hx : (smStep b r f left st x = st ∧ (smD b r f left x = true → st.2.2 = true ∧ cmpL st.1 (listF x) ≤ 0)) ∨ (smStep b r f left st x = (listF x, x, true) ∧ smD b r f left x = true ∧ (st.2.2 = true → cmpL (listF x) st.1 ≤ 0)) := by
      have e : smStep b r f left st x = if smD b r f left x then (if !st.2.2 || decide (cmpL (listF x) st.1 < 0) then (listF x, x, true) else st) else st := rfl
      rw [e]
      by_cases hd : smD b r f left x = true
      · rw [if_pos hd]
        by_cases hc : (!st.2.2 || decide (cmpL (listF x) st.1 < 0)) = true
        · rw [if_pos hc]
          refine .inr ⟨rfl, hd, fun ht => ?_⟩
          rw [ht] at hc
          have : cmpL (listF x) st.1 < 0 := by simpa using hc
          omega
        · rw [if_neg hc]
          refine .inl ⟨rfl, fun _ => ?_⟩
          simp only [Bool.or_eq_true, Bool.not_eq_true', decide_eq_true_eq, not_or] at hc
          refine ⟨by cases h : st.2.2 <;> simp_all, ?_⟩
          have := cmpL_neg (listF x) st.1
          omega
      · rw [if_neg hd]
        exact .inl ⟨rfl, fun h => absurd h hd⟩
    rcases hx with ⟨e, hx⟩ | ⟨e, hd, hx⟩
    · rw [e]
      rcases pick_fold b r f left l st h with ⟨g1, g2⟩ | ⟨g1, g2, ⟨g3, g4⟩, g5, g6⟩
      · refine .inl ⟨g1, fun s hs hd => ?_⟩
        rcases List.mem_cons.1 hs with rfl | hs
        · exact hx hd
        · exact g2 s hs hd
      · refine .inr ⟨g1, g2, ⟨by simp [g3], g4⟩, fun s hs hd => ?_, g6⟩
        rcases List.mem_cons.1 hs with rfl | hs
        · obtain ⟨q1, q2⟩ := hx hd
          exact leL_trans (g6 q1) q2
        · exact g5 s hs hd
    · rw [e]
      rcases pick_fold b r f left l (listF x, x, true) (fun _ => rfl) with ⟨g1, g2⟩ | ⟨g1, g2, ⟨g3, g4⟩, g5, g6⟩
      · rw [g1]
        refine .inr ⟨rfl, rfl, ⟨by simp, hd⟩, fun s hs hd => ?_, hx⟩
        rcases List.mem_cons.1 hs with rfl | hs
        · show cmpL (listF s) (listF s) ≤ 0
          rw [cmpL_self]; exact Int.le_refl _
        · exact (g2 s hs hd).2
      · refine .inr ⟨g1, g2, ⟨by simp [g3], g4⟩, fun s hs hd => ?_, fun ht => leL_trans (g6 rfl) (hx ht)⟩
        rcases List.mem_cons.1 hs with rfl | hs
        · exact g6 rfl
        · exact g5 s hs hd
theorem pick_spec {b : BinT} {r : List BinT} {f : FansT} {left : Int} (hf : FOK f) {s0 : FansT} (h0 : le4 s0 f) (hd : smD b r f left s0 = true) :
    (smPick b r f left).1 = listF (smPick b r f left).2.1 ∧ le4 (smPick b r f left).2.1 f ∧ smD b r f left (smPick b r f left).2.1 = true ∧ ∀ s, le4 s f → smD b r f left s = true → cmpL (smPick b r f left).1 (listF s) ≤ 0 := by
  rcases pick_fold b r f left (GX.Fa.upTo f) ([], NO4, false) (fun h => by cases h) with ⟨g1, g2⟩ | ⟨g1, g2, ⟨g3, g4⟩, g5, g6⟩
  · have := (g2 s0 ((mem_upTo hf).2 h0) hd).1
    cases this
  · exact ⟨g2, (mem_upTo hf).1 g3, g4, fun s hs hd => g5 s ((mem_upTo hf).2 hs) hd⟩
theorem sm_eq {n : Nat} : ∀ {bs bs' : List BinT}, agrees n bs bs' → Bins0 bs → ∀ {f : FansT}, F5 f → supp n f → 0 ≤ tval bs f → smR bs (tval bs f) f = smGo bs' (tval bs f) f
  | [], [], _, _, f, _, _, _ => rfl
  | [], _ :: _, h, _, _, _, _, _ => h.elim
  | _ :: _, [], h, _, _, _, _, _ => h.elim
  | b :: r, b' :: r', h, hb, f, hf, hs, h0 => by
    obtain ⟨ha, hr⟩ := h
    obtain ⟨b1, b2, b3⟩ := hb.cons
    have htop := tval_top hb hf
    have same : ∀ s, le4 s f → smOK b r (tval (b :: r) f) f (listF s) = smD b' r' f (tval (b :: r) f) s := fun s hle => by
      have h5 := le4_F5 hle hf
      obtain ⟨q1, q2⟩ := ha s h5.1 (hs.le hle).1
      unfold smOK smD
      rw [numF_list h5.1.fok, tval_least hr b3 h5.2 (hs.le hle).2]
      by_cases hfit : GX.Fa.fitsB b s = true
      · have hc := (cost_fit (b2 s h5.1)).2 hfit
        rw [← q1, hfit, ← q2 hfit, ← cost_loss hfit, decide_eq_true hc, Bool.true_and, Bool.true_and]
        by_cases ht : tval r (GX.Fa.less f s) < 0
        · rw [if_pos ht, decide_eq_false (show ¬ 0 ≤ tval r (GX.Fa.less f s) by omega), Bool.false_and]
          exact (decide_eq_false (by omega)).symm
        · rw [if_neg ht, decide_eq_true (show 0 ≤ tval r (GX.Fa.less f s) by omega), Bool.true_and]
      · have hc : ¬ 0 ≤ costF b s := fun hc => hfit ((cost_fit (b2 s h5.1)).1 hc)
        rw [← q1, Bool.eq_false_iff.2 hfit, decide_eq_false hc]; rfl
    obtain ⟨s0, hle0, hok0⟩ : ∃ s, le4 s f ∧ smOK b r (tval (b :: r) f) f (listF s) = true := by
      have e : tval (b :: r) f = lstR b (tval r) f := rfl
      rcases lstR_spec (b := b) (rest := tval r) hf with ⟨v, hno⟩ | ⟨s, hle, ht, hc, v, hmin⟩
      · rw [e, v] at h0; omega
      · refine ⟨s, hle, ?_⟩
        unfold smOK
        rw [numF_list (le4_F5 hle hf).1.fok, decide_eq_true hc, decide_eq_true ht, e, v]
        simp
    obtain ⟨p1, p2, p3, p4⟩ := pick_spec (b := b') (r := r') (left := tval (b :: r) f) hf.fok hle0 (by rw [← same s0 hle0]; exact hok0)
    simp only [smR, smGo]
    cases hfd : (allL f).find? (smOK b r (tval (b :: r) f) f) with
    | none =>
      have := List.find?_eq_none.1 hfd (listF s0) ((allL_mem hf).2 ⟨s0, hle0, rfl⟩)
      exact absurd hok0 this
    | some l =>
      obtain ⟨q1, i, hi, hil, q2⟩ := List.find?_eq_some_iff_getElem.1 hfd
      obtain ⟨s, hle, rfl⟩ := (allL_mem hf).1 (hil ▸ List.getElem_mem hi)
      have hfirst : ∀ t, le4 t f → smOK b r (tval (b :: r) f) f (listF t) = true → cmpL (listF s) (listF t) ≤ 0 := fun t ht hok => by
        obtain ⟨j, hj, hjl⟩ := List.mem_iff_getElem.1 ((allL_mem hf).2 ⟨t, ht, rfl⟩)
        by_cases hij : j < i
        · have := q2 j hij
          rw [hjl, hok] at this
          cases this
        · by_cases e : i = j
          · subst e
            rw [← hil, ← hjl, cmpL_self]; exact Int.le_refl _
          · have := (List.pairwise_iff_getElem.1 (allL_order hf)) i j hi hj (by omega)
            rw [hil, hjl] at this
            omega
      have e1 : listF s = (smPick b' r' f (tval (b :: r) f)).1 := by
        refine leL_anti ?_ ?_
        · rw [p1]
          exact hfirst _ p2 (by rw [same _ p2]; exact p3)
        · exact p4 s hle (by rw [← same s hle]; exact q1)
      have hsf := (le4_F5 hle hf)
      have e2 : (smPick b' r' f (tval (b :: r) f)).2.1 = s := by
        have := congrArg numF (e1.trans p1)
        rw [numF_list hsf.1.fok, numF_list (le4_F5 p2 hf).1.fok] at this
        exact this.symm
      simp only
      rw [numF_list hsf.1.fok, e2, ← e1]
      unfold smOK at q1
      rw [numF_list hsf.1.fok] at q1
      simp only [Bool.and_eq_true, decide_eq_true_eq] at q1
      obtain ⟨⟨c1, c2⟩, c3⟩ := q1
      have hfit := (cost_fit (b2 s hsf.1)).1 c1
      have hq := (ha s hsf.1 (hs.le hle).1).2 hfit
      have e3 : tval (b :: r) f - costF b s = tval r (GX.Fa.less f s) := by omega
      have e4 : tval (b :: r) f - GX.Fa.lossV b' s = tval r (GX.Fa.less f s) := by rw [← hq, ← cost_loss hfit]; omega
      rw [e3, e4, sm_eq hr b3 hsf.2 (hs.le hle).2 c2]
theorem small_eq {n : Nat} {bs bs' : List BinT} (h : agrees n bs bs') (hb : Bins0 bs) {f : FansT} (hf : F5 f) (hs : supp n f) : listedF bs' f = if (smallR bs f).2 then ((smallR bs f).1, 0) else ([], 9) := by
  have h1 := tval_least h hb hf hs
  have h2 := tval_top hb hf
  unfold listedF smallR
  rw [h1]
  by_cases h3 : tval bs f < 0
  · rw [if_pos h3, if_pos h3, if_pos (Int.le_refl _)]; rfl
  · rw [if_neg h3, if_neg h3, if_neg (by omega)]
    unfold smallF
    rw [h1, if_neg h3, if_neg (by omega), sm_eq h hb hf hs (by omega)]
    rfl
end Go.Proofs.Fa
set_option linter.unusedVariables false
namespace Go.Proofs.Fa
open Go Go.GX Go.Proofs

theorem dot_at (s t : FansT) : GX.Fa.dot s t = at4 s 0 * at4 t 0 + at4 s 1 * at4 t 1 + at4 s 2 * at4 t 2 + at4 s 3 * at4 t 3 := rfl
theorem dot_supp {s : FansT} {g g' : Nat → Int} (h : ∀ i, i < 4 → at4 s i = 0 ∨ g i = g' i) : GX.Fa.dot s (tup4 g) = GX.Fa.dot s (tup4 g') := by
  have key : ∀ i, i < 4 → at4 s i * at4 (tup4 g) i = at4 s i * at4 (tup4 g') i := fun i hi => by
    rw [at4_tup _ hi, at4_tup _ hi]
    rcases h i hi with h | h
    · rw [h, Int.zero_mul, Int.zero_mul]
    · rw [h]
  rw [dot_at, dot_at, key 0 (by omega), key 1 (by omega), key 2 (by omega), key 3 (by omega)]
theorem dot_ge {s : FansT} {g : Nat → Int} (hs : ∀ i, i < 4 → 0 ≤ at4 s i) (hg : ∀ i, i < 4 → 0 ≤ g i) {i : Nat} (hi : i < 4) : at4 s i * g i ≤ GX.Fa.dot s (tup4 g) := by
  have key : ∀ i, i < 4 → 0 ≤ at4 s i * g i := fun i hi => Int.mul_nonneg (hs i hi) (hg i hi)
  rw [dot_at, at4_tup _ (show 0 < 4 by omega), at4_tup _ (show 1 < 4 by omega), at4_tup _ (show 2 < 4 by omega), at4_tup _ (show 3 < 4 by omega)]
  have h0 := key 0 (by omega)
  have h1 := key 1 (by omega)
  have h2 := key 2 (by omega)
  have h3 := key 3 (by omega)
  match i, hi with
  | 0, _ => omega
  | 1, _ => omega
  | 2, _ => omega
  | 3, _ => omega
theorem leaf_agree {n : Nat} {seam p : Int} {c : FansT} {e fi : Int} : agree n (tup4 fun i => at4 c i + seam, tup4 fun _ => e, p + seam, fi) (tup4 fun i => if i < n then at4 c i + seam else 0, tup4 fun i => if i < n then e else 0, p + seam, fi) := by
  intro s h5 hs
  have h1 : GX.Fa.dot s (tup4 fun i => at4 c i + seam) = GX.Fa.dot s (tup4 fun i => if i < n then at4 c i + seam else 0) := dot_supp fun i hi => by
    by_cases hn : i < n
    · exact .inr (by rw [if_pos hn])
    · exact .inl (hs i hi (by omega))
  have h2 : GX.Fa.dot s (tup4 fun _ => e) = GX.Fa.dot s (tup4 fun i => if i < n then e else 0) := dot_supp fun i hi => by
    by_cases hn : i < n
    · exact .inr (by rw [if_pos hn])
    · exact .inl (hs i hi (by omega))
  refine ⟨?_, fun _ => ?_⟩
  · show decide (GX.Fa.dot s (tup4 fun i => at4 c i + seam) ≤ p + seam) = decide (GX.Fa.dot s (tup4 fun i => if i < n then at4 c i + seam else 0) ≤ p + seam)
    rw [h1]
  · show GX.Fa.dot s (tup4 fun _ => e) + (if GX.Fa.isNo s then 0 else fi) = GX.Fa.dot s (tup4 fun i => if i < n then e else 0) + (if GX.Fa.isNo s then 0 else fi)
    rw [h2]
theorem leaves_agree {n : Nat} {seam : Int} {c : FansT} {e fi : Int} : ∀ ls : List Int, agrees n (leavesR ls seam c e fi) (leavesF ls seam n c e fi)
  | [] => trivial
  | p :: r => ⟨leaf_agree, leaves_agree r⟩
theorem F5.at0 {s : FansT} (h : F5 s) : ∀ i, i < 4 → 0 ≤ at4 s i := fun i hi => (all4_at h hi).1
theorem lot_agree {f : List Spring} {c : FansT} {l : Lot} (hl : 0 ≤ l.2 ∧ l.2 ≤ 200) (hc : all4 (fun x => 0 ≤ x) c) : agree f.length (lotR f c l) (lotB f c l) := by
  intro s h5 hs
  by_cases hx : ∃ i, i < 4 ∧ i < f.length ∧ (f.getD i ((0, 0), 0, 0)).2.2 > l.1 ∧ 1 ≤ at4 s i
  · obtain ⟨i, hi, hn, hw, h1⟩ := hx
    have r1 : GX.Fa.fitsB (lotR f c l) s = false := by
      have h := dot_ge (s := s) (g := fun i => if i < f.length then (if (f.getD i ((0, 0), 0, 0)).2.2 > l.1 then 1000 else at4 c i) else 0) h5.at0 (fun j hj => by
        split
        · split
          · omega
          · exact all4_at hc hj
        · omega) hi
      simp only [if_pos hn, if_pos hw] at h
      refine decide_eq_false ?_
      show ¬ GX.Fa.dot s (tup4 fun i => if i < f.length then (if (f.getD i ((0, 0), 0, 0)).2.2 > l.1 then 1000 else at4 c i) else 0) ≤ l.2
      omega
    have r2 : GX.Fa.fitsB (lotB f c l) s = false := by
      have h := dot_ge (s := s) (g := fun i => if i < f.length then (if (f.getD i ((0, 0), 0, 0)).2.2 > l.1 then l.2 + 1 else at4 c i) else 0) h5.at0 (fun j hj => by
        split
        · split
          · omega
          · exact all4_at hc hj
        · omega) hi
      simp only [if_pos hn, if_pos hw] at h
      have h2 : 1 * (l.2 + 1) ≤ at4 s i * (l.2 + 1) := Int.mul_le_mul_of_nonneg_right h1 (by omega)
      refine decide_eq_false ?_
      show ¬ GX.Fa.dot s (tup4 fun i => if i < f.length then (if (f.getD i ((0, 0), 0, 0)).2.2 > l.1 then l.2 + 1 else at4 c i) else 0) ≤ l.2
      omega
    exact ⟨r1.trans r2.symm, fun h => by rw [r1] at h; cases h⟩
  · have hz : ∀ i, i < 4 → i < f.length → (f.getD i ((0, 0), 0, 0)).2.2 > l.1 → at4 s i = 0 := fun i hi hn hw => by
      have h0 := h5.at0 i hi
      have : ¬ 1 ≤ at4 s i := fun h => hx ⟨i, hi, hn, hw, h⟩
      omega
    have h1 : GX.Fa.dot s (lotR f c l).1 = GX.Fa.dot s (lotB f c l).1 := dot_supp fun i hi => by
      by_cases hn : i < f.length
      · by_cases hw : (f.getD i ((0, 0), 0, 0)).2.2 > l.1
        · exact .inl (hz i hi hn hw)
        · exact .inr (by rw [if_pos hn, if_pos hn, if_neg hw, if_neg hw])
      · exact .inl (hs i hi (by omega))
    have h2 : GX.Fa.dot s (lotR f c l).2.1 = GX.Fa.dot s (lotB f c l).2.1 := dot_supp fun i hi => by
      by_cases hn : i < f.length
      · by_cases hw : (f.getD i ((0, 0), 0, 0)).2.2 > l.1
        · exact .inl (hz i hi hn hw)
        · exact .inr (by rw [if_pos hn, if_pos hn, if_neg hw])
      · exact .inl (hs i hi (by omega))
    refine ⟨?_, fun _ => ?_⟩
    · show decide (GX.Fa.dot s (lotR f c l).1 ≤ l.2) = decide (GX.Fa.dot s (lotB f c l).1 ≤ l.2)
      rw [h1]
    · show GX.Fa.dot s (lotR f c l).2.1 + (if GX.Fa.isNo s then 0 else 0) = GX.Fa.dot s (lotB f c l).2.1 + (if GX.Fa.isNo s then 0 else 0)
      rw [h2]
theorem lots_agree {f : List Spring} {c : FansT} (hc : all4 (fun x => 0 ≤ x) c) : ∀ ls : List Lot, (∀ l, l ∈ ls → 0 ≤ l.2 ∧ l.2 ≤ 200) → agrees f.length (lotsR ls f c) (lotsF ls f c)
  | [], _ => trivial
  | l :: r, h => ⟨lot_agree (h l (by simp)) hc, lots_agree hc r fun x hx => h x (by simp [hx])⟩
theorem want_supp (f : List Spring) : supp f.length (wantF f) := fun i hi hn => by
  show at4 (tup4 _) i = 0
  rw [at4_tup _ hi]
  exact if_neg (by omega)
theorem VOK.lva {s : Store} {f : List Spring} (v : VOK s f) {c : FansT} {e fi : Int} : agrees f.length (Fa.lvR s c e fi) (lvs (s, f, c) e fi) := leaves_agree _
theorem VOK.lta {s : Store} {f : List Spring} (v : VOK s f) {c : FansT} (hc : all4 (fun x => 0 ≤ x ∧ x ≤ 40) c) : agrees f.length (Fa.ltR s f c) (lts (s, f, c)) := lots_agree (cnt0 hc) _ fun l hl => (v.lt l hl).2
theorem can_cons {b : BinT} {r : List BinT} {f : FansT} (hf : F5 f) : 0 ≤ tval (b :: r) f ↔ ∃ s, le4 s f ∧ 0 ≤ tval r (GX.Fa.less f s) ∧ 0 ≤ costF b s := by
  have e : tval (b :: r) f = lstR b (tval r) f := rfl
  rw [e]
  rcases lstR_spec (b := b) (rest := tval r) hf with ⟨v, hno⟩ | ⟨s, hle, ht, hc, v, hmin⟩
  · rw [v]
    exact ⟨fun h => by omega, fun ⟨s, h1, h2, h3⟩ => (hno s h1 h2 h3).elim⟩
  · exact ⟨fun _ => ⟨s, hle, ht, hc⟩, fun _ => by omega⟩
end Go.Proofs.Fa
set_option linter.unusedVariables false
namespace Go.Proofs.Fa
open Go Go.GX Go.Proofs

theorem tail_list {l due : List (List Int)} {ok : Bool} {e : Int} {Q : Bool → Prop} (h : Q true) (he : (l, e) = if ok then (due, 0) else ([], 9)) :
    cnd ok (cnd (e == 0) (cnd (decide (l = due)) (f17_wp () () fun r => Q r) (Q false)) (Q false)) (cnd (e == 9) (l.length ≤ 9223372036854775807 → cnd ((l.length : Int) == 0) (f17_wp () () fun r => Q r) (Q false)) (Q false)) := by
  cases ok with
  | true =>
    obtain ⟨rfl, rfl⟩ := Prod.mk.inj he
    exact cndT (cndE rfl (cndD (c := l = l) rfl (known h)))
  | false =>
    obtain ⟨rfl, rfl⟩ := Prod.mk.inj he
    exact cndF (cndE rfl fun _ => cndE rfl (known h))
theorem p3 {s : Store} {f : List Spring} {Q : Bool → Prop} (h : fL2_wp (s, f, ()) () Q) : V3 s f Q := by
  have h : Q true := h
  refine large_iff (s := s) (f := f) h fun n1 n2 n3 => ⟨⟨n1, n2⟩, n3, ?_⟩
  refine same_iff (s := s) (f := f) (cndN rfl ?_)
  by_cases hc : checkF s f = 0
  · have v : VOK s f := vok_of hc
    have hb : Bins0 (Fa.lvR s (cH f) 0 1) := leavesR_ok (by have := v.n6; omega) v.lv4 v.sm4 (cnt400 v.cH) ⟨by omega, by omega⟩ ⟨by omega, by omega⟩ (by omega) (by omega)
    have e : resLeaves s f = if (smallR (Fa.lvR s (cH f) 0 1) (wantF f)).2 then ((smallR (Fa.lvR s (cH f) 0 1) (wantF f)).1, 0) else ([], 9) := by
      unfold resLeaves
      rw [if_neg (by simp [hc])]
      exact small_eq v.lva hb v.want4 (want_supp f)
    exact cndE hc ⟨_, ⟨v.f4, rfl⟩, _, ⟨⟨v.n500, v.lv4, v.sm4, cnt400 v.cH⟩, rfl⟩, _, ⟨v.f4, rfl⟩, _, ⟨⟨hb, v.want4⟩, rfl⟩, tail_list h e⟩
  · have e : resLeaves s f = ([], checkF s f) := by unfold resLeaves; rw [if_pos hc]
    refine cndEe hc ?_
    show cnd ((resLeaves s f).2 == checkF s f) ((resLeaves s f).1.length ≤ _ → cnd (((resLeaves s f).1.length : Int) == 0) _ _) _
    rw [e]
    exact cndE rfl fun _ => cndE rfl (known h)
theorem p4 {s : Store} {f : List Spring} {Q : Bool → Prop} (h : fL2_wp (s, f, ()) () Q) : V4 s f Q := by
  have h : Q true := h
  refine large_iff (s := s) (f := f) h fun n1 n2 n3 => ⟨⟨n1, n2⟩, n3, ?_⟩
  refine same_iff (s := s) (f := f) ?_
  by_cases hc : checkF s f = 0
  · have v : VOK s f := vok_of hc
    have hb := v.ltR v.cH
    have e : resLots s f = if (smallR (Fa.ltR s f (cH f)) (wantF f)).2 then ((smallR (Fa.ltR s f (cH f)) (wantF f)).1, 0) else ([], 9) := by
      unfold resLots
      rw [if_neg (by simp [hc])]
      exact small_eq (v.lta v.cH) hb v.want4 (want_supp f)
    exact cndE hc ⟨_, ⟨v.f4, rfl⟩, _, ⟨⟨v.m500, v.f4, v.lt4, v.sp4, cnt400 v.cH⟩, rfl⟩, _, ⟨v.f4, rfl⟩, _, ⟨⟨hb, v.want4⟩, rfl⟩, tail_list h e⟩
  · have e : resLots s f = ([], checkF s f) := by unfold resLots; rw [if_pos hc]
    refine cndEe hc ?_
    show cnd ((resLots s f).2 == checkF s f) ((resLots s f).1.length ≤ _ → cnd (((resLots s f).1.length : Int) == 0) _ _) _
    rw [e]
    exact cndE rfl fun _ => cndE rfl (known h)
theorem loss_eq {s : Store} {f : List Spring} (v : VOK s f) : lossF s f = if (lossR s f).1 ≥ 0 ∧ (lossR s f).2 ≥ 0 then ((lossR s f).1, (lossR s f).2, 0) else (0, 0, 9) := by
  have hw : F5 (wantF f) := v.want4
  have h1 := tval_least (bs' := lvs (s, f, cH f) s.2.1 (-s.2.1)) v.lva (v.lvS v.cH) hw (want_supp f)
  have h2 := tval_least (v.lta v.cH) (v.ltR v.cH) hw (want_supp f)
  have b1 := tval_bnd (v.lvS v.cH) _ hw
  have b2 := tval_top (v.ltR v.cH) hw
  have n6 := v.n6
  have hl : (Fa.lvR s (cH f) s.2.1 (-s.2.1)).length = s.1.length := by simp [Fa.lvR, leavesR]
  rw [hl] at b1
  unfold lossF lossR
  rw [h1, h2]
  simp only
  by_cases c1 : tval (Fa.lvR s (cH f) s.2.1 (-s.2.1)) (wantF f) < 0
  · rw [if_pos c1, if_pos (by simp [GX.Fa.NONE]), if_neg (by omega)]
  · by_cases c2 : tval (Fa.ltR s f (cH f)) (wantF f) < 0
    · rw [if_pos c2, if_pos (by simp [GX.Fa.NONE]), if_neg (by omega)]
    · rw [if_neg c1, if_neg c2, if_neg, if_pos ⟨by omega, by omega⟩]
      simp only [Bool.or_eq_true, decide_eq_true_eq]
      omega
end Go.Proofs.Fa
set_option linter.unusedVariables false
set_option maxRecDepth 100000
namespace Go.Proofs.Fa
open Go Go.GX Go.Proofs

def V43 (x : List Int × Int × List (Int × Int) × List FansT) (Q : (List Int × Int × List (Int × Int)) × List Spring × Unit → Prop) : Prop := (6 : Int) ≠ (0 : Int) ∧ ∃ (I : Int → List Int × Int × List (Int × Int) → Prop), ∃ (μ : Int → List Int × Int × List (Int × Int) → Nat), I (0 : Int) (([] : List Int), Int.tmod (IntKind.wrap IntKind.i64 x.2.1) (6 : Int), ([] : List (Int × Int))) ∧ ∀ (x_1 : Int) (x_2 : List Int × Int × List (Int × Int)), I x_1 x_2 → ∃ (I_1 : Bool → Prop), (List.length x.1 ≤ (9223372036854775807 : Nat) → cnd (decide (x_1 < (↑(List.length x.1) : Int))) (I_1 (decide (x_1 < (5 : Int)))) (I_1 false)) ∧ ∀ (x_3 : Bool), I_1 x_3 → cnd x_3 ((0 : Int) ≤ x_1 ∧ x_1 < (↑(List.length x.1) : Int) ∧ (90 : Int) ≠ (0 : Int) ∧ (List.length x_2.1 + List.length (IntKind.wrap IntKind.i64 ((10 : Int) + Int.tmod (IntKind.wrap IntKind.i64 (List.getD x.1 (Int.toNat x_1) (0 : Int))) (90 : Int)) :: ([] : List Int))) * (8 : Nat) ≤ (140737488355328 : Nat) ∧ I (IntKind.wrap IntKind.i64 (x_1 + (1 : Int))) (x_2.1 ++ IntKind.wrap IntKind.i64 ((10 : Int) + Int.tmod (IntKind.wrap IntKind.i64 (List.getD x.1 (Int.toNat x_1) (0 : Int))) (90 : Int)) :: ([] : List Int), x_2.2.1, x_2.2.2) ∧ μ (IntKind.wrap IntKind.i64 (x_1 + (1 : Int))) (x_2.1 ++ IntKind.wrap IntKind.i64 ((10 : Int) + Int.tmod (IntKind.wrap IntKind.i64 (List.getD x.1 (Int.toNat x_1) (0 : Int))) (90 : Int)) :: ([] : List Int), x_2.2.1, x_2.2.2) < μ x_1 x_2) (∃ (I : Int → List Int × Int × List (Int × Int) → Prop), ∃ (μ : Int → List Int × Int × List (Int × Int) → Nat), I (0 : Int) (x_2.1, x_2.2.1, x_2.2.2) ∧ ∀ (x_4 : Int) (x_5 : List Int × Int × List (Int × Int)), I x_4 x_5 → ∃ (I_2 : Bool → Prop), (List.length x.2.2.1 ≤ (9223372036854775807 : Nat) → cnd (decide (x_4 < (↑(List.length x.2.2.1) : Int))) (I_2 (decide (x_4 < (4 : Int)))) (I_2 false)) ∧ ∀ (x_6 : Bool), I_2 x_6 → cnd x_6 ((0 : Int) ≤ x_4 ∧ x_4 < (↑(List.length x.2.2.1) : Int) ∧ (40 : Int) ≠ (0 : Int) ∧ (0 : Int) ≤ x_4 ∧ x_4 < (↑(List.length x.2.2.1) : Int) ∧ (120 : Int) ≠ (0 : Int) ∧ (List.length x_5.2.2 + List.length ((IntKind.wrap IntKind.i64 ((10 : Int) + Int.tmod (IntKind.wrap IntKind.i64 (Prod.fst (List.getD x.2.2.1 (Int.toNat x_4) ((0 : Int), (0 : Int))))) (40 : Int)), Int.tmod (IntKind.wrap IntKind.i64 (Prod.snd (List.getD x.2.2.1 (Int.toNat x_4) ((0 : Int), (0 : Int))))) (120 : Int)) :: ([] : List (Int × Int)))) * (16 : Nat) ≤ (140737488355328 : Nat) ∧ I (IntKind.wrap IntKind.i64 (x_4 + (1 : Int))) (x_5.1, x_5.2.1, x_5.2.2 ++ (IntKind.wrap IntKind.i64 ((10 : Int) + Int.tmod (IntKind.wrap IntKind.i64 (Prod.fst (List.getD x.2.2.1 (Int.toNat x_4) ((0 : Int), (0 : Int))))) (40 : Int)), Int.tmod (IntKind.wrap IntKind.i64 (Prod.snd (List.getD x.2.2.1 (Int.toNat x_4) ((0 : Int), (0 : Int))))) (120 : Int)) :: ([] : List (Int × Int))) ∧ μ (IntKind.wrap IntKind.i64 (x_4 + (1 : Int))) (x_5.1, x_5.2.1, x_5.2.2 ++ (IntKind.wrap IntKind.i64 ((10 : Int) + Int.tmod (IntKind.wrap IntKind.i64 (Prod.fst (List.getD x.2.2.1 (Int.toNat x_4) ((0 : Int), (0 : Int))))) (40 : Int)), Int.tmod (IntKind.wrap IntKind.i64 (Prod.snd (List.getD x.2.2.1 (Int.toNat x_4) ((0 : Int), (0 : Int))))) (120 : Int)) :: ([] : List (Int × Int))) < μ x_4 x_5) (∃ (I : Int → List Spring → Prop), ∃ (μ : Int → List Spring → Nat), I (0 : Int) ([] : List Spring) ∧ ∀ (x_7 : Int) (x_8 : List Spring), I x_7 x_8 → ∃ (I_3 : Bool → Prop), cnd (x_7 == (0 : Int)) (I_3 true) (List.length x.2.2.2 ≤ (9223372036854775807 : Nat) → cnd (decide (x_7 < (↑(List.length x.2.2.2) : Int))) (I_3 (decide (x_7 < (3 : Int)))) (I_3 false)) ∧ ∀ (x_9 : Bool), I_3 x_9 → cnd x_9 (List.length x.2.2.2 ≤ (9223372036854775807 : Nat) → ∃ (I_4 : Int × Int × Int × Int → Prop), cnd (decide (x_7 < (↑(List.length x.2.2.2) : Int))) ((0 : Int) ≤ x_7 ∧ x_7 < (↑(List.length x.2.2.2) : Int) ∧ I_4 (Prod.fst (List.getD x.2.2.2 (Int.toNat x_7) ((0 : Int), (0 : Int), (0 : Int), (0 : Int))), Prod.fst (Prod.snd (List.getD x.2.2.2 (Int.toNat x_7) ((0 : Int), (0 : Int), (0 : Int), (0 : Int)))), Prod.fst (Prod.snd (Prod.snd (List.getD x.2.2.2 (Int.toNat x_7) ((0 : Int), (0 : Int), (0 : Int), (0 : Int))))), Prod.snd (Prod.snd (Prod.snd (List.getD x.2.2.2 (Int.toNat x_7) ((0 : Int), (0 : Int), (0 : Int), (0 : Int))))))) (I_4 ((12 : Int), (3 : Int), (2 : Int), (15 : Int))) ∧ ∀ (x : Int × Int × Int × Int), I_4 x → (20 : Int) ≠ (0 : Int) ∧ (6 : Int) ≠ (0 : Int) ∧ ∃ (r : Int × Int), (f55_wp (IntKind.wrap IntKind.i64 ((4 : Int) + Int.tmod (IntKind.wrap IntKind.i64 x.1) (20 : Int)), IntKind.wrap IntKind.i64 (IntKind.wrap IntKind.i64 ((4 : Int) + Int.tmod (IntKind.wrap IntKind.i64 x.1) (20 : Int)) + Int.tmod (IntKind.wrap IntKind.i64 x.2.1) (6 : Int)), ()) () fun (r' : Int × Int) ↦ r' = r) ∧ (5 : Int) ≠ (0 : Int) ∧ (35 : Int) ≠ (0 : Int) ∧ (List.length x_8 + List.length (((r.1, r.2), Int.tmod (IntKind.wrap IntKind.i64 x.2.2.1) (5 : Int), IntKind.wrap IntKind.i64 ((5 : Int) + Int.tmod (IntKind.wrap IntKind.i64 x.2.2.2) (35 : Int))) :: ([] : List Spring))) * (32 : Nat) ≤ (140737488355328 : Nat) ∧ I (IntKind.wrap IntKind.i64 (x_7 + (1 : Int))) (x_8 ++ ((r.1, r.2), Int.tmod (IntKind.wrap IntKind.i64 x.2.2.1) (5 : Int), IntKind.wrap IntKind.i64 ((5 : Int) + Int.tmod (IntKind.wrap IntKind.i64 x.2.2.2) (35 : Int))) :: ([] : List Spring)) ∧ μ (IntKind.wrap IntKind.i64 (x_7 + (1 : Int))) (x_8 ++ ((r.1, r.2), Int.tmod (IntKind.wrap IntKind.i64 x.2.2.1) (5 : Int), IntKind.wrap IntKind.i64 ((5 : Int) + Int.tmod (IntKind.wrap IntKind.i64 x.2.2.2) (35 : Int))) :: ([] : List Spring)) < μ x_7 x_8) (Q ((x_5.1, x_5.2.1, x_5.2.2), x_8, ()))))
theorem v43 (x : List Int × Int × List (Int × Int) × List FansT) (Q : (List Int × Int × List (Int × Int)) × List Spring × Unit → Prop) : V43 x Q = vcFunc (S0 [(55, f55_ct)] []) f43_ct.own f43_ct.fresh f43_an Try.f43 (bodyOf Try.f43) f43_ct.A f43_ct.C f43_ct.R x () Q := by kernel_rfl

def V44 (s : List Int × Int × List (Int × Int)) (Q : List Int × Int × List (Int × Int) → Prop) : Prop := (List.length ([] : List Int) + List.length s.1) * (8 : Nat) ≤ (140737488355328 : Nat) ∧ (List.length ([] : List (Int × Int)) + List.length s.2.2) * (16 : Nat) ≤ (140737488355328 : Nat) ∧ Q (([] : List Int) ++ s.1, s.2.1, ([] : List (Int × Int)) ++ s.2.2)
theorem v44 (s : List Int × Int × List (Int × Int)) (Q : List Int × Int × List (Int × Int) → Prop) : V44 s Q = vcFunc (S0 [] []) f44_ct.own f44_ct.fresh no_an Try.f44 (bodyOf Try.f44) f44_ct.A f44_ct.C f44_ct.R s () Q := by kernel_rfl

def V45 (f : List Spring) (Q : List Spring → Prop) : Prop := (List.length ([] : List Spring) + List.length f) * (32 : Nat) ≤ (140737488355328 : Nat) ∧ Q (([] : List Spring) ++ f)
theorem v45 (f : List Spring) (Q : List Spring → Prop) : V45 f Q = vcFunc (S0 [] []) f45_ct.own f45_ct.fresh no_an Try.f45 (bodyOf Try.f45) f45_ct.A f45_ct.C f45_ct.R f () Q := by kernel_rfl

def V48 (l : List Int) (i : Int) (Q : Int → Prop) : Prop := List.length l ≤ (9223372036854775807 : Nat) → cnd ((↑(List.length l) : Int) == (0 : Int)) (Q (0 : Int)) (List.length l ≤ (9223372036854775807 : Nat) → (↑(List.length l) : Int) ≠ (0 : Int) ∧ (0 : Int) ≤ Int.tmod i (↑(List.length l) : Int) ∧ Int.tmod i (↑(List.length l) : Int) < (↑(List.length l) : Int) ∧ Q (IntKind.wrap IntKind.i64 (List.getD l (Int.toNat (Int.tmod i (↑(List.length l) : Int))) (0 : Int))))
theorem v48 (l : List Int) (i : Int) (Q : Int → Prop) : V48 l i Q = vcFunc (S0 [] []) f48_ct.own f48_ct.fresh no_an Try.f48 (bodyOf Try.f48) f48_ct.A f48_ct.C f48_ct.R (l, i, ()) () Q := by kernel_rfl

def V46 (f : List Spring) (t : List Int) (Q : List Int → Prop) : Prop := ∃ (I : Int → List Int → Prop), ∃ (μ : Int → List Int → Nat), I (0 : Int) ([] : List Int) ∧ ∀ (x : Int) (x_1 : List Int), I x x_1 → List.length f ≤ (9223372036854775807 : Nat) → cnd (decide (x < (↑(List.length f) : Int))) ((0 : Int) ≤ x ∧ x < (↑(List.length f) : Int) ∧ (List.length t ≤ (9223372036854775807 : Nat) → cnd (decide ((↑(List.length t) : Int) > (0 : Int))) ((0 : Int) ≤ x ∧ x < (↑(List.length f) : Int) ∧ ∃ (r : Int), (f48_wp (t, x, ()) () fun (r' : Int) ↦ r' = r) ∧ (0 : Int) ≤ x ∧ x < (↑(List.length f) : Int) ∧ (255 : Int) ≠ (0 : Int) ∧ (List.length x_1 + List.length (IntKind.wrap IntKind.i64 (Prod.fst (Prod.fst (List.getD f (Int.toNat x) (((0 : Int), (0 : Int)), (0 : Int), (0 : Int)))) + IntKind.wrap IntKind.i64 (Int.tdiv (IntKind.wrap IntKind.i64 (r * IntKind.wrap IntKind.i64 (Prod.snd (Prod.fst (List.getD f (Int.toNat x) (((0 : Int), (0 : Int)), (0 : Int), (0 : Int)))) - Prod.fst (Prod.fst (List.getD f (Int.toNat x) (((0 : Int), (0 : Int)), (0 : Int), (0 : Int))))))) (255 : Int))) :: ([] : List Int))) * (8 : Nat) ≤ (140737488355328 : Nat) ∧ I (IntKind.wrap IntKind.i64 (x + (1 : Int))) (x_1 ++ IntKind.wrap IntKind.i64 (Prod.fst (Prod.fst (List.getD f (Int.toNat x) (((0 : Int), (0 : Int)), (0 : Int), (0 : Int)))) + IntKind.wrap IntKind.i64 (Int.tdiv (IntKind.wrap IntKind.i64 (r * IntKind.wrap IntKind.i64 (Prod.snd (Prod.fst (List.getD f (Int.toNat x) (((0 : Int), (0 : Int)), (0 : Int), (0 : Int)))) - Prod.fst (Prod.fst (List.getD f (Int.toNat x) (((0 : Int), (0 : Int)), (0 : Int), (0 : Int))))))) (255 : Int))) :: ([] : List Int)) ∧ μ (IntKind.wrap IntKind.i64 (x + (1 : Int))) (x_1 ++ IntKind.wrap IntKind.i64 (Prod.fst (Prod.fst (List.getD f (Int.toNat x) (((0 : Int), (0 : Int)), (0 : Int), (0 : Int)))) + IntKind.wrap IntKind.i64 (Int.tdiv (IntKind.wrap IntKind.i64 (r * IntKind.wrap IntKind.i64 (Prod.snd (Prod.fst (List.getD f (Int.toNat x) (((0 : Int), (0 : Int)), (0 : Int), (0 : Int)))) - Prod.fst (Prod.fst (List.getD f (Int.toNat x) (((0 : Int), (0 : Int)), (0 : Int), (0 : Int))))))) (255 : Int))) :: ([] : List Int)) < μ x x_1) ((List.length x_1 + List.length (Prod.snd (Prod.fst (List.getD f (Int.toNat x) (((0 : Int), (0 : Int)), (0 : Int), (0 : Int)))) :: ([] : List Int))) * (8 : Nat) ≤ (140737488355328 : Nat) ∧ I (IntKind.wrap IntKind.i64 (x + (1 : Int))) (x_1 ++ Prod.snd (Prod.fst (List.getD f (Int.toNat x) (((0 : Int), (0 : Int)), (0 : Int), (0 : Int)))) :: ([] : List Int)) ∧ μ (IntKind.wrap IntKind.i64 (x + (1 : Int))) (x_1 ++ Prod.snd (Prod.fst (List.getD f (Int.toNat x) (((0 : Int), (0 : Int)), (0 : Int), (0 : Int)))) :: ([] : List Int)) < μ x x_1))) (Q x_1)
theorem v46 (f : List Spring) (t : List Int) (Q : List Int → Prop) : V46 f t Q = vcFunc (S0 [(48, f48_ct)] []) f46_ct.own f46_ct.fresh f46_an Try.f46 (bodyOf Try.f46) f46_ct.A f46_ct.C f46_ct.R (f, t, ()) () Q := by kernel_rfl

def V47 (s : List Int × Int × List (Int × Int)) (f : List Spring) (c : List Int) (l : List (List Int)) (b : Bool) (Q : List Int × Bool × Unit → Prop) : Prop := (↑(List.length f) : Int) = (↑(List.length f) : Int) ∧ (0 : Int) ≤ (↑(List.length f) : Int) ∧ (↑(List.length f) : Int) * (↑(8 : Nat) : Int) ≤ (140737488355328 : Int) ∧ ∃ (I : Int → Prop), cnd b (List.length s.2.2 ≤ (9223372036854775807 : Nat) → I (↑(List.length s.2.2) : Int)) (I (↑(List.length s.1) : Int)) ∧ ∀ (x : Int), I x → List.length l ≤ (9223372036854775807 : Nat) → cnd ((↑(List.length l) : Int) != x) (Q (List.replicate (Int.toNat (↑(List.length f) : Int)) (0 : Int), false, ())) (∃ (I : Int → List Int → List Int → Bool → Prop), ∃ (μ : Int → List Int → List Int → Bool → Nat), I (0 : Int) (List.replicate (Int.toNat (↑(List.length f) : Int)) (0 : Int)) ([] : List Int) false ∧ ∀ (x_1 : Int) (x_2 x_3 : List Int) (x_4 : Bool), I x_1 x_2 x_3 x_4 → cnd (decide (x_1 < x)) (∃ (I_1 : Int → Int → List Int → List Int → Bool → Prop), ∃ (μ_1 : Int → Int → List Int → List Int → Bool → Nat), I_1 (0 : Int) (0 : Int) x_2 x_3 x_4 ∧ ∀ (x x_5 : Int) (x_6 x_7 : List Int) (x_8 : Bool), I_1 x x_5 x_6 x_7 x_8 → (0 : Int) ≤ x_1 ∧ x_1 < (↑(List.length l) : Int) ∧ (List.length (List.getD l (Int.toNat x_1) ([] : List Int)) ≤ (9223372036854775807 : Nat) → cnd (decide (x < (↑(List.length (List.getD l (Int.toNat x_1) ([] : List Int))) : Int))) ((0 : Int) ≤ x_1 ∧ x_1 < (↑(List.length l) : Int) ∧ (0 : Int) ≤ x ∧ x < (↑(List.length (List.getD l (Int.toNat x_1) ([] : List Int))) : Int) ∧ ∃ (I : Bool → Prop), cnd (decide (List.getD (List.getD l (Int.toNat x_1) ([] : List Int)) (Int.toNat x) (0 : Int) < (0 : Int))) (I true) (cnd (decide (List.getD (List.getD l (Int.toNat x_1) ([] : List Int)) (Int.toNat x) (0 : Int) ≥ (↑(List.length f) : Int))) (I true) (cnd (decide (x > (0 : Int))) ((0 : Int) ≤ x_1 ∧ x_1 < (↑(List.length l) : Int) ∧ (0 : Int) ≤ IntKind.wrap IntKind.i64 (x - (1 : Int)) ∧ IntKind.wrap IntKind.i64 (x - (1 : Int)) < (↑(List.length (List.getD l (Int.toNat x_1) ([] : List Int))) : Int) ∧ cnd (decide (List.getD (List.getD l (Int.toNat x_1) ([] : List Int)) (Int.toNat x) (0 : Int) < List.getD (List.getD l (Int.toNat x_1) ([] : List Int)) (Int.toNat (IntKind.wrap IntKind.i64 (x - (1 : Int)))) (0 : Int))) (I true) (cnd b ((0 : Int) ≤ List.getD (List.getD l (Int.toNat x_1) ([] : List Int)) (Int.toNat x) (0 : Int) ∧ List.getD (List.getD l (Int.toNat x_1) ([] : List Int)) (Int.toNat x) (0 : Int) < (↑(List.length f) : Int) ∧ (0 : Int) ≤ x_1 ∧ x_1 < (↑(List.length s.2.2) : Int) ∧ I (decide (Prod.snd (Prod.snd (List.getD f (Int.toNat (List.getD (List.getD l (Int.toNat x_1) ([] : List Int)) (Int.toNat x) (0 : Int))) (((0 : Int), (0 : Int)), (0 : Int), (0 : Int)))) > Prod.fst (List.getD s.2.2 (Int.toNat x_1) ((0 : Int), (0 : Int)))))) (I false))) (cnd b ((0 : Int) ≤ List.getD (List.getD l (Int.toNat x_1) ([] : List Int)) (Int.toNat x) (0 : Int) ∧ List.getD (List.getD l (Int.toNat x_1) ([] : List Int)) (Int.toNat x) (0 : Int) < (↑(List.length f) : Int) ∧ (0 : Int) ≤ x_1 ∧ x_1 < (↑(List.length s.2.2) : Int) ∧ I (decide (Prod.snd (Prod.snd (List.getD f (Int.toNat (List.getD (List.getD l (Int.toNat x_1) ([] : List Int)) (Int.toNat x) (0 : Int))) (((0 : Int), (0 : Int)), (0 : Int), (0 : Int)))) > Prod.fst (List.getD s.2.2 (Int.toNat x_1) ((0 : Int), (0 : Int)))))) (I false)))) ∧ ∀ (x_9 : Bool), I x_9 → cnd x_9 (Q (x_6, false, ())) ((0 : Int) ≤ List.getD (List.getD l (Int.toNat x_1) ([] : List Int)) (Int.toNat x) (0 : Int) ∧ List.getD (List.getD l (Int.toNat x_1) ([] : List Int)) (Int.toNat x) (0 : Int) < (↑(List.length x_6) : Int) ∧ (0 : Int) ≤ List.getD (List.getD l (Int.toNat x_1) ([] : List Int)) (Int.toNat x) (0 : Int) ∧ List.getD (List.getD l (Int.toNat x_1) ([] : List Int)) (Int.toNat x) (0 : Int) < (↑(List.length x_6) : Int) ∧ (0 : Int) ≤ List.getD (List.getD l (Int.toNat x_1) ([] : List Int)) (Int.toNat x) (0 : Int) ∧ List.getD (List.getD l (Int.toNat x_1) ([] : List Int)) (Int.toNat x) (0 : Int) < (↑(List.length c) : Int) ∧ cnd (decide (x > (0 : Int))) (∃ (I : Int → Prop), cnd (!b) (I (IntKind.wrap IntKind.i64 (IntKind.wrap IntKind.i64 (x_5 + List.getD c (Int.toNat (List.getD (List.getD l (Int.toNat x_1) ([] : List Int)) (Int.toNat x) (0 : Int))) (0 : Int)) + s.2.1))) (I (IntKind.wrap IntKind.i64 (x_5 + List.getD c (Int.toNat (List.getD (List.getD l (Int.toNat x_1) ([] : List Int)) (Int.toNat x) (0 : Int))) (0 : Int)))) ∧ ∀ (x_10 : Int), I x_10 → I_1 (IntKind.wrap IntKind.i64 (x + (1 : Int))) x_10 (List.set x_6 (Int.toNat (List.getD (List.getD l (Int.toNat x_1) ([] : List Int)) (Int.toNat x) (0 : Int))) (IntKind.wrap IntKind.i64 (List.getD x_6 (Int.toNat (List.getD (List.getD l (Int.toNat x_1) ([] : List Int)) (Int.toNat x) (0 : Int))) (0 : Int) + (1 : Int)))) x_7 x_8 ∧ μ_1 (IntKind.wrap IntKind.i64 (x + (1 : Int))) x_10 (List.set x_6 (Int.toNat (List.getD (List.getD l (Int.toNat x_1) ([] : List Int)) (Int.toNat x) (0 : Int))) (IntKind.wrap IntKind.i64 (List.getD x_6 (Int.toNat (List.getD (List.getD l (Int.toNat x_1) ([] : List Int)) (Int.toNat x) (0 : Int))) (0 : Int) + (1 : Int)))) x_7 x_8 < μ_1 x x_5 x_6 x_7 x_8) (∃ (I : Int → Prop), I (IntKind.wrap IntKind.i64 (x_5 + List.getD c (Int.toNat (List.getD (List.getD l (Int.toNat x_1) ([] : List Int)) (Int.toNat x) (0 : Int))) (0 : Int))) ∧ ∀ (x_10 : Int), I x_10 → I_1 (IntKind.wrap IntKind.i64 (x + (1 : Int))) x_10 (List.set x_6 (Int.toNat (List.getD (List.getD l (Int.toNat x_1) ([] : List Int)) (Int.toNat x) (0 : Int))) (IntKind.wrap IntKind.i64 (List.getD x_6 (Int.toNat (List.getD (List.getD l (Int.toNat x_1) ([] : List Int)) (Int.toNat x) (0 : Int))) (0 : Int) + (1 : Int)))) x_7 x_8 ∧ μ_1 (IntKind.wrap IntKind.i64 (x + (1 : Int))) x_10 (List.set x_6 (Int.toNat (List.getD (List.getD l (Int.toNat x_1) ([] : List Int)) (Int.toNat x) (0 : Int))) (IntKind.wrap IntKind.i64 (List.getD x_6 (Int.toNat (List.getD (List.getD l (Int.toNat x_1) ([] : List Int)) (Int.toNat x) (0 : Int))) (0 : Int) + (1 : Int)))) x_7 x_8 < μ_1 x x_5 x_6 x_7 x_8))) (∃ (I_2 : Bool → Prop), cnd b ((0 : Int) ≤ x_1 ∧ x_1 < (↑(List.length s.2.2) : Int) ∧ cnd (decide (x_5 > Prod.snd (List.getD s.2.2 (Int.toNat x_1) ((0 : Int), (0 : Int))))) (I_2 true) (cnd (!b) ((0 : Int) ≤ x_1 ∧ x_1 < (↑(List.length s.1) : Int) ∧ I_2 (decide (x_5 > List.getD s.1 (Int.toNat x_1) (0 : Int)))) (I_2 false))) (cnd (!b) ((0 : Int) ≤ x_1 ∧ x_1 < (↑(List.length s.1) : Int) ∧ I_2 (decide (x_5 > List.getD s.1 (Int.toNat x_1) (0 : Int)))) (I_2 false)) ∧ ∀ (x : Bool), I_2 x → cnd x (Q (x_6, false, ())) (I (IntKind.wrap IntKind.i64 (x_1 + (1 : Int))) x_6 x_7 x_8 ∧ μ (IntKind.wrap IntKind.i64 (x_1 + (1 : Int))) x_6 x_7 x_8 < μ x_1 x_2 x_3 x_4)))) (Q (x_2, true, ())))
theorem v47 (s : List Int × Int × List (Int × Int)) (f : List Spring) (c : List Int) (l : List (List Int)) (b : Bool) (Q : List Int × Bool × Unit → Prop) : V47 s f c l b Q = vcFunc (S0 [] []) f47_ct.own f47_ct.fresh f47_an Try.f47 (bodyOf Try.f47) f47_ct.A f47_ct.C f47_ct.R (s, f, c, l, b, ()) () Q := by kernel_rfl

end Go.Proofs.Fa
