/- Part 7 of the texts behind the proof: FaV4, FaP4, FaP5, FaP6, FaO1, FaO2, FaC5, FaV5, FaP7, FaP8, FaM2, FaP9, FaV6, FaPa, FaPb, FaO3, FaC6, FaV7, FaPc, FaO4. -/
import Derived.Test.YtacedikpdmdodaaG06
import Derived.Test.YtacedikpdmdodaaProg
set_option linter.unusedSimpArgs false
set_option linter.unusedVariables false
set_option linter.unusedSectionVars false
set_option linter.unusedVariables false
set_option maxRecDepth 100000
namespace Go.Proofs.Fa
open Go Go.GX Go.Proofs

def V95 (p : List BinT × Kd.T k138) (f : Int × Int × Int × Int) (Q : List (List Int) → Prop) : Prop := f82_wp (p, (0 : Int), (f.1, f.2.1, f.2.2.1, f.2.2.2), ()) () fun (r : Int) ↦ cnd (decide (r ≥ (1099511627776 : Int))) (Q ([] : List (List Int))) (List.length p.1 ≤ (9223372036854775807 : Nat) → ∃ (I : Int → List (List Int) → Int → Int × Int × Int × Int → Prop), ∃ (μ : Int → List (List Int) → Int → Int × Int × Int × Int → Nat), I (0 : Int) ([] : List (List Int)) r (f.1, f.2.1, f.2.2.1, f.2.2.2) ∧ ∀ (x : Int) (x_1 : List (List Int)) (x_2 : Int) (x_3 : Int × Int × Int × Int), I x x_1 x_2 x_3 → cnd (decide (x < (↑(List.length p.1) : Int))) ((0 : Int) ≤ x ∧ x < (↑(List.length p.1) : Int) ∧ (((0 : Int) ≤ x_3.1 ∧ x_3.1 ≤ (1000 : Int)) ∧ ((0 : Int) ≤ x_3.2.1 ∧ x_3.2.1 ≤ (1000 : Int)) ∧ ((0 : Int) ≤ x_3.2.2.1 ∧ x_3.2.2.1 ≤ (1000 : Int)) ∧ (0 : Int) ≤ x_3.2.2.2 ∧ x_3.2.2.2 ≤ (1000 : Int)) ∧ ∃ (I_1 : List FansT → List Int → Int × Int × Int × Int → Bool → Prop), I_1 ([] : List FansT) ([] : List Int) ((0 : Int), (0 : Int), (0 : Int), (0 : Int)) false ∧ (∀ (pre : List FansT) (x_4 : Int × Int × Int × Int) (rest : List FansT), Fa.upTo (x_3.1, x_3.2.1, x_3.2.2.1, x_3.2.2.2) = pre ++ x_4 :: rest → ∀ (x_5 : List Int) (x_6 : Int × Int × Int × Int) (x_7 : Bool), I_1 pre x_5 x_6 x_7 → ∃ (r : Bool), (f97_wp (((Prod.fst (Prod.fst (List.getD p.1 (Int.toNat x) (((0 : Int), (0 : Int), (0 : Int), (0 : Int)), ((0 : Int), (0 : Int), (0 : Int), (0 : Int)), (0 : Int), (0 : Int)))), Prod.fst (Prod.snd (Prod.fst (List.getD p.1 (Int.toNat x) (((0 : Int), (0 : Int), (0 : Int), (0 : Int)), ((0 : Int), (0 : Int), (0 : Int), (0 : Int)), (0 : Int), (0 : Int))))), Prod.fst (Prod.snd (Prod.snd (Prod.fst (List.getD p.1 (Int.toNat x) (((0 : Int), (0 : Int), (0 : Int), (0 : Int)), ((0 : Int), (0 : Int), (0 : Int), (0 : Int)), (0 : Int), (0 : Int)))))), Prod.snd (Prod.snd (Prod.snd (Prod.fst (List.getD p.1 (Int.toNat x) (((0 : Int), (0 : Int), (0 : Int), (0 : Int)), ((0 : Int), (0 : Int), (0 : Int), (0 : Int)), (0 : Int), (0 : Int))))))), (Prod.fst (Prod.fst (Prod.snd (List.getD p.1 (Int.toNat x) (((0 : Int), (0 : Int), (0 : Int), (0 : Int)), ((0 : Int), (0 : Int), (0 : Int), (0 : Int)), (0 : Int), (0 : Int))))), Prod.fst (Prod.snd (Prod.fst (Prod.snd (List.getD p.1 (Int.toNat x) (((0 : Int), (0 : Int), (0 : Int), (0 : Int)), ((0 : Int), (0 : Int), (0 : Int), (0 : Int)), (0 : Int), (0 : Int)))))), Prod.fst (Prod.snd (Prod.snd (Prod.fst (Prod.snd (List.getD p.1 (Int.toNat x) (((0 : Int), (0 : Int), (0 : Int), (0 : Int)), ((0 : Int), (0 : Int), (0 : Int), (0 : Int)), (0 : Int), (0 : Int))))))), Prod.snd (Prod.snd (Prod.snd (Prod.fst (Prod.snd (List.getD p.1 (Int.toNat x) (((0 : Int), (0 : Int), (0 : Int), (0 : Int)), ((0 : Int), (0 : Int), (0 : Int), (0 : Int)), (0 : Int), (0 : Int)))))))), Prod.fst (Prod.snd (Prod.snd (List.getD p.1 (Int.toNat x) (((0 : Int), (0 : Int), (0 : Int), (0 : Int)), ((0 : Int), (0 : Int), (0 : Int), (0 : Int)), (0 : Int), (0 : Int))))), Prod.snd (Prod.snd (Prod.snd (List.getD p.1 (Int.toNat x) (((0 : Int), (0 : Int), (0 : Int), (0 : Int)), ((0 : Int), (0 : Int), (0 : Int), (0 : Int)), (0 : Int), (0 : Int)))))), (x_4.1, x_4.2.1, x_4.2.2.1, x_4.2.2.2), ()) () fun (r' : Bool) ↦ r' = r) ∧ cnd (!r) (I_1 (pre ++ x_4 :: ([] : List FansT)) x_5 (x_6.1, x_6.2.1, x_6.2.2.1, x_6.2.2.2) x_7) (∃ (r : Int), (f98_wp (((Prod.fst (Prod.fst (List.getD p.1 (Int.toNat x) (((0 : Int), (0 : Int), (0 : Int), (0 : Int)), ((0 : Int), (0 : Int), (0 : Int), (0 : Int)), (0 : Int), (0 : Int)))), Prod.fst (Prod.snd (Prod.fst (List.getD p.1 (Int.toNat x) (((0 : Int), (0 : Int), (0 : Int), (0 : Int)), ((0 : Int), (0 : Int), (0 : Int), (0 : Int)), (0 : Int), (0 : Int))))), Prod.fst (Prod.snd (Prod.snd (Prod.fst (List.getD p.1 (Int.toNat x) (((0 : Int), (0 : Int), (0 : Int), (0 : Int)), ((0 : Int), (0 : Int), (0 : Int), (0 : Int)), (0 : Int), (0 : Int)))))), Prod.snd (Prod.snd (Prod.snd (Prod.fst (List.getD p.1 (Int.toNat x) (((0 : Int), (0 : Int), (0 : Int), (0 : Int)), ((0 : Int), (0 : Int), (0 : Int), (0 : Int)), (0 : Int), (0 : Int))))))), (Prod.fst (Prod.fst (Prod.snd (List.getD p.1 (Int.toNat x) (((0 : Int), (0 : Int), (0 : Int), (0 : Int)), ((0 : Int), (0 : Int), (0 : Int), (0 : Int)), (0 : Int), (0 : Int))))), Prod.fst (Prod.snd (Prod.fst (Prod.snd (List.getD p.1 (Int.toNat x) (((0 : Int), (0 : Int), (0 : Int), (0 : Int)), ((0 : Int), (0 : Int), (0 : Int), (0 : Int)), (0 : Int), (0 : Int)))))), Prod.fst (Prod.snd (Prod.snd (Prod.fst (Prod.snd (List.getD p.1 (Int.toNat x) (((0 : Int), (0 : Int), (0 : Int), (0 : Int)), ((0 : Int), (0 : Int), (0 : Int), (0 : Int)), (0 : Int), (0 : Int))))))), Prod.snd (Prod.snd (Prod.snd (Prod.fst (Prod.snd (List.getD p.1 (Int.toNat x) (((0 : Int), (0 : Int), (0 : Int), (0 : Int)), ((0 : Int), (0 : Int), (0 : Int), (0 : Int)), (0 : Int), (0 : Int)))))))), Prod.fst (Prod.snd (Prod.snd (List.getD p.1 (Int.toNat x) (((0 : Int), (0 : Int), (0 : Int), (0 : Int)), ((0 : Int), (0 : Int), (0 : Int), (0 : Int)), (0 : Int), (0 : Int))))), Prod.snd (Prod.snd (Prod.snd (List.getD p.1 (Int.toNat x) (((0 : Int), (0 : Int), (0 : Int), (0 : Int)), ((0 : Int), (0 : Int), (0 : Int), (0 : Int)), (0 : Int), (0 : Int)))))), (x_4.1, x_4.2.1, x_4.2.2.1, x_4.2.2.2), ()) () fun (r' : Int) ↦ r' = r) ∧ ∃ (r_1 : Int × Int × Int × Int), (f99_wp ((x_3.1, x_3.2.1, x_3.2.2.1, x_3.2.2.2), (x_4.1, x_4.2.1, x_4.2.2.1, x_4.2.2.2), ()) () fun (r' : Int × Int × Int × Int) ↦ r' = r_1) ∧ ∃ (r_2 : Int), (f82_wp (p, IntKind.wrap IntKind.i64 (x + (1 : Int)), (r_1.1, r_1.2.1, r_1.2.2.1, r_1.2.2.2), ()) () fun (r' : Int) ↦ r' = r_2) ∧ cnd (IntKind.wrap IntKind.i64 (r + r_2) != x_2) (I_1 (pre ++ x_4 :: ([] : List FansT)) x_5 (x_6.1, x_6.2.1, x_6.2.2.1, x_6.2.2.2) x_7) (f105_wp (x_4.1, x_4.2.1, x_4.2.2.1, x_4.2.2.2) () fun (r : List Int) ↦ cnd (!x_7) (I_1 (pre ++ x_4 :: ([] : List FansT)) r (x_4.1, x_4.2.1, x_4.2.2.1, x_4.2.2.2) true) (f89_wp (r, x_5, ()) () fun (r_3 : Int) ↦ cnd (decide (r_3 < (0 : Int))) (I_1 (pre ++ x_4 :: ([] : List FansT)) r (x_4.1, x_4.2.1, x_4.2.2.1, x_4.2.2.2) true) (I_1 (pre ++ x_4 :: ([] : List FansT)) x_5 (x_6.1, x_6.2.1, x_6.2.2.1, x_6.2.2.2) x_7))))) ∧ ∀ (x_4 : List Int) (x_5 : Int × Int × Int × Int) (x_6 : Bool), I_1 (Fa.upTo (x_3.1, x_3.2.1, x_3.2.2.1, x_3.2.2.2)) x_4 x_5 x_6 → (List.length x_1 + List.length (x_4 :: ([] : List (List Int)))) * (24 : Nat) ≤ (140737488355328 : Nat) ∧ ∃ (r : Int), (f98_wp (((Prod.fst (Prod.fst (List.getD p.1 (Int.toNat x) (((0 : Int), (0 : Int), (0 : Int), (0 : Int)), ((0 : Int), (0 : Int), (0 : Int), (0 : Int)), (0 : Int), (0 : Int)))), Prod.fst (Prod.snd (Prod.fst (List.getD p.1 (Int.toNat x) (((0 : Int), (0 : Int), (0 : Int), (0 : Int)), ((0 : Int), (0 : Int), (0 : Int), (0 : Int)), (0 : Int), (0 : Int))))), Prod.fst (Prod.snd (Prod.snd (Prod.fst (List.getD p.1 (Int.toNat x) (((0 : Int), (0 : Int), (0 : Int), (0 : Int)), ((0 : Int), (0 : Int), (0 : Int), (0 : Int)), (0 : Int), (0 : Int)))))), Prod.snd (Prod.snd (Prod.snd (Prod.fst (List.getD p.1 (Int.toNat x) (((0 : Int), (0 : Int), (0 : Int), (0 : Int)), ((0 : Int), (0 : Int), (0 : Int), (0 : Int)), (0 : Int), (0 : Int))))))), (Prod.fst (Prod.fst (Prod.snd (List.getD p.1 (Int.toNat x) (((0 : Int), (0 : Int), (0 : Int), (0 : Int)), ((0 : Int), (0 : Int), (0 : Int), (0 : Int)), (0 : Int), (0 : Int))))), Prod.fst (Prod.snd (Prod.fst (Prod.snd (List.getD p.1 (Int.toNat x) (((0 : Int), (0 : Int), (0 : Int), (0 : Int)), ((0 : Int), (0 : Int), (0 : Int), (0 : Int)), (0 : Int), (0 : Int)))))), Prod.fst (Prod.snd (Prod.snd (Prod.fst (Prod.snd (List.getD p.1 (Int.toNat x) (((0 : Int), (0 : Int), (0 : Int), (0 : Int)), ((0 : Int), (0 : Int), (0 : Int), (0 : Int)), (0 : Int), (0 : Int))))))), Prod.snd (Prod.snd (Prod.snd (Prod.fst (Prod.snd (List.getD p.1 (Int.toNat x) (((0 : Int), (0 : Int), (0 : Int), (0 : Int)), ((0 : Int), (0 : Int), (0 : Int), (0 : Int)), (0 : Int), (0 : Int)))))))), Prod.fst (Prod.snd (Prod.snd (List.getD p.1 (Int.toNat x) (((0 : Int), (0 : Int), (0 : Int), (0 : Int)), ((0 : Int), (0 : Int), (0 : Int), (0 : Int)), (0 : Int), (0 : Int))))), Prod.snd (Prod.snd (Prod.snd (List.getD p.1 (Int.toNat x) (((0 : Int), (0 : Int), (0 : Int), (0 : Int)), ((0 : Int), (0 : Int), (0 : Int), (0 : Int)), (0 : Int), (0 : Int)))))), (x_5.1, x_5.2.1, x_5.2.2.1, x_5.2.2.2), ()) () fun (r' : Int) ↦ r' = r) ∧ ∃ (r_1 : Int × Int × Int × Int), (f99_wp ((x_3.1, x_3.2.1, x_3.2.2.1, x_3.2.2.2), (x_5.1, x_5.2.1, x_5.2.2.1, x_5.2.2.2), ()) () fun (r' : Int × Int × Int × Int) ↦ r' = r_1) ∧ I (IntKind.wrap IntKind.i64 (x + (1 : Int))) (x_1 ++ x_4 :: ([] : List (List Int))) (IntKind.wrap IntKind.i64 (x_2 - r)) (r_1.1, r_1.2.1, r_1.2.2.1, r_1.2.2.2) ∧ μ (IntKind.wrap IntKind.i64 (x + (1 : Int))) (x_1 ++ x_4 :: ([] : List (List Int))) (IntKind.wrap IntKind.i64 (x_2 - r)) (r_1.1, r_1.2.1, r_1.2.2.1, r_1.2.2.2) < μ x x_1 x_2 x_3) (Q x_1))
theorem v95 (p : List BinT × Kd.T k138) (f : Int × Int × Int × Int) (Q : List (List Int) → Prop) : V95 p f Q = vcFunc (S0 [(82, f82_ct), (97, f97_ct), (98, f98_ct), (99, f99_ct), (105, f105_ct), (89, f89_ct)] []) f95_ct.own f95_ct.fresh f95_an Try.f95 (bodyOf Try.f95) f95_ct.A f95_ct.C f95_ct.R (p, f, ()) () Q := by kernel_rfl

def V67 (bs : List BinT) (f : Int × Int × Int × Int) (Q : List (List Int) × Int × Unit → Prop) : Prop := f81_wp bs () fun (r : List BinT × Kd.T k138) ↦ f82_wp (r, (0 : Int), (f.1, f.2.1, f.2.2.1, f.2.2.2), ()) () fun (r_1 : Int) ↦ cnd (decide (r_1 ≥ (1099511627776 : Int))) (Q (([] : List (List Int)), (9 : Int), ())) (f95_wp (r, (f.1, f.2.1, f.2.2.1, f.2.2.2), ()) () fun (r : List (List Int)) ↦ Q (r, (0 : Int), ()))
theorem v67 (bs : List BinT) (f : Int × Int × Int × Int) (Q : List (List Int) × Int × Unit → Prop) : V67 bs f Q = vcFunc (S0 [(81, f81_ct), (82, f82_ct), (95, f95_ct)] []) f67_ct.own f67_ct.fresh no_an Try.f67 (bodyOf Try.f67) f67_ct.A f67_ct.C f67_ct.R (bs, f, ()) () Q := by kernel_rfl

def V102 (f : Int × Int × Int × Int) (p : List BinT × Kd.T k138) (q : List BinT × Kd.T k138) (Q : Bool → Prop) : Prop := f82_wp (p, (0 : Int), (f.1, f.2.1, f.2.2.1, f.2.2.2), ()) () fun (r : Int) ↦ cnd (decide (r < (1099511627776 : Int))) (f82_wp (q, (0 : Int), (f.1, f.2.1, f.2.2.1, f.2.2.2), ()) () fun (r : Int) ↦ Q (decide (r < (1099511627776 : Int)))) (Q false)
theorem v102 (f : Int × Int × Int × Int) (p : List BinT × Kd.T k138) (q : List BinT × Kd.T k138) (Q : Bool → Prop) : V102 f p q Q = vcFunc (S0 [(82, f82_ct)] []) f102_ct.own f102_ct.fresh no_an Try.f102 (bodyOf Try.f102) f102_ct.A f102_ct.C f102_ct.R f (p, q, ()) Q := by kernel_rfl

def V86 (x : (List Int × Int × List (Int × Int)) × List Spring × Int × Int × Int × Int) (Q : (Int × Int × Int × Int → (Bool → Prop) → Prop) → Prop) : Prop := ∃ (r : List BinT), (f68_wp (((x.1.1, x.1.2.1, x.1.2.2), x.2.1, x.2.2.1, x.2.2.2.1, x.2.2.2.2.1, x.2.2.2.2.2), (0 : Int), (0 : Int), ()) () fun (r' : List BinT) ↦ r' = r) ∧ ∃ (r_1 : List BinT × Kd.T k138), (f81_wp r () fun (r' : List BinT × Kd.T k138) ↦ r' = r_1) ∧ ∃ (r : List BinT), (f77_wp ((x.1.1, x.1.2.1, x.1.2.2), x.2.1, x.2.2.1, x.2.2.2.1, x.2.2.2.2.1, x.2.2.2.2.2) () fun (r' : List BinT) ↦ r' = r) ∧ ∃ (r_2 : List BinT × Kd.T k138), (f81_wp r () fun (r' : List BinT × Kd.T k138) ↦ r' = r_2) ∧ Q fun (x : Int × Int × Int × Int) (Q : Bool → Prop) ↦ f102_wp x (r_1, r_2, ()) fun (r : Bool) ↦ Q r
theorem v86 (x : (List Int × Int × List (Int × Int)) × List Spring × Int × Int × Int × Int) (Q : (Int × Int × Int × Int → (Bool → Prop) → Prop) → Prop) : V86 x Q = vcFunc (S0 [(68, f68_ct), (81, f81_ct), (77, f77_ct), (102, f102_ct)] []) f86_ct.own f86_ct.fresh no_an Try.f86 (bodyOf Try.f86) f86_ct.A f86_ct.C f86_ct.R x () Q := by kernel_rfl

def V21 (s : List Int × Int × List (Int × Int)) (f : List Spring) (Q : List (List Int) × Int × Unit → Prop) : Prop := f20_wp ((s.1, s.2.1, s.2.2), f, ()) () fun (r : Int) ↦ cnd (r != (0 : Int)) (Q (([] : List (List Int)), r, ())) (f65_wp ((s.1, s.2.1, s.2.2), f, fun (x : Int × Int) (Q : Int → Prop) ↦ f66_wp x () fun (r : Int) ↦ Q r, ()) () fun (r : (List Int × Int × List (Int × Int)) × List Spring × Int × Int × Int × Int) ↦ ∃ (r_1 : List BinT), (f68_wp (((r.1.1, r.1.2.1, r.1.2.2), r.2.1, r.2.2.1, r.2.2.2.1, r.2.2.2.2.1, r.2.2.2.2.2), (0 : Int), (1 : Int), ()) () fun (r' : List BinT) ↦ r' = r_1) ∧ ∃ (r_2 : Int × Int × Int × Int), (f69_wp ((r.1.1, r.1.2.1, r.1.2.2), r.2.1, r.2.2.1, r.2.2.2.1, r.2.2.2.2.1, r.2.2.2.2.2) () fun (r' : Int × Int × Int × Int) ↦ r' = r_2) ∧ ∃ (r : List (List Int) × Int × Unit), (f67_wp (r_1, (r_2.1, r_2.2.1, r_2.2.2.1, r_2.2.2.2), ()) () fun (r' : List (List Int) × Int × Unit) ↦ r' = r) ∧ Q (r.1, r.2.1, ()))
theorem v21 (s : List Int × Int × List (Int × Int)) (f : List Spring) (Q : List (List Int) × Int × Unit → Prop) : V21 s f Q = vcFunc (S0 [(20, f20_ct), (65, f65_ct), (66, f66_ct), (68, f68_ct), (69, f69_ct), (67, f67_ct)] []) f21_ct.own f21_ct.fresh no_an Try.f21 (bodyOf Try.f21) f21_ct.A f21_ct.C f21_ct.R (s, f, ()) () Q := by kernel_rfl

def V29 (s : List Int × Int × List (Int × Int)) (f : List Spring) (Q : List (List Int) × Int × Unit → Prop) : Prop := f20_wp ((s.1, s.2.1, s.2.2), f, ()) () fun (r : Int) ↦ cnd (r != (0 : Int)) (Q (([] : List (List Int)), r, ())) (f65_wp ((s.1, s.2.1, s.2.2), f, fun (x : Int × Int) (Q : Int → Prop) ↦ f66_wp x () fun (r : Int) ↦ Q r, ()) () fun (r : (List Int × Int × List (Int × Int)) × List Spring × Int × Int × Int × Int) ↦ ∃ (r_1 : List BinT), (f77_wp ((r.1.1, r.1.2.1, r.1.2.2), r.2.1, r.2.2.1, r.2.2.2.1, r.2.2.2.2.1, r.2.2.2.2.2) () fun (r' : List BinT) ↦ r' = r_1) ∧ ∃ (r_2 : Int × Int × Int × Int), (f69_wp ((r.1.1, r.1.2.1, r.1.2.2), r.2.1, r.2.2.1, r.2.2.2.1, r.2.2.2.2.1, r.2.2.2.2.2) () fun (r' : Int × Int × Int × Int) ↦ r' = r_2) ∧ ∃ (r : List (List Int) × Int × Unit), (f67_wp (r_1, (r_2.1, r_2.2.1, r_2.2.2.1, r_2.2.2.2), ()) () fun (r' : List (List Int) × Int × Unit) ↦ r' = r) ∧ Q (r.1, r.2.1, ()))
theorem v29 (s : List Int × Int × List (Int × Int)) (f : List Spring) (Q : List (List Int) × Int × Unit → Prop) : V29 s f Q = vcFunc (S0 [(20, f20_ct), (65, f65_ct), (66, f66_ct), (77, f77_ct), (69, f69_ct), (67, f67_ct)] []) f29_ct.own f29_ct.fresh no_an Try.f29 (bodyOf Try.f29) f29_ct.A f29_ct.C f29_ct.R (s, f, ()) () Q := by kernel_rfl

def V50 (s : List Int × Int × List (Int × Int)) (f : List Spring) (Q : List Int × Int × Unit → Prop) : Prop := f20_wp ((s.1, s.2.1, s.2.2), f, ()) () fun (r : Int) ↦ cnd (r != (0 : Int)) (Q (([] : List Int), r, ())) (f65_wp ((s.1, s.2.1, s.2.2), f, fun (x : Int × Int) (Q : Int → Prop) ↦ f66_wp x () fun (r : Int) ↦ Q r, ()) () fun (r : (List Int × Int × List (Int × Int)) × List Spring × Int × Int × Int × Int) ↦ f86_wp ((r.1.1, r.1.2.1, r.1.2.2), r.2.1, r.2.2.1, r.2.2.2.1, r.2.2.2.2.1, r.2.2.2.2.2) () fun (r_1 : Int × Int × Int × Int → (Bool → Prop) → Prop) ↦ f69_wp ((r.1.1, r.1.2.1, r.1.2.2), r.2.1, r.2.2.1, r.2.2.2.1, r.2.2.2.2.1, r.2.2.2.2.2) () fun (r : Int × Int × Int × Int) ↦ (((0 : Int) ≤ r.1 ∧ r.1 ≤ (1000 : Int)) ∧ ((0 : Int) ≤ r.2.1 ∧ r.2.1 ≤ (1000 : Int)) ∧ ((0 : Int) ≤ r.2.2.1 ∧ r.2.2.1 ≤ (1000 : Int)) ∧ (0 : Int) ≤ r.2.2.2 ∧ r.2.2.2 ≤ (1000 : Int)) ∧ ∃ (I : List FansT → Int × Int × Int × Int → Prop), I ([] : List FansT) ((0 : Int), (0 : Int), (0 : Int), (0 : Int)) ∧ (∀ (pre : List FansT) (x : Int × Int × Int × Int) (rest : List FansT), Fa.upTo (r.1, r.2.1, r.2.2.1, r.2.2.2) = pre ++ x :: rest → ∀ (x_1 : Int × Int × Int × Int), I pre x_1 → ∃ (r : Int), (f80_wp (x.1, x.2.1, x.2.2.1, x.2.2.2) () fun (r' : Int) ↦ r' = r) ∧ ∃ (r_2 : Int), (f80_wp (x_1.1, x_1.2.1, x_1.2.2.1, x_1.2.2.2) () fun (r' : Int) ↦ r' = r_2) ∧ cnd (decide (r < r_2)) (I (pre ++ x :: ([] : List FansT)) (x_1.1, x_1.2.1, x_1.2.2.1, x_1.2.2.2)) (cnd (r == r_2) ((0 : Int) ≤ (0 : Int) ∧ (0 : Int) ≤ (↑(4 : Nat) : Int) ∧ (↑(4 : Nat) : Int) ≤ (↑(4 : Nat) : Int) ∧ (0 : Int) ≤ (0 : Int) ∧ (0 : Int) ≤ (↑(4 : Nat) : Int) ∧ (↑(4 : Nat) : Int) ≤ (↑(4 : Nat) : Int) ∧ ∃ (r : Int), (f89_wp (List.drop (Int.toNat (0 : Int)) (List.take (Int.toNat (↑(4 : Nat) : Int)) (l4 x)), List.drop (Int.toNat (0 : Int)) (List.take (Int.toNat (↑(4 : Nat) : Int)) (l4 x_1)), ()) () fun (r' : Int) ↦ r' = r) ∧ cnd (decide (r ≤ (0 : Int))) (I (pre ++ x :: ([] : List FansT)) (x_1.1, x_1.2.1, x_1.2.2.1, x_1.2.2.2)) (∃ (r : Bool), (r_1 (x.1, x.2.1, x.2.2.1, x.2.2.2) fun (r' : Bool) ↦ r' = r) ∧ cnd (!r) (I (pre ++ x :: ([] : List FansT)) (x_1.1, x_1.2.1, x_1.2.2.1, x_1.2.2.2)) (I (pre ++ x :: ([] : List FansT)) (x.1, x.2.1, x.2.2.1, x.2.2.2)))) (∃ (r : Bool), (r_1 (x.1, x.2.1, x.2.2.1, x.2.2.2) fun (r' : Bool) ↦ r' = r) ∧ cnd (!r) (I (pre ++ x :: ([] : List FansT)) (x_1.1, x_1.2.1, x_1.2.2.1, x_1.2.2.2)) (I (pre ++ x :: ([] : List FansT)) (x.1, x.2.1, x.2.2.1, x.2.2.2))))) ∧ ∀ (x : Int × Int × Int × Int), I (Fa.upTo (r.1, r.2.1, r.2.2.1, r.2.2.2)) x → List.length f ≤ (9223372036854775807 : Nat) → (0 : Int) ≤ (0 : Int) ∧ (0 : Int) ≤ (↑(List.length f) : Int) ∧ (↑(List.length f) : Int) ≤ (↑(4 : Nat) : Int) ∧ f79_wp (List.drop (Int.toNat (0 : Int)) (List.take (Int.toNat (↑(List.length f) : Int)) (l4 x))) () fun (r : List Int) ↦ Q (r, (0 : Int), ()))
theorem v50 (s : List Int × Int × List (Int × Int)) (f : List Spring) (Q : List Int × Int × Unit → Prop) : V50 s f Q = vcFunc (S0 [(20, f20_ct), (65, f65_ct), (66, f66_ct), (86, f86_ct), (69, f69_ct), (80, f80_ct), (89, f89_ct), (79, f79_ct)] []) f50_ct.own f50_ct.fresh f50_an Try.f50 (bodyOf Try.f50) f50_ct.A f50_ct.C f50_ct.R (s, f, ()) () Q := by kernel_rfl

def V31 (s : List Int × Int × List (Int × Int)) (f : List Spring) (p : Int) (Q : Int × Int × Unit → Prop) : Prop := f20_wp ((s.1, s.2.1, s.2.2), f, ()) () fun (r : Int) ↦ cnd (r != (0 : Int)) (Q ((0 : Int), r, ())) (f78_wp p () fun (r : Bool) ↦ cnd (!r) (Q ((0 : Int), (7 : Int), ())) (f65_wp ((s.1, s.2.1, s.2.2), f, fun (x : Int × Int) (Q : Int → Prop) ↦ f66_wp x () fun (r : Int) ↦ Q r, ()) () fun (r : (List Int × Int × List (Int × Int)) × List Spring × Int × Int × Int × Int) ↦ f79_wp s.1 () fun (r_1 : List Int) ↦ f69_wp ((r_1, r.1.2.1, r.1.2.2), r.2.1, r.2.2.1, r.2.2.2.1, r.2.2.2.2.1, r.2.2.2.2.2) () fun (r_2 : Int × Int × Int × Int) ↦ f80_wp (r_2.1, r_2.2.1, r_2.2.2.1, r_2.2.2.2) () fun (r_3 : Int) ↦ ∃ (I : Int → List Int × Int × List (Int × Int) × List Spring × Int × Int × Int × Int → Prop), ∃ (μ : Int → List Int × Int × List (Int × Int) × List Spring × Int × Int × Int × Int → Nat), I (0 : Int) (r_1, r.1.2.1, r.1.2.2, r.2.1, r.2.2.1, r.2.2.2.1, r.2.2.2.2.1, r.2.2.2.2.2) ∧ ∀ (x : Int) (x_1 : List Int × Int × List (Int × Int) × List Spring × Int × Int × Int × Int), I x x_1 → cnd (decide (x < IntKind.wrap IntKind.i64 (r_3 + (1 : Int)))) (∃ (r : List BinT), (f68_wp (((x_1.1, x_1.2.1, x_1.2.2.1), x_1.2.2.2.1, x_1.2.2.2.2.1, x_1.2.2.2.2.2.1, x_1.2.2.2.2.2.2.1, x_1.2.2.2.2.2.2.2), (0 : Int), (0 : Int), ()) () fun (r' : List BinT) ↦ r' = r) ∧ ∃ (r_4 : List BinT × Kd.T k138), (f81_wp r () fun (r' : List BinT × Kd.T k138) ↦ r' = r_4) ∧ ∃ (r : Int × Int × Int × Int), (f69_wp ((x_1.1, x_1.2.1, x_1.2.2.1), x_1.2.2.2.1, x_1.2.2.2.2.1, x_1.2.2.2.2.2.1, x_1.2.2.2.2.2.2.1, x_1.2.2.2.2.2.2.2) () fun (r' : Int × Int × Int × Int) ↦ r' = r) ∧ ∃ (r_5 : Int), (f82_wp (r_4, (0 : Int), (r.1, r.2.1, r.2.2.1, r.2.2.2), ()) () fun (r' : Int) ↦ r' = r_5) ∧ cnd (decide (r_5 < (1099511627776 : Int))) (Q (x, (0 : Int), ())) ((List.length x_1.1 + List.length (p :: ([] : List Int))) * (8 : Nat) ≤ (140737488355328 : Nat) ∧ I (IntKind.wrap IntKind.i64 (x + (1 : Int))) (x_1.1 ++ p :: ([] : List Int), x_1.2.1, x_1.2.2.1, x_1.2.2.2.1, x_1.2.2.2.2.1, x_1.2.2.2.2.2.1, x_1.2.2.2.2.2.2.1, x_1.2.2.2.2.2.2.2) ∧ μ (IntKind.wrap IntKind.i64 (x + (1 : Int))) (x_1.1 ++ p :: ([] : List Int), x_1.2.1, x_1.2.2.1, x_1.2.2.2.1, x_1.2.2.2.2.1, x_1.2.2.2.2.2.1, x_1.2.2.2.2.2.2.1, x_1.2.2.2.2.2.2.2) < μ x x_1)) (Q ((0 : Int), (9 : Int), ()))))
theorem v31 (s : List Int × Int × List (Int × Int)) (f : List Spring) (p : Int) (Q : Int × Int × Unit → Prop) : V31 s f p Q = vcFunc (S0 [(20, f20_ct), (78, f78_ct), (65, f65_ct), (66, f66_ct), (79, f79_ct), (69, f69_ct), (80, f80_ct), (68, f68_ct), (81, f81_ct), (82, f82_ct)] []) f31_ct.own f31_ct.fresh f31_an Try.f31 (bodyOf Try.f31) f31_ct.A f31_ct.C f31_ct.R (s, f, p, ()) () Q := by kernel_rfl

def V34 (s : List Int × Int × List (Int × Int)) (f : List Spring) (p : Int) (Q : Int × Int × Int × Unit → Prop) : Prop := f20_wp ((s.1, s.2.1, s.2.2), f, ()) () fun (r : Int) ↦ cnd (r != (0 : Int)) (Q ((0 : Int), (0 : Int), r, ())) (f78_wp p () fun (r : Bool) ↦ cnd (!r) (Q ((0 : Int), (0 : Int), (7 : Int), ())) (∃ (r : (List Int × Int × List (Int × Int)) × List Spring × Int × Int × Int × Int), (f65_wp ((s.1, s.2.1, s.2.2), f, fun (x : Int × Int) (Q : Int → Prop) ↦ f66_wp x () fun (r : Int) ↦ Q r, ()) () fun (r' : (List Int × Int × List (Int × Int)) × List Spring × Int × Int × Int × Int) ↦ r' = r) ∧ (List.length f ≤ (9223372036854775807 : Nat) → ∃ (I : Int → Int → Int → Prop), ∃ (μ : Int → Int → Int → Nat), I (0 : Int) (0 : Int) (0 : Int) ∧ ∀ (x x_1 x_2 : Int), I x x_1 x_2 → cnd (decide (x < (↑(List.length f) : Int))) (f69_wp ((r.1.1, r.1.2.1, r.1.2.2), r.2.1, r.2.2.1, r.2.2.2.1, r.2.2.2.2.1, r.2.2.2.2.2) () fun (r_1 : Int × Int × Int × Int) ↦ ∃ (I_1 : Int → Int → Prop), ∃ (μ_1 : Int → Int → Nat), I_1 (0 : Int) (0 : Int) ∧ ∀ (x_3 x_4 : Int), I_1 x_3 x_4 → cnd (decide (x_3 < (4 : Int))) ((0 : Int) ≤ x_3 ∧ x_3 < (↑(4 : Nat) : Int) ∧ (0 : Int) ≤ x_3 ∧ x_3 < (↑(4 : Nat) : Int) ∧ (0 : Int) ≤ x ∧ x < (↑(4 : Nat) : Int) ∧ cnd (decide (List.getD (l4 r.2.2) (Int.toNat x_3) r.2.2.1 ≥ List.getD (l4 r.2.2) (Int.toNat x) r.2.2.1)) ((0 : Int) ≤ x_3 ∧ x_3 < (↑(4 : Nat) : Int) ∧ I_1 (IntKind.wrap IntKind.i64 (x_3 + (1 : Int))) (IntKind.wrap IntKind.i64 (x_4 + IntKind.wrap IntKind.i64 (List.getD (l4 r_1) (Int.toNat x_3) r_1.1 * IntKind.wrap IntKind.i64 (List.getD (l4 r.2.2) (Int.toNat x_3) r.2.2.1 + s.2.1)))) ∧ μ_1 (IntKind.wrap IntKind.i64 (x_3 + (1 : Int))) (IntKind.wrap IntKind.i64 (x_4 + IntKind.wrap IntKind.i64 (List.getD (l4 r_1) (Int.toNat x_3) r_1.1 * IntKind.wrap IntKind.i64 (List.getD (l4 r.2.2) (Int.toNat x_3) r.2.2.1 + s.2.1)))) < μ_1 x_3 x_4) (I_1 (IntKind.wrap IntKind.i64 (x_3 + (1 : Int))) x_4 ∧ μ_1 (IntKind.wrap IntKind.i64 (x_3 + (1 : Int))) x_4 < μ_1 x_3 x_4)) (List.length s.1 ≤ (9223372036854775807 : Nat) → ∃ (I_2 : Int → Int → Prop), ∃ (μ_2 : Int → Int → Nat), I_2 (0 : Int) x_4 ∧ ∀ (x_5 x_6 : Int), I_2 x_5 x_6 → cnd (decide (x_5 < (↑(List.length s.1) : Int))) ((0 : Int) ≤ x_5 ∧ x_5 < (↑(List.length s.1) : Int) ∧ (0 : Int) ≤ x ∧ x < (↑(4 : Nat) : Int) ∧ cnd (decide (List.getD s.1 (Int.toNat x_5) (0 : Int) ≥ List.getD (l4 r.2.2) (Int.toNat x) r.2.2.1)) (I_2 (IntKind.wrap IntKind.i64 (x_5 + (1 : Int))) (IntKind.wrap IntKind.i64 (x_6 - IntKind.wrap IntKind.i64 (List.getD s.1 (Int.toNat x_5) (0 : Int) + s.2.1))) ∧ μ_2 (IntKind.wrap IntKind.i64 (x_5 + (1 : Int))) (IntKind.wrap IntKind.i64 (x_6 - IntKind.wrap IntKind.i64 (List.getD s.1 (Int.toNat x_5) (0 : Int) + s.2.1))) < μ_2 x_5 x_6) (I_2 (IntKind.wrap IntKind.i64 (x_5 + (1 : Int))) x_6 ∧ μ_2 (IntKind.wrap IntKind.i64 (x_5 + (1 : Int))) x_6 < μ_2 x_5 x_6)) (IntKind.wrap IntKind.i64 (p + s.2.1) ≠ (0 : Int) ∧ cnd (decide (IntKind.wrap IntKind.i64 (Int.tdiv (IntKind.wrap IntKind.i64 (IntKind.wrap IntKind.i64 (mxI (0 : Int) x_6 + IntKind.wrap IntKind.i64 (p + s.2.1)) - (1 : Int))) (IntKind.wrap IntKind.i64 (p + s.2.1))) > x_1)) (I (IntKind.wrap IntKind.i64 (x + (1 : Int))) (IntKind.wrap IntKind.i64 (Int.tdiv (IntKind.wrap IntKind.i64 (IntKind.wrap IntKind.i64 (mxI (0 : Int) x_6 + IntKind.wrap IntKind.i64 (p + s.2.1)) - (1 : Int))) (IntKind.wrap IntKind.i64 (p + s.2.1)))) x ∧ μ (IntKind.wrap IntKind.i64 (x + (1 : Int))) (IntKind.wrap IntKind.i64 (Int.tdiv (IntKind.wrap IntKind.i64 (IntKind.wrap IntKind.i64 (mxI (0 : Int) x_6 + IntKind.wrap IntKind.i64 (p + s.2.1)) - (1 : Int))) (IntKind.wrap IntKind.i64 (p + s.2.1)))) x < μ x x_1 x_2) (I (IntKind.wrap IntKind.i64 (x + (1 : Int))) x_1 x_2 ∧ μ (IntKind.wrap IntKind.i64 (x + (1 : Int))) x_1 x_2 < μ x x_1 x_2)))) (Q (x_1, x_2, (0 : Int), ())))))
theorem v34 (s : List Int × Int × List (Int × Int)) (f : List Spring) (p : Int) (Q : Int × Int × Int × Unit → Prop) : V34 s f p Q = vcFunc (S0 [(20, f20_ct), (78, f78_ct), (65, f65_ct), (66, f66_ct), (69, f69_ct)] []) f34_ct.own f34_ct.fresh f34_an Try.f34 (bodyOf Try.f34) f34_ct.A f34_ct.C f34_ct.R (s, f, p, ()) () Q := by kernel_rfl

def V83 (l : List Int) (f : List Spring) (Q : Bool → Prop) : Prop := List.length f ≤ (9223372036854775807 : Nat) → f58_wp ((0 : Int), IntKind.wrap IntKind.i64 ((↑(List.length f) : Int) - (1 : Int)), l, ()) () fun (r : Bool) ↦ cnd (!r) (Q true) (f84_wp l () fun (r : Bool) ↦ Q !r)
theorem v83 (l : List Int) (f : List Spring) (Q : Bool → Prop) : V83 l f Q = vcFunc (S0 [(58, f58_ct), (84, f84_ct)] []) f83_ct.own f83_ct.fresh no_an Try.f83 (bodyOf Try.f83) f83_ct.A f83_ct.C f83_ct.R l (f, ()) Q := by kernel_rfl

def V36 (s : List Int × Int × List (Int × Int)) (f : List Spring) (c : List (List Int)) (Q : List Int × Int × Unit → Prop) : Prop := f20_wp ((s.1, s.2.1, s.2.2), f, ()) () fun (r : Int) ↦ cnd (r != (0 : Int)) (Q (([] : List Int), r, ())) (List.length c ≤ (9223372036854775807 : Nat) → List.length s.1 ≤ (9223372036854775807 : Nat) → cnd ((↑(List.length c) : Int) != (↑(List.length s.1) : Int)) (Q (([] : List Int), (7 : Int), ())) (f85_wp (c, fun (x : List Int) (Q : Bool → Prop) ↦ f83_wp x (f, ()) fun (r : Bool) ↦ Q r, ()) () fun (r : Bool) ↦ cnd r (Q (([] : List Int), (7 : Int), ())) (List.length c ≤ (9223372036854775807 : Nat) → ∃ (I : Int → List Int → Prop), ∃ (μ : Int → List Int → Nat), I (0 : Int) ([] : List Int) ∧ ∀ (x : Int) (x_1 : List Int), I x x_1 → cnd (decide (x < (↑(List.length c) : Int))) ((0 : Int) ≤ x ∧ x < (↑(List.length c) : Int) ∧ (0 : Int) ≤ x ∧ x < (↑(List.length s.1) : Int) ∧ (List.length (List.getD c (Int.toNat x) ([] : List Int)) ≤ (9223372036854775807 : Nat) → ∃ (I_1 : Int → Int → List Int → Prop), ∃ (μ_1 : Int → Int → List Int → Nat), I_1 (0 : Int) (List.getD s.1 (Int.toNat x) (0 : Int)) x_1 ∧ ∀ (x_2 x_3 : Int) (x_4 : List Int), I_1 x_2 x_3 x_4 → cnd (decide (x_2 < (↑(List.length (List.getD c (Int.toNat x) ([] : List Int))) : Int))) ((0 : Int) ≤ x_2 ∧ x_2 < (↑(List.length (List.getD c (Int.toNat x) ([] : List Int))) : Int) ∧ (0 : Int) ≤ List.getD (List.getD c (Int.toNat x) ([] : List Int)) (Int.toNat x_2) (0 : Int) ∧ List.getD (List.getD c (Int.toNat x) ([] : List Int)) (Int.toNat x_2) (0 : Int) < (↑(List.length f) : Int) ∧ cnd (decide (x_2 > (0 : Int))) (cnd (decide (IntKind.wrap IntKind.i64 (IntKind.wrap IntKind.i64 (x_3 - Prod.snd (Prod.fst (List.getD f (Int.toNat (List.getD (List.getD c (Int.toNat x) ([] : List Int)) (Int.toNat x_2) (0 : Int))) (((0 : Int), (0 : Int)), (0 : Int), (0 : Int))))) - s.2.1) < (0 : Int))) (Q (([] : List Int), (9 : Int), ())) (I_1 (IntKind.wrap IntKind.i64 (x_2 + (1 : Int))) (IntKind.wrap IntKind.i64 (IntKind.wrap IntKind.i64 (x_3 - Prod.snd (Prod.fst (List.getD f (Int.toNat (List.getD (List.getD c (Int.toNat x) ([] : List Int)) (Int.toNat x_2) (0 : Int))) (((0 : Int), (0 : Int)), (0 : Int), (0 : Int))))) - s.2.1)) x_4 ∧ μ_1 (IntKind.wrap IntKind.i64 (x_2 + (1 : Int))) (IntKind.wrap IntKind.i64 (IntKind.wrap IntKind.i64 (x_3 - Prod.snd (Prod.fst (List.getD f (Int.toNat (List.getD (List.getD c (Int.toNat x) ([] : List Int)) (Int.toNat x_2) (0 : Int))) (((0 : Int), (0 : Int)), (0 : Int), (0 : Int))))) - s.2.1)) x_4 < μ_1 x_2 x_3 x_4)) (cnd (decide (IntKind.wrap IntKind.i64 (x_3 - Prod.snd (Prod.fst (List.getD f (Int.toNat (List.getD (List.getD c (Int.toNat x) ([] : List Int)) (Int.toNat x_2) (0 : Int))) (((0 : Int), (0 : Int)), (0 : Int), (0 : Int))))) < (0 : Int))) (Q (([] : List Int), (9 : Int), ())) (I_1 (IntKind.wrap IntKind.i64 (x_2 + (1 : Int))) (IntKind.wrap IntKind.i64 (x_3 - Prod.snd (Prod.fst (List.getD f (Int.toNat (List.getD (List.getD c (Int.toNat x) ([] : List Int)) (Int.toNat x_2) (0 : Int))) (((0 : Int), (0 : Int)), (0 : Int), (0 : Int)))))) x_4 ∧ μ_1 (IntKind.wrap IntKind.i64 (x_2 + (1 : Int))) (IntKind.wrap IntKind.i64 (x_3 - Prod.snd (Prod.fst (List.getD f (Int.toNat (List.getD (List.getD c (Int.toNat x) ([] : List Int)) (Int.toNat x_2) (0 : Int))) (((0 : Int), (0 : Int)), (0 : Int), (0 : Int)))))) x_4 < μ_1 x_2 x_3 x_4))) (List.length (List.getD c (Int.toNat x) ([] : List Int)) ≤ (9223372036854775807 : Nat) → cnd (decide ((↑(List.length (List.getD c (Int.toNat x) ([] : List Int))) : Int) > (0 : Int))) ((List.length x_4 + List.length (mxI (0 : Int) (IntKind.wrap IntKind.i64 (x_3 - s.2.1)) :: ([] : List Int))) * (8 : Nat) ≤ (140737488355328 : Nat) ∧ I (IntKind.wrap IntKind.i64 (x + (1 : Int))) (x_4 ++ mxI (0 : Int) (IntKind.wrap IntKind.i64 (x_3 - s.2.1)) :: ([] : List Int)) ∧ μ (IntKind.wrap IntKind.i64 (x + (1 : Int))) (x_4 ++ mxI (0 : Int) (IntKind.wrap IntKind.i64 (x_3 - s.2.1)) :: ([] : List Int)) < μ x x_1) ((List.length x_4 + List.length (x_3 :: ([] : List Int))) * (8 : Nat) ≤ (140737488355328 : Nat) ∧ I (IntKind.wrap IntKind.i64 (x + (1 : Int))) (x_4 ++ x_3 :: ([] : List Int)) ∧ μ (IntKind.wrap IntKind.i64 (x + (1 : Int))) (x_4 ++ x_3 :: ([] : List Int)) < μ x x_1)))) (Q (x_1, (0 : Int), ())))))
theorem v36 (s : List Int × Int × List (Int × Int)) (f : List Spring) (c : List (List Int)) (Q : List Int × Int × Unit → Prop) : V36 s f c Q = vcFunc (S0 [(20, f20_ct), (83, f83_ct), (85, f85_ct)] []) f36_ct.own f36_ct.fresh f36_an Try.f36 (bodyOf Try.f36) f36_ct.A f36_ct.C f36_ct.R (s, f, c, ()) () Q := by kernel_rfl

def V39 (s : List Int × Int × List (Int × Int)) (f : List Spring) (Q : Int × Int × Int × Unit → Prop) : Prop := f20_wp ((s.1, s.2.1, s.2.2), f, ()) () fun (r : Int) ↦ cnd (r != (0 : Int)) (Q ((0 : Int), (0 : Int), r, ())) (f65_wp ((s.1, s.2.1, s.2.2), f, fun (x : Int × Int) (Q : Int → Prop) ↦ f66_wp x () fun (r : Int) ↦ Q r, ()) () fun (r : (List Int × Int × List (Int × Int)) × List Spring × Int × Int × Int × Int) ↦ ∃ (r_1 : List BinT), (f68_wp (((r.1.1, r.1.2.1, r.1.2.2), r.2.1, r.2.2.1, r.2.2.2.1, r.2.2.2.2.1, r.2.2.2.2.2), s.2.1, IntKind.wrap IntKind.i64 (Int.sub (0 : Int) s.2.1), ()) () fun (r' : List BinT) ↦ r' = r_1) ∧ ∃ (r_2 : List BinT × Kd.T k138), (f81_wp r_1 () fun (r' : List BinT × Kd.T k138) ↦ r' = r_2) ∧ ∃ (r_3 : Int × Int × Int × Int), (f69_wp ((r.1.1, r.1.2.1, r.1.2.2), r.2.1, r.2.2.1, r.2.2.2.1, r.2.2.2.2.1, r.2.2.2.2.2) () fun (r' : Int × Int × Int × Int) ↦ r' = r_3) ∧ ∃ (r_4 : Int), (f82_wp (r_2, (0 : Int), (r_3.1, r_3.2.1, r_3.2.2.1, r_3.2.2.2), ()) () fun (r' : Int) ↦ r' = r_4) ∧ ∃ (r_5 : List BinT), (f77_wp ((r.1.1, r.1.2.1, r.1.2.2), r.2.1, r.2.2.1, r.2.2.2.1, r.2.2.2.2.1, r.2.2.2.2.2) () fun (r' : List BinT) ↦ r' = r_5) ∧ ∃ (r_6 : List BinT × Kd.T k138), (f81_wp r_5 () fun (r' : List BinT × Kd.T k138) ↦ r' = r_6) ∧ ∃ (r_7 : Int × Int × Int × Int), (f69_wp ((r.1.1, r.1.2.1, r.1.2.2), r.2.1, r.2.2.1, r.2.2.2.1, r.2.2.2.2.1, r.2.2.2.2.2) () fun (r' : Int × Int × Int × Int) ↦ r' = r_7) ∧ ∃ (r : Int), (f82_wp (r_6, (0 : Int), (r_7.1, r_7.2.1, r_7.2.2.1, r_7.2.2.2), ()) () fun (r' : Int) ↦ r' = r) ∧ cnd (decide (r_4 ≥ (549755813888 : Int))) (Q ((0 : Int), (0 : Int), (9 : Int), ())) (cnd (decide (r ≥ (1099511627776 : Int))) (Q ((0 : Int), (0 : Int), (9 : Int), ())) (Q (r_4, r, (0 : Int), ()))))
theorem v39 (s : List Int × Int × List (Int × Int)) (f : List Spring) (Q : Int × Int × Int × Unit → Prop) : V39 s f Q = vcFunc (S0 [(20, f20_ct), (65, f65_ct), (66, f66_ct), (68, f68_ct), (81, f81_ct), (69, f69_ct), (82, f82_ct), (77, f77_ct)] []) f39_ct.own f39_ct.fresh no_an Try.f39 (bodyOf Try.f39) f39_ct.A f39_ct.C f39_ct.R (s, f, ()) () Q := by kernel_rfl

def V41 (s : List Int × Int × List (Int × Int)) (f : List Spring) (k : Int) (Q : Int × Int × Unit → Prop) : Prop := f20_wp ((s.1, s.2.1, s.2.2), f, ()) () fun (r : Int) ↦ cnd (r != (0 : Int)) (Q ((0 : Int), r, ())) (List.length f ≤ (9223372036854775807 : Nat) → f58_wp ((0 : Int), IntKind.wrap IntKind.i64 ((↑(List.length f) : Int) - (1 : Int)), k :: ([] : List Int), ()) () fun (r : Bool) ↦ cnd (!r) (Q ((0 : Int), (7 : Int), ())) (∃ (I : Int → Prop), ∃ (μ : Int → Nat), I (40 : Int) ∧ ∀ (x : Int), I x → cnd (decide (x ≥ (2 : Int))) (f65_wp ((s.1, s.2.1, s.2.2), f, fun (x : Int × Int) (Q : Int → Prop) ↦ f66_wp x () fun (r : Int) ↦ Q r, ()) () fun (r : (List Int × Int × List (Int × Int)) × List Spring × Int × Int × Int × Int) ↦ (0 : Int) ≤ k ∧ k < (↑(4 : Nat) : Int) ∧ ∃ (r_1 : Int × Int × Int × Int → (Bool → Prop) → Prop), (f86_wp ((r.1.1, r.1.2.1, r.1.2.2), r.2.1, List.getD (List.set (l4 r.2.2) (Int.toNat k) x) (nat_lit 0) x, List.getD (List.set (l4 r.2.2) (Int.toNat k) x) (nat_lit 1) x, List.getD (List.set (l4 r.2.2) (Int.toNat k) x) (nat_lit 2) x, List.getD (List.set (l4 r.2.2) (Int.toNat k) x) (nat_lit 3) x) () fun (r' : Int × Int × Int × Int → (Bool → Prop) → Prop) ↦ r' = r_1) ∧ ∃ (r_2 : Int × Int × Int × Int), (f69_wp ((r.1.1, r.1.2.1, r.1.2.2), r.2.1, List.getD (List.set (l4 r.2.2) (Int.toNat k) x) (nat_lit 0) x, List.getD (List.set (l4 r.2.2) (Int.toNat k) x) (nat_lit 1) x, List.getD (List.set (l4 r.2.2) (Int.toNat k) x) (nat_lit 2) x, List.getD (List.set (l4 r.2.2) (Int.toNat k) x) (nat_lit 3) x) () fun (r' : Int × Int × Int × Int) ↦ r' = r_2) ∧ ∃ (r : Bool), (r_1 (r_2.1, r_2.2.1, r_2.2.2.1, r_2.2.2.2) fun (r' : Bool) ↦ r' = r) ∧ cnd r (Q (x, (0 : Int), ())) (I (IntKind.wrap IntKind.i64 (x - (1 : Int))) ∧ μ (IntKind.wrap IntKind.i64 (x - (1 : Int))) < μ x)) (Q ((0 : Int), (9 : Int), ()))))
theorem v41 (s : List Int × Int × List (Int × Int)) (f : List Spring) (k : Int) (Q : Int × Int × Unit → Prop) : V41 s f k Q = vcFunc (S0 [(20, f20_ct), (58, f58_ct), (65, f65_ct), (66, f66_ct), (86, f86_ct), (69, f69_ct)] []) f41_ct.own f41_ct.fresh f41_an Try.f41 (bodyOf Try.f41) f41_ct.A f41_ct.C f41_ct.R (s, f, k, ()) () Q := by kernel_rfl

end Go.Proofs.Fa
set_option linter.unusedVariables false
namespace Go.Proofs.Fa
open Go Go.GX Go.Proofs

theorem inB_iff {a b n : Int} : inB a b n = true ↔ a ≤ n ∧ n ≤ b := by simp [inB]
theorem all_iff {p : Int → Bool} {l : List Int} : l.all p = true ↔ ∀ x, x ∈ l → p x = true := List.all_eq_true

structure VOK (s : Store) (f : List Spring) : Prop where
  n6 : s.1.length ≤ 6
  n5 : s.2.2.length ≤ 5
  lv : ∀ l, l ∈ s.1 → 1 ≤ l ∧ l ≤ 200
  sm : 0 ≤ s.2.1 ∧ s.2.1 ≤ 10
  lt : ∀ l, l ∈ s.2.2 → (1 ≤ l.1 ∧ l.1 ≤ 200) ∧ (0 ≤ l.2 ∧ l.2 ≤ 200)
  f1 : 1 ≤ f.length
  f4 : f.length ≤ 4
  sp : ∀ s, s ∈ f → (2 ≤ s.1.1 ∧ s.1.1 ≤ s.1.2 ∧ s.1.2 ≤ 40) ∧ (0 ≤ s.2.1 ∧ s.2.1 ≤ 4) ∧ (1 ≤ s.2.2 ∧ s.2.2 ≤ 200)
theorem not_false_eq {b : Bool} (h : ¬ b = false) : b = true := by cases b <;> simp_all
theorem vok_of {s : Store} {f : List Spring} (h : checkF s f = 0) : VOK s f := by
  unfold checkF at h
  split at h
  · cases h
  rename_i h1
  split at h
  · cases h
  rename_i h2
  split at h
  · cases h
  rename_i h3
  split at h
  · cases h
  rename_i h4
  simp only [not_or] at h1 h2
  obtain ⟨h2, h2b, h2c⟩ := h2
  have h2 := not_false_eq h2
  have h2b := not_false_eq h2b
  have h2c := not_false_eq h2c
  have h3 := not_false_eq h3
  have h4 := not_false_eq h4
  refine ⟨by omega, by omega, fun l hl => inB_iff.1 (all_iff.1 h2 l hl), inB_iff.1 h2b, fun l hl => ?_, by have := (inB_iff.1 h3).1; omega, by have := (inB_iff.1 h3).2; omega, fun x hx => ?_⟩
  · have := List.all_eq_true.1 h2c l hl
    simp only [isLotF, Bool.and_eq_true] at this
    exact ⟨inB_iff.1 this.1, inB_iff.1 this.2⟩
  · have := List.all_eq_true.1 h4 x hx
    simp only [isSprF, Bool.and_eq_true, decide_eq_true_eq] at this
    obtain ⟨⟨⟨⟨g1, g2⟩, g3⟩, g4⟩, g5⟩ := this
    have g1 := inB_iff.1 g1
    have g2 := inB_iff.1 g2
    exact ⟨⟨by omega, g3, by omega⟩, inB_iff.1 g4, inB_iff.1 g5⟩
theorem all4_tup {p : Int → Prop} {g : Nat → Int} (h : ∀ i, i < 4 → p (g i)) : all4 p (tup4 g) := ⟨h 0 (by omega), h 1 (by omega), h 2 (by omega), h 3 (by omega)⟩
theorem at4_tup (g : Nat → Int) : ∀ {k : Nat}, k < 4 → at4 (tup4 g) k = g k
  | 0, _ => rfl
  | 1, _ => rfl
  | 2, _ => rfl
  | 3, _ => rfl
  | k + 4, h => absurd h (by omega)
theorem VOK.getS {s : Store} {f : List Spring} (v : VOK s f) {i : Nat} (hi : i < f.length) : (2 ≤ (f.getD i ((0, 0), 0, 0)).1.1 ∧ (f.getD i ((0, 0), 0, 0)).1.1 ≤ (f.getD i ((0, 0), 0, 0)).1.2 ∧ (f.getD i ((0, 0), 0, 0)).1.2 ≤ 40) ∧ (0 ≤ (f.getD i ((0, 0), 0, 0)).2.1 ∧ (f.getD i ((0, 0), 0, 0)).2.1 ≤ 4) ∧ (1 ≤ (f.getD i ((0, 0), 0, 0)).2.2 ∧ (f.getD i ((0, 0), 0, 0)).2.2 ≤ 200) := v.sp _ (getD_mem hi)
theorem VOK.cH {s : Store} {f : List Spring} (v : VOK s f) : all4 (fun x => 0 ≤ x ∧ x ≤ 40) (cH f) := by
  unfold Fa.cH cntF
  refine all4_tup fun i _ => ?_
  show 0 ≤ (if i < f.length then _ else _) ∧ (if i < f.length then _ else _) ≤ 40
  split
  · rename_i h; have := v.getS h; simp only; omega
  · omega
theorem VOK.cL {s : Store} {f : List Spring} (v : VOK s f) : all4 (fun x => 0 ≤ x ∧ x ≤ 40) (cL f) := by
  unfold Fa.cL cntF
  refine all4_tup fun i _ => ?_
  show 0 ≤ (if i < f.length then _ else _) ∧ (if i < f.length then _ else _) ≤ 40
  split
  · rename_i h; have := v.getS h; simp only; omega
  · omega
theorem VOK.want4 {s : Store} {f : List Spring} (v : VOK s f) : all4 (fun x => 0 ≤ x ∧ x ≤ 4) (wantF f) := by
  unfold wantF
  refine all4_tup fun i _ => ?_
  show 0 ≤ (if i < f.length then _ else _) ∧ (if i < f.length then _ else _) ≤ 4
  split
  · rename_i h; have := v.getS h; omega
  · omega
theorem all4_mono {p q : Int → Prop} (h : ∀ x, p x → q x) {t : FansT} (ht : all4 p t) : all4 q t := ⟨h _ ht.1, h _ ht.2.1, h _ ht.2.2.1, h _ ht.2.2.2⟩
theorem VOK.want {s : Store} {f : List Spring} (v : VOK s f) : FOK (wantF f) := all4_mono (fun x h => ⟨h.1, by omega⟩) v.want4
theorem VOK.x {s : Store} {f : List Spring} (v : VOK s f) {c : FansT} (hc : all4 (fun x => 0 ≤ x ∧ x ≤ 40) c) : XOK (s, f, c) where
  n := v.f4
  nl := by have := v.n6; show s.1.length ≤ 500; omega
  nt := by have := v.n5; show s.2.2.length ≤ 500; omega
  lv := fun l hl => by have := v.lv l hl; constructor <;> omega
  sm := by have := v.sm; exact ⟨by show -400 ≤ s.2.1; omega, by show s.2.1 ≤ 400; omega⟩
  lt := fun l hl => by have := v.lt l hl; exact ⟨⟨by omega, by omega⟩, ⟨by omega, by omega⟩⟩
  sp := fun x hx => by have := v.sp x hx; constructor <;> omega
  ct := all4_mono (fun x h => ⟨by omega, by omega⟩) hc
theorem leaves_ok {ls : List Int} {seam : Int} {n : Nat} {c : FansT} {each first : Int} (hn : ls.length ≤ 1000) (hl : ∀ l, l ∈ ls → bnd 400 l) (hs : bnd 400 seam) (hc : all4 (bnd 400) c) (he : bnd 1000 each) (hf : bnd 1000 first) : BinsOK (leavesF ls seam n c each first) := by
  refine ⟨by simpa [leavesF] using hn, fun b hb => ?_⟩
  simp only [leavesF, List.mem_map] at hb
  obtain ⟨p, hp, rfl⟩ := hb
  have hp := hl p hp
  refine ⟨all4_tup fun i hi => ?_, all4_tup fun i hi => ?_, ?_, ?_⟩
  · split
    · have := all4_at hc hi
      exact ⟨by have := this.1; have := hs.1; omega, by have := this.2; have := hs.2; omega⟩
    · exact ⟨by omega, by omega⟩
  · split
    · exact ⟨by have := he.1; omega, by have := he.2; omega⟩
    · exact ⟨by omega, by omega⟩
  · exact ⟨by show -1000000 ≤ p + seam; have := hp.1; have := hs.1; omega, by show p + seam ≤ 1000000; have := hp.2; have := hs.2; omega⟩
  · exact ⟨by show -1000000 ≤ first; have := hf.1; omega, by show first ≤ 1000000; have := hf.2; omega⟩
theorem XOK.lvs {x : Fashion} (h : XOK x) {each first : Int} (he : bnd 1000 each) (hf : bnd 1000 first) : BinsOK (lvs x each first) :=
  leaves_ok (by have := h.nl; omega) h.lv h.sm h.ct he hf
theorem XOK.lts {x : Fashion} (h : XOK x) : BinsOK (lts x) := by
  refine ⟨by have := h.nt; simp only [Fa.lts, lotsF, List.length_map]; omega, fun b hb => ?_⟩
  simp only [Fa.lts, lotsF, List.mem_map] at hb
  obtain ⟨l, hl, rfl⟩ := hb
  have hl := h.lt l hl
  refine ⟨all4_tup fun i hi => ?_, all4_tup fun i hi => ?_, ?_, ⟨by show -1000000 ≤ (0 : Int); omega, by show (0 : Int) ≤ 1000000; omega⟩⟩
  · split
    · split
      · exact ⟨by have := hl.2.1; omega, by have := hl.2.2; omega⟩
      · have := all4_at h.ct hi
        exact ⟨by have := this.1; omega, by have := this.2; omega⟩
    · exact ⟨by omega, by omega⟩
  · split
    · rename_i hlt
      have h1 := all4_at h.ct hi
      have h2 := h.sp _ (getD_mem (d := ((0, 0), 0, 0)) hlt)
      have h3 : bnd 800 (l.1 - (x.2.1.getD i ((0, 0), 0, 0)).2.2) := ⟨by have := hl.1.1; have := h2.2; omega, by have := hl.1.2; have := h2.1; omega⟩
      have := bnd_mul (by omega) h1 h3
      exact ⟨by have := this.1; omega, by have := this.2; omega⟩
    · exact ⟨by omega, by omega⟩
  · exact ⟨by show -1000000 ≤ l.2; have := hl.2.1; omega, by show l.2 ≤ 1000000; have := hl.2.2; omega⟩
theorem b0 : bnd 1000 0 := ⟨by omega, by omega⟩
theorem b1 : bnd 1000 1 := ⟨by omega, by omega⟩
theorem ne_of_bne {a b : Int} (h : (a != b) = true) : a ≠ b := by simpa using h
theorem eq_of_bne {a b : Int} (h : (a != b) = false) : a = b := by simpa using h

theorem le4_no {f : FansT} (hf : FOK f) : le4 NO4 f := ⟨⟨by decide, hf.1.1⟩, ⟨by decide, hf.2.1.1⟩, ⟨by decide, hf.2.2.1.1⟩, ⟨by decide, hf.2.2.2.1⟩⟩
theorem fold_le4 {b : BinT} {r : List BinT} {f : FansT} {left : Int} : ∀ (l : List FansT) (st : List Int × FansT × Bool), le4 st.2.1 f → (∀ s, s ∈ l → le4 s f) → le4 (l.foldl (smStep b r f left) st).2.1 f
  | [], st, h, _ => h
  | s :: l, st, h, hl => by
    rw [List.foldl_cons]
    refine fold_le4 l _ ?_ fun s' hs' => hl s' (by simp [hs'])
    unfold smStep
    split
    · split
      · exact hl s (by simp)
      · exact h
    · exact h
theorem smPick_le4 {b : BinT} {r : List BinT} {f : FansT} {left : Int} (hf : FOK f) : le4 (smPick b r f left).2.1 f :=
  fold_le4 _ _ (le4_no hf) fun s hs => (mem_upTo hf).1 hs
theorem p95 {p : Pk} {f : FansT} {Q : List (List Int) → Prop} (h : f95_wp (p, f, ()) () Q) : V95 p f Q := by
  obtain ⟨⟨hp, hf⟩, h⟩ := h
  have hp : POK p := hp
  have hf : FOK f := hf
  have h : Q (smallF p.1 f) := h
  have hN : p.1.length ≤ 1000 := hp.b.n
  have hL := least_bnd p.1 hp.b f hf
  simp only [GX.Fa.NONE] at hL
  refine ⟨⟨hp, hf, Int.le_refl _, by show (0 : Int) ≤ p.1.length; omega⟩, ?_⟩
  show cnd (decide (GX.Fa.least (p.1.drop 0) f ≥ 1099511627776)) _ _
  rw [List.drop_zero]
  unfold smallF at h
  refine cnd_iff.2 ⟨fun hc => ?_, fun hc hl => ?_⟩
  · rw [if_pos (show GX.Fa.least p.1 f ≥ GX.Fa.NONE from of_decide_eq_true hc)] at h; exact h
  rw [if_neg (show ¬ GX.Fa.least p.1 f ≥ GX.Fa.NONE from of_decide_eq_false hc)] at h
  refine ⟨fun x l left fn => ∃ k : Nat, (k ≤ p.1.length ∧ x = k ∧ l.length = k) ∧ FOK fn ∧ bnd (2000000000000000 + (k : Int) * 5000000000) left ∧ smGo p.1 (GX.Fa.least p.1 f) f = l ++ smGo (p.1.drop k) left fn, fun x _ _ _ => (p.1.length - x).toNat,
    ⟨0, ⟨Nat.zero_le _, rfl, rfl⟩, hf, ⟨by show _ ≤ GX.Fa.least p.1 f; have := hL.1; omega, by show GX.Fa.least p.1 f ≤ _; have := hL.2; omega⟩, rfl⟩, ?_⟩
  rintro x l left fn ⟨k, ⟨hk, rfl, hlk⟩, hfn, hleft, heq⟩
  refine cnd_iff.2 ⟨fun hc => ?_, fun hc => ?_⟩
  · have hc : (k : Int) < p.1.length := of_decide_eq_true hc
    have hk : k < p.1.length := by omega
    have hw : IntKind.wrap .i64 ((k : Int) + 1) = k + 1 := wrapS (by omega) (by omega)
    obtain ⟨b, hb⟩ : ∃ b : BinT, b = p.1.getD k ((0, 0, 0, 0), (0, 0, 0, 0), 0, 0) := ⟨_, rfl⟩
    have hd : p.1.drop k = b :: p.1.drop (k + 1) := by rw [List.drop_eq_getElem_cons hk, hb, getD_lt hk]
    have hB := hp.b.drop k
    rw [hd] at hB
    obtain ⟨hb1, hr1⟩ := hB.cons
    refine ⟨by omega, by omega, hfn, fun pre best some found => (best, some, found) = pre.foldl (smStep b (p.1.drop (k + 1)) fn left) ([], NO4, false), rfl, ?_, ?_⟩
    · intro pre s rest hxs best some found hst
      have hst : (best, some, found) = pre.foldl (smStep b (p.1.drop (k + 1)) fn left) ([], NO4, false) := hst
      have hxs : GX.Fa.upTo fn = pre ++ s :: rest := hxs
      have hs : le4 s fn := (mem_upTo hfn).1 (by rw [hxs]; simp)
      have hsf := hs.fok hfn
      rw [hw]
      refine ⟨GX.Fa.fitsB b s, ⟨⟨by show BOK (p.1.getD k _); rw [← hb]; exact hb1, hsf⟩, by show GX.Fa.fitsB (p.1.getD k _) s = _; rw [← hb]⟩, cnd_iff.2 ⟨fun hfit => ?_, fun hfit => ?_⟩⟩
      · have hfit : GX.Fa.fitsB b s = false := by simpa using hfit
        show (best, some, found) = (pre ++ [s]).foldl _ _
        rw [fold_snoc, ← hst]
        unfold smStep
        rw [hfit]; rfl
      · have hfit : GX.Fa.fitsB b s = true := by simpa using hfit
        refine ⟨_, ⟨⟨by show BOK (p.1.getD k _); rw [← hb]; exact hb1, hsf⟩, rfl⟩, _, ⟨⟨hfn.bnd, hsf.bnd⟩, rfl⟩, _, ⟨⟨hp, hs.less hfn, by show 0 ≤ (k : Int) + 1; omega, by show (k : Int) + 1 ≤ p.1.length; omega⟩, rfl⟩, ?_⟩
        have hL := loss_bnd hb1 hsf
        have hR := least_bnd _ hr1 _ (hs.less hfn)
        simp only [GX.Fa.NONE] at hR
        have hn := hr1.n
        have e1 : IntKind.wrap .i64 (GX.Fa.lossV b s + GX.Fa.least (p.1.drop (k + 1)) (GX.Fa.less fn s)) = GX.Fa.lossV b s + GX.Fa.least (p.1.drop (k + 1)) (GX.Fa.less fn s) :=
          wrapS (by have := hL.1; have := hR.1; omega) (by have := hL.2; have := hR.2; omega)
        show cnd (IntKind.wrap .i64 (GX.Fa.lossV (p.1.getD k _) s + GX.Fa.least (p.1.drop (k + 1)) (GX.Fa.less fn s)) != left) ((best, some, found) = (pre ++ [s]).foldl _ _) _
        rw [← hb, e1, fold_snoc, ← hst]
        refine cnd_iff.2 ⟨fun hc2 => ?_, fun hc2 => ⟨hsf, ?_⟩⟩
        · unfold smStep
          rw [hfit, decide_eq_false (ne_of_bne hc2)]; rfl
        · show cnd (!found) ((listF s, s, true) = _) _
          have ee : smStep b (p.1.drop (k + 1)) fn left (best, some, found) s = if !found || decide (cmpL (listF s) best < 0) then (listF s, s, true) else (best, some, found) := by
            unfold smStep
            rw [hfit, decide_eq_true (eq_of_bne hc2)]; rfl
          simp only [fold_snoc, ← hst, ee]
          refine cnd_iff.2 ⟨fun hc3 => ?_, fun hc3 => ?_⟩
          · rw [hc3]; rfl
          · show cnd (decide (cmpL (listF s) best < 0)) _ _
            rw [hc3]
            refine cnd_iff.2 ⟨fun hc4 => ?_, fun hc4 => ?_⟩
            · rw [hc4]; rfl
            · rw [hc4]; rfl
    · intro best some found hst
      have hst : (best, some, found) = smPick b (p.1.drop (k + 1)) fn left := hst
      have hle := smPick_le4 (b := b) (r := p.1.drop (k + 1)) (left := left) hfn
      rw [← hst] at hle
      have hle : le4 some fn := hle
      have hL := loss_bnd hb1 (hle.fok hfn)
      have e1 : IntKind.wrap .i64 (left - GX.Fa.lossV b some) = left - GX.Fa.lossV b some := wrapS (by have := hL.2; have := hleft.1; omega) (by have := hL.1; have := hleft.2; omega)
      refine ⟨?_, _, ⟨⟨by show BOK (p.1.getD k _); rw [← hb]; exact hb1, hle.fok hfn⟩, rfl⟩, _, ⟨⟨hfn.bnd, (hle.fok hfn).bnd⟩, rfl⟩, ?_⟩
      · simp only [List.length_cons, List.length_nil]; omega
      · show (∃ k' : Nat, (_ ∧ IntKind.wrap .i64 ((k : Int) + 1) = k' ∧ _) ∧ _ ∧ bnd _ (IntKind.wrap .i64 (left - GX.Fa.lossV (p.1.getD k _) some)) ∧ _ = (l ++ [best]) ++ smGo _ (IntKind.wrap .i64 (left - GX.Fa.lossV (p.1.getD k _) some)) _) ∧ (_ - IntKind.wrap .i64 ((k : Int) + 1)).toNat < _
        rw [hw, ← hb, e1]
        refine ⟨⟨k + 1, ⟨by omega, by push_cast; rfl, by simp [hlk]⟩, hle.less hfn, ⟨by push_cast; have := hL.2; have := hleft.1; omega, by push_cast; have := hL.1; have := hleft.2; omega⟩, ?_⟩, by simp only; omega⟩
        rw [heq, hd, smGo, ← hst]
        simp only [List.append_assoc, List.singleton_append]
  · have hc : ¬ (k : Int) < p.1.length := of_decide_eq_false hc
    rw [heq, List.drop_eq_nil_of_le (by omega), smGo, List.append_nil] at h
    exact h
end Go.Proofs.Fa
set_option linter.unusedVariables false
namespace Go.Proofs.Fa
open Go Go.GX Go.Proofs

theorem forUpGSN {σ : Type} {n : Nat} {N : Int} (hN : N = n) (hn : n ≤ 9223372036854775807) (go : Nat → Prop) (F : Nat → σ) (h0 : go 0) {s0 : σ} (hs0 : s0 = F 0) {body : (Int → σ → Prop) → (Int → σ → Nat) → Int → σ → Prop}
    (hb : ∀ k : Nat, k < n → go k → ∀ (I : Int → σ → Prop) (μ : Int → σ → Nat), (go (k + 1) → I (k + 1 : Int) (F (k + 1)) ∧ μ (k + 1 : Int) (F (k + 1)) < μ k (F k)) → IntKind.wrap .i64 ((k : Int) + 1) = k + 1 → body I μ k (F k))
    {e : Int → σ → Prop} (he : go n → e n (F n)) :
    ∃ (I : Int → σ → Prop) (μ : Int → σ → Nat), I 0 s0 ∧ ∀ x s, I x s → cnd (decide (x < N)) (body I μ x s) (e x s) := by
  subst hN
  exact forUpGS hn go F h0 hs0 hb he
theorem pok {bs : List BinT} (h : BinsOK bs) : POK (bs, bs) := ⟨rfl, h⟩
theorem p67 {bs : List BinT} {f : FansT} {Q : List (List Int) × Int × Unit → Prop} (h : f67_wp (bs, f, ()) () Q) : V67 bs f Q := by
  obtain ⟨⟨hb, hf⟩, h⟩ := h
  have hb : BinsOK bs := hb
  have hf : FOK f := hf
  have h : Q ((listedF bs f).1, (listedF bs f).2, ()) := h
  refine ⟨hb.n, ⟨pok hb, hf, Int.le_refl _, by show (0 : Int) ≤ bs.length; omega⟩, ?_⟩
  show cnd (decide (GX.Fa.least bs f ≥ 1099511627776)) _ _
  unfold listedF at h
  refine cnd_iff.2 ⟨fun hc => ?_, fun hc => ⟨⟨pok hb, hf⟩, ?_⟩⟩
  · rw [if_pos (show GX.Fa.least bs f ≥ GX.Fa.NONE from of_decide_eq_true hc)] at h; exact h
  · rw [if_neg (show ¬ GX.Fa.least bs f ≥ GX.Fa.NONE from of_decide_eq_false hc)] at h; exact h
theorem p102 {f : FansT} {p q : Pk} {Q : Bool → Prop} (h : f102_wp f (p, q, ()) Q) : V102 f p q Q := by
  obtain ⟨⟨hp, hq, hf⟩, h⟩ := h
  have hp : POK p := hp
  have hq : POK q := hq
  have hf : FOK f := hf
  have h : Q (canF p.1 f && canF q.1 f) := h
  refine ⟨⟨hp, hf, Int.le_refl _, by show (0 : Int) ≤ p.1.length; omega⟩, ?_⟩
  show cnd (canF p.1 f) _ _
  cases hc : canF p.1 f with
  | true =>
    refine ⟨⟨hq, hf, Int.le_refl _, by show (0 : Int) ≤ q.1.length; omega⟩, ?_⟩
    rw [hc] at h
    exact h
  | false => rw [hc] at h; exact h
theorem p86 {x : Fashion} {Q : (FansT → (Bool → Prop) → Prop) → Prop} (h : f86_wp x () Q) : V86 x Q := by
  obtain ⟨hx, h⟩ := h
  have hx : XOK x := hx
  have h1 := hx.lvs b0 b0
  have h2 := hx.lts
  refine ⟨lvs x 0 0, ⟨hx, rfl⟩, (lvs x 0 0, lvs x 0 0), ⟨h1.n, rfl⟩, lts x, ⟨hx, rfl⟩, (lts x, lts x), ⟨h2.n, rfl⟩, h⟩
theorem says_hi (l : List (Int × Int)) : Says (fun (x : Int × Int) (Q : Int → Prop) => f66_wp x () fun (r : Int) => Q r) (fun s => s.2) l := fun x _ Q h => h
theorem p21 {s : Store} {f : List Spring} {Q : List (List Int) × Int × Unit → Prop} (h : f21_wp (s, f, ()) () Q) : V21 s f Q := by
  have h : Q ((resLeaves s f).1, (resLeaves s f).2, ()) := h
  unfold resLeaves at h
  show cnd (checkF s f != 0) _ _
  refine cnd_iff.2 ⟨fun hc => ?_, fun hc => ?_⟩
  · rw [if_pos (ne_of_bne hc)] at h; exact h
  have hc := eq_of_bne hc
  have v := vok_of hc
  rw [if_neg (by simpa using hc)] at h
  have hx := v.x v.cH
  refine ⟨fun s => s.2, ⟨v.f4, says_hi _⟩, _, ⟨hx, rfl⟩, _, ⟨v.f4, rfl⟩, _, ⟨⟨hx.lvs b0 b1, v.want⟩, rfl⟩, h⟩
theorem p29 {s : Store} {f : List Spring} {Q : List (List Int) × Int × Unit → Prop} (h : f29_wp (s, f, ()) () Q) : V29 s f Q := by
  have h : Q ((resLots s f).1, (resLots s f).2, ()) := h
  unfold resLots at h
  show cnd (checkF s f != 0) _ _
  refine cnd_iff.2 ⟨fun hc => ?_, fun hc => ?_⟩
  · rw [if_pos (ne_of_bne hc)] at h; exact h
  have hc := eq_of_bne hc
  have v := vok_of hc
  rw [if_neg (by simpa using hc)] at h
  have hx := v.x v.cH
  refine ⟨fun s => s.2, ⟨v.f4, says_hi _⟩, _, ⟨hx, rfl⟩, _, ⟨v.f4, rfl⟩, _, ⟨⟨hx.lts, v.want⟩, rfl⟩, h⟩
theorem p50 {s : Store} {f : List Spring} {Q : List Int × Int × Unit → Prop} (h : f50_wp (s, f, ()) () Q) : V50 s f Q := by
  have h : Q ((resMost s f).1, (resMost s f).2, ()) := h
  unfold resMost at h
  show cnd (checkF s f != 0) _ _
  refine cnd_iff.2 ⟨fun hc => ?_, fun hc => ?_⟩
  · rw [if_pos (ne_of_bne hc)] at h; exact h
  have hc := eq_of_bne hc
  have v := vok_of hc
  rw [if_neg (by simpa using hc)] at h
  have hx := v.x v.cH
  have hw := v.want
  refine ⟨fun s => s.2, ⟨v.f4, says_hi _⟩, hx, v.f4, hw, fun pre b => b = pre.foldl (mostStep (makesF (s, f, cH f))) NO4 ∧ le4 b (wantF f), ⟨rfl, le4_no hw⟩, ?_, ?_⟩
  · rintro pre t rest hxs b ⟨hb, hble⟩
    have hxs : GX.Fa.upTo (wantF f) = pre ++ t :: rest := hxs
    have ht : le4 t (wantF f) := (mem_upTo hw).1 (by rw [hxs]; simp)
    have htf := ht.fok hw
    have hbf := hble.fok hw
    have e0 : (pre ++ [t]).foldl (mostStep (makesF (s, f, cH f))) NO4 = mostStep (makesF (s, f, cH f)) b t := by rw [fold_snoc, ← hb]
    have go : ∀ b', mostStep (makesF (s, f, cH f)) b t = b' → le4 b' (wantF f) → b' = (pre ++ [t]).foldl (mostStep (makesF (s, f, cH f))) NO4 ∧ le4 b' (wantF f) := fun b' h1 h2 => ⟨by rw [e0, h1], h2⟩
    refine ⟨_, ⟨htf.bnd, rfl⟩, _, ⟨hbf.bnd, rfl⟩, ?_⟩
    show cnd (decide (sumF t < sumF b)) (_ ∧ _) (cnd (sumF t == sumF b) _ _)
    refine cnd_iff.2 ⟨fun h1 => go b ?_ hble, fun h1 => cnd_iff.2 ⟨fun h2 => ⟨by decide, by decide, by decide, by decide, by decide, by decide, _, rfl, ?_⟩, fun h2 => ⟨_, ⟨⟨pok (hx.lvs b0 b0), pok hx.lts, htf⟩, rfl⟩, cnd_iff.2 ⟨fun h3 => go b ?_ hble, fun h3 => go t ?_ ht⟩⟩⟩⟩
    · unfold mostStep; rw [h1]; rfl
    · show cnd (decide (cmpL (l4 t) (l4 b) ≤ 0)) (_ ∧ _) _
      refine cnd_iff.2 ⟨fun h3 => go b ?_ hble, fun h3 => ⟨_, ⟨⟨pok (hx.lvs b0 b0), pok hx.lts, htf⟩, rfl⟩, cnd_iff.2 ⟨fun h4 => go b ?_ hble, fun h4 => go t ?_ ht⟩⟩⟩
      · unfold mostStep; rw [h1, h2, h3]; rfl
      · have h4 : (!(makesF (s, f, cH f) t)) = true := h4
        unfold mostStep; rw [h1, h2, h3, h4]; rfl
      · have h4 : (!(makesF (s, f, cH f) t)) = false := h4
        unfold mostStep; rw [h1, h2, h3, h4]; rfl
    · have h3 : (!(makesF (s, f, cH f) t)) = true := h3
      unfold mostStep; rw [h1, h2, h3]; rfl
    · have h3 : (!(makesF (s, f, cH f) t)) = false := h3
      unfold mostStep; rw [h1, h2, h3]; rfl
  · rintro b ⟨hb, hble⟩ _
    refine ⟨by decide, by omega, by have := v.f4; omega, ?_, ?_⟩
    · show ((l4 b).take _).length ≤ 1000000
      rw [List.length_take]; simp [l4]; omega
    · have hb : b = mostF (makesF (s, f, cH f)) (wantF f) := hb
      rw [hb]
      exact h
theorem p83 {l : List Int} {f : List Spring} {Q : Bool → Prop} (h : f83_wp l (f, ()) Q) : V83 l f Q := by
  obtain ⟨hn, h⟩ := h
  have hn : f.length ≤ 100 := hn
  have h : Q (noneF f.length l) := h
  intro hl
  show cnd (!(l.all (inB 0 (IntKind.wrap .i64 ((f.length : Int) - 1))))) (Q true) (Q (!(sortedB l)))
  rw [wrapS (by omega) (by omega)]
  unfold noneF at h
  cases ha : !(l.all (inB 0 ((f.length : Int) - 1))) with
  | true => rw [ha] at h; exact h
  | false => rw [ha] at h; exact h
theorem p39 {s : Store} {f : List Spring} {Q : Int × Int × Int × Unit → Prop} (h : f39_wp (s, f, ()) () Q) : V39 s f Q := by
  have h : Q ((resLoss s f).1, (resLoss s f).2.1, (resLoss s f).2.2, ()) := h
  unfold resLoss at h
  show cnd (checkF s f != 0) _ _
  refine cnd_iff.2 ⟨fun hc => ?_, fun hc => ?_⟩
  · rw [if_pos (ne_of_bne hc)] at h; exact h
  have hc := eq_of_bne hc
  have v := vok_of hc
  rw [if_neg (by simpa using hc)] at h
  have hx := v.x v.cH
  have hs := v.sm
  have e : IntKind.wrap .i64 (Int.sub 0 s.2.1) = -s.2.1 := by
    have : Int.sub 0 s.2.1 = -s.2.1 := by show (0 : Int) - s.2.1 = _; omega
    rw [this, wrapS (by omega) (by omega)]
  have h1 : BinsOK (lvs (s, f, cH f) s.2.1 (-s.2.1)) := hx.lvs ⟨by omega, by omega⟩ ⟨by omega, by omega⟩
  refine ⟨fun s => s.2, ⟨v.f4, says_hi _⟩, lvs (s, f, cH f) s.2.1 (-s.2.1), ⟨hx, by rw [e]; rfl⟩, _, ⟨h1.n, rfl⟩, _, ⟨v.f4, rfl⟩, _, ⟨⟨pok h1, v.want, Int.le_refl _, by show (0 : Int) ≤ _; omega⟩, rfl⟩, _, ⟨hx, rfl⟩, _, ⟨hx.lts.n, rfl⟩, _, ⟨v.f4, rfl⟩, _, ⟨⟨pok hx.lts, v.want, Int.le_refl _, by show (0 : Int) ≤ _; omega⟩, rfl⟩, ?_⟩
  show cnd (decide (GX.Fa.least (lvs (s, f, cH f) s.2.1 (-s.2.1)) (wantF f) ≥ 549755813888)) _ (cnd (decide (GX.Fa.least (lts (s, f, cH f)) (wantF f) ≥ GX.Fa.NONE)) _ _)
  unfold lossF at h
  refine cnd_iff.2 ⟨fun h1 => ?_, fun h1 => cnd_iff.2 ⟨fun h2 => ?_, fun h2 => ?_⟩⟩
  · rw [if_pos (by rw [h1]; rfl)] at h; exact h
  · rw [if_pos (by rw [h1, h2]; rfl)] at h; exact h
  · rw [if_neg (by rw [h1, h2]; decide)] at h; exact h
theorem set4_put (t : FansT) (u : Int) : ∀ {k : Nat}, k < 4 → set4 t k u = put4 t k u
  | 0, _ => rfl
  | 1, _ => rfl
  | 2, _ => rfl
  | 3, _ => rfl
  | k + 4, h => absurd h (by omega)
theorem put4_all {p : Int → Prop} {t : FansT} {k : Nat} {u : Int} (ht : all4 p t) (hu : p u) : all4 p (put4 t k u) := by
  unfold put4
  refine all4_tup fun i hi => ?_
  split
  · exact hu
  · exact all4_at ht hi
theorem p41 {s : Store} {f : List Spring} {k : Int} {Q : Int × Int × Unit → Prop} (h : f41_wp (s, f, k, ()) () Q) : V41 s f k Q := by
  have h : Q ((resRise s f k).1, (resRise s f k).2, ()) := h
  unfold resRise at h
  show cnd (checkF s f != 0) _ _
  refine cnd_iff.2 ⟨fun hc => ?_, fun hc hl => ?_⟩
  · rw [if_pos (ne_of_bne hc)] at h; exact h
  have hc := eq_of_bne hc
  have v := vok_of hc
  rw [if_neg (by simpa using hc)] at h
  have hf4 := v.f4
  show cnd (!([k].all (inB 0 (IntKind.wrap .i64 ((f.length : Int) - 1))))) _ _
  rw [all_one, wrapS (by omega) (by omega)]
  refine cnd_iff.2 ⟨fun h1 => ?_, fun h1 => ?_⟩
  · rw [if_pos (by simpa using h1)] at h; exact h
  have h1 : inB 0 ((f.length : Int) - 1) k = true := by simpa using h1
  rw [if_neg (by rw [h1]; simp)] at h
  have hk := inB_iff.1 h1
  obtain ⟨j, rfl⟩ := Int.eq_ofNat_of_zero_le hk.1
  have hj : j < 4 := by omega
  rw [Int.toNat_natCast] at h
  refine ⟨fun x => ∃ n : Nat, x = n ∧ n ≤ 40 ∧ riseGo s f j 40 = riseGo s f j n, fun x => x.toNat, ⟨40, rfl, by omega, rfl⟩, ?_⟩
  rintro x ⟨n, rfl, hn, heq⟩
  refine cnd_iff.2 ⟨fun h2 => ?_, fun h2 => ?_⟩
  · have h2 : (n : Int) ≥ 2 := of_decide_eq_true h2
    obtain ⟨m, rfl⟩ : ∃ m, n = m + 1 := ⟨n - 1, by omega⟩
    have hx : XOK (s, f, put4 (cH f) j ((m + 1 : Nat) : Int)) := v.x (put4_all v.cH ⟨by omega, by omega⟩)
    refine ⟨fun s => s.2, ⟨v.f4, says_hi _⟩, by omega, by omega, ?_⟩
    show ∃ r, (f86_wp (s, f, set4 (cH f) j ((m + 1 : Nat) : Int)) () fun r' => r' = r) ∧ ∃ r2, (f69_wp (s, f, set4 (cH f) j ((m + 1 : Nat) : Int)) () fun r' => r' = r2) ∧ _
    rw [set4_put _ _ hj]
    refine ⟨_, ⟨hx, rfl⟩, _, ⟨v.f4, rfl⟩, _, ⟨⟨pok (hx.lvs b0 b0), pok hx.lts, v.want⟩, rfl⟩, ?_⟩
    show cnd (riseOK s f j ((m + 1 : Nat) : Int)) _ _
    have er : riseGo s f j (m + 1) = if riseOK s f j ((m + 1 : Nat) : Int) then (((m + 1 : Nat) : Int), 0) else riseGo s f j m := by
      rw [riseGo, if_neg (by omega)]
    rw [heq, er] at h
    refine cnd_iff.2 ⟨fun h3 => ?_, fun h3 => ?_⟩
    · rw [if_pos h3] at h; exact h
    · have hw : IntKind.wrap .i64 (((m + 1 : Nat) : Int) - 1) = m := by rw [wrapS (by omega) (by omega)]; push_cast; omega
      rw [hw]
      refine ⟨⟨m, rfl, by omega, ?_⟩, by show (m : Int).toNat < ((m + 1 : Nat) : Int).toNat; omega⟩
      rw [heq, er, if_neg (by rw [h3]; simp)]
  · have h2 : ¬ (n : Int) ≥ 2 := of_decide_eq_false h2
    rw [heq] at h
    have : riseGo s f j n = (0, 9) := by
      match n, h2 with
      | 0, _ => rfl
      | 1, _ => rfl
      | n + 2, h2 => omega
    rw [this] at h
    exact h
theorem p31 {s : Store} {f : List Spring} {p : Int} {Q : Int × Int × Unit → Prop} (h : f31_wp (s, f, p, ()) () Q) : V31 s f p Q := by
  have h : Q ((resNew s f p).1, (resNew s f p).2, ()) := h
  unfold resNew at h
  show cnd (checkF s f != 0) _ _
  refine cnd_iff.2 ⟨fun hc => ?_, fun hc => ?_⟩
  · rw [if_pos (ne_of_bne hc)] at h; exact h
  have hc := eq_of_bne hc
  have v := vok_of hc
  rw [if_neg (by simpa using hc)] at h
  show cnd (!(inB 1 200 p)) _ _
  refine cnd_iff.2 ⟨fun h1 => ?_, fun h1 => ?_⟩
  · rw [if_pos (by simpa using h1)] at h; exact h
  have h1 : inB 1 200 p = true := by simpa using h1
  rw [if_neg (by rw [h1]; simp)] at h
  have hp := inB_iff.1 h1
  have hw4 := v.want4
  have hN : 0 ≤ sumF (wantF f) ∧ sumF (wantF f) ≤ 16 := by
    obtain ⟨⟨g1, g1'⟩, ⟨g2, g2'⟩, ⟨g3, g3'⟩, ⟨g4, g4'⟩⟩ := hw4
    unfold sumF; omega
  obtain ⟨N, hNe⟩ := Int.eq_ofNat_of_zero_le hN.1
  refine ⟨fun s => s.2, ⟨v.f4, says_hi _⟩, by have := v.n6; omega, v.f4, v.want.bnd, ?_⟩
  have hw : IntKind.wrap .i64 (sumF (wantF f) + 1) = ((N + 1 : Nat) : Int) := by rw [hNe, wrapS (by omega) (by omega)]; push_cast; rfl
  have hf : newF s f p = match (List.range (N + 1)).find? (newOK s f p) with | some n => ((n : Int), 0) | none => (0, 9) := by
    unfold newF; rw [hNe]; rfl
  refine forUpGSN (σ := List Int × Int × List Lot × List Spring × FansT) (n := N + 1) hw (by omega) (fun k => ∀ m, m < k → newOK s f p m = false) (fun k => (s.1 ++ List.replicate k p, s.2.1, s.2.2, f, cH f)) (fun m hm => absurd hm (Nat.not_lt_zero _)) (by simp; rfl) (fun k hk hg I μ hI hw => ?_) (fun hg => ?_)
  · have hlv : ∀ l, l ∈ s.1 ++ List.replicate k p → bnd 400 l := fun l hl => by
      rcases List.mem_append.1 hl with h2 | h2
      · have := v.lv l h2; exact ⟨by omega, by omega⟩
      · rw [List.eq_of_mem_replicate h2]; exact ⟨by omega, by omega⟩
    have hln : (s.1 ++ List.replicate k p).length ≤ 500 := by have := v.n6; rw [List.length_append, List.length_replicate]; omega
    have hx0 := v.x v.cH
    have hx : XOK ((s.1 ++ List.replicate k p, s.2.1, s.2.2), f, cH f) := ⟨hx0.n, hln, hx0.nt, hlv, hx0.sm, hx0.lt, hx0.sp, hx0.ct⟩
    have hB := hx.lvs b0 b0
    refine ⟨_, ⟨hx, rfl⟩, _, ⟨hB.n, rfl⟩, _, ⟨v.f4, rfl⟩, _, ⟨⟨pok hB, v.want, Int.le_refl _, by show (0 : Int) ≤ _; omega⟩, rfl⟩, ?_⟩
    show cnd (newOK s f p k) _ _
    refine cnd_iff.2 ⟨fun h2 => ?_, fun h2 => ⟨?_, ?_⟩⟩
    · have : (List.range (N + 1)).find? (newOK s f p) = some k := by
        rw [List.find?_range_eq_some]
        exact ⟨h2, List.mem_range.2 hk, fun j hj => by rw [hg j hj]; rfl⟩
      rw [hf, this] at h
      exact h
    · have := hln
      simp only [List.length_cons, List.length_nil]
      omega
    · rw [hw]
      have e : s.1 ++ List.replicate k p ++ [p] = s.1 ++ List.replicate (k + 1) p := by rw [List.append_assoc, ← List.replicate_succ']
      show I _ (s.1 ++ List.replicate k p ++ [p], s.2.1, s.2.2, f, cH f) ∧ μ _ (s.1 ++ List.replicate k p ++ [p], s.2.1, s.2.2, f, cH f) < _
      rw [e]
      refine hI fun m hm => ?_
      rcases Nat.lt_succ_iff_lt_or_eq.1 hm with h3 | rfl
      · exact hg m h3
      · exact h2
  · have : (List.range (N + 1)).find? (newOK s f p) = none := by
      rw [List.find?_eq_none]
      intro m hm
      rw [hg m (List.mem_range.1 hm)]; simp
    rw [hf, this] at h
    exact h
end Go.Proofs.Fa
set_option linter.unusedVariables false
namespace Go.Proofs.Fa
open Go Go.GX Go.Proofs

theorem for4b {body : (Int → Int → Prop) → (Int → Int → Nat) → Int → Int → Prop} (F : Nat → Int) {s0 : Int} (h0 : s0 = F 0)
    (hb : ∀ k : Nat, k < 4 → ∀ (I : Int → Int → Prop) (μ : Int → Int → Nat), (I (k + 1 : Int) (F (k + 1)) ∧ μ (k + 1 : Int) (F (k + 1)) < μ k (F k)) → IntKind.wrap .i64 ((k : Int) + 1) = k + 1 → body I μ k (F k))
    {e : Int → Int → Prop} (he : e 4 (F 4)) :
    ∃ (I : Int → Int → Prop) (μ : Int → Int → Nat), I 0 s0 ∧ ∀ x s, I x s → cnd (decide (x < 4)) (body I μ x s) (e x s) := for4 F h0 hb he
theorem needS_bnd {c w : FansT} {seam ck : Int} (hc : all4 (fun x => 0 ≤ x ∧ x ≤ 40) c) (hw : all4 (fun x => 0 ≤ x ∧ x ≤ 4) w) (hs : 0 ≤ seam ∧ seam ≤ 10) : ∀ {k : Nat}, k ≤ 4 → 0 ≤ needS c w seam ck k ∧ needS c w seam ck k ≤ (k : Int) * 200
  | 0, _ => ⟨Int.le_refl _, by simp [needS]⟩
  | k + 1, h => by
    have ih := needS_bnd hc hw hs (ck := ck) (k := k) (by omega)
    have h1 := all4_at hc (k := k) (by omega)
    have h2 := all4_at hw (k := k) (by omega)
    have h1 : 0 ≤ at4 c k ∧ at4 c k ≤ 40 := h1
    have h2 : 0 ≤ at4 w k ∧ at4 w k ≤ 4 := h2
    have h3 : 0 ≤ at4 w k * (at4 c k + seam) := Int.mul_nonneg h2.1 (by omega)
    have h4 : at4 w k * (at4 c k + seam) ≤ 4 * 50 := Int.mul_le_mul h2.2 (by omega) (by omega) (by omega)
    simp only [needS]
    push_cast
    split <;> omega
theorem hasS_succ {ls : List Int} {seam ck : Int} {k : Nat} (hk : k < ls.length) : hasS (ls.take (k + 1)) seam ck = if ls.getD k 0 ≥ ck then hasS (ls.take k) seam ck + (ls.getD k 0 + seam) else hasS (ls.take k) seam ck := by
  unfold hasS
  rw [List.take_add_one, List.foldl_append, List.getElem?_eq_getElem hk, getD_lt hk]
  rfl
theorem hasS_bnd {ls : List Int} {seam ck : Int} (hl : ∀ l, l ∈ ls → 1 ≤ l ∧ l ≤ 200) (hs : 0 ≤ seam ∧ seam ≤ 10) : ∀ {k : Nat}, k ≤ ls.length → 0 ≤ hasS (ls.take k) seam ck ∧ hasS (ls.take k) seam ck ≤ (k : Int) * 210
  | 0, _ => ⟨Int.le_refl _, by simp [hasS]⟩
  | k + 1, h => by
    have ih := hasS_bnd hl hs (ck := ck) (k := k) (by omega)
    have h1 := hl _ (getD_mem (d := 0) (show k < ls.length by omega))
    rw [hasS_succ (by omega)]
    push_cast
    split <;> omega
def boundS (s : Store) (f : List Spring) (p : Int) (k : Nat) : Int × Int := (List.range k).foldl (boundStep s f p) (0, 0)
theorem boundS_succ (s : Store) (f : List Spring) (p : Int) (k : Nat) : boundS s f p (k + 1) = boundStep s f p (boundS s f p k) k := by
  unfold boundS; rw [List.range_succ, List.foldl_append]; rfl
theorem p34 {s : Store} {f : List Spring} {p : Int} {Q : Int × Int × Int × Unit → Prop} (h : f34_wp (s, f, p, ()) () Q) : V34 s f p Q := by
  have h : Q ((resBound s f p).1, (resBound s f p).2.1, (resBound s f p).2.2, ()) := h
  unfold resBound at h
  show cnd (checkF s f != 0) _ _
  refine cnd_iff.2 ⟨fun hc => ?_, fun hc => ?_⟩
  · rw [if_pos (ne_of_bne hc)] at h; exact h
  have hc := eq_of_bne hc
  have v := vok_of hc
  rw [if_neg (by simpa using hc)] at h
  show cnd (!(inB 1 200 p)) _ _
  refine cnd_iff.2 ⟨fun h1 => ?_, fun h1 => ?_⟩
  · rw [if_pos (by simpa using h1)] at h; exact h
  have h1 : inB 1 200 p = true := by simpa using h1
  rw [if_neg (by rw [h1]; simp)] at h
  have hp := inB_iff.1 h1
  have hs := v.sm
  have hf4 := v.f4
  have hn6 := v.n6
  refine ⟨(s, f, cH f), ⟨fun s => s.2, ⟨v.f4, says_hi _⟩, rfl⟩, fun hl => ?_⟩
  refine forUp2 (σ := Int) (τ := Int) (n := f.length) hl (fun k => (boundS s f p k).1) (fun k => (boundS s f p k).2) rfl rfl (fun k hk I μ hI hw => ⟨v.f4, ?_⟩) h
  have hk4 : k < 4 := by omega
  refine for4b (needS (cH f) (wantF f) s.2.1 (at4 (cH f) k)) rfl (fun i hi I μ hI hw => ?_) ?_
  · refine ⟨by omega, by omega, by omega, by omega, by omega, by omega, ?_⟩
    rw [hw]
    show cnd (decide (at4L (cH f) i ≥ at4L (cH f) k)) (_ ∧ _ ∧ I _ (IntKind.wrap .i64 (_ + IntKind.wrap .i64 (at4L (wantF f) i * IntKind.wrap .i64 (at4L (cH f) i + s.2.1)))) ∧ μ _ (IntKind.wrap .i64 (_ + IntKind.wrap .i64 (at4L (wantF f) i * IntKind.wrap .i64 (at4L (cH f) i + s.2.1)))) < _) _
    rw [at4_L _ hi, at4_L _ hi, at4_L _ hk4]
    have b1 := needS_bnd (ck := at4 (cH f) k) v.cH v.want4 hs (k := i) (by omega)
    have g1 : 0 ≤ at4 (cH f) i ∧ at4 (cH f) i ≤ 40 := all4_at v.cH hi
    have g2 : 0 ≤ at4 (wantF f) i ∧ at4 (wantF f) i ≤ 4 := all4_at v.want4 hi
    have h3 : 0 ≤ at4 (wantF f) i * (at4 (cH f) i + s.2.1) := Int.mul_nonneg g2.1 (by omega)
    have h4 : at4 (wantF f) i * (at4 (cH f) i + s.2.1) ≤ 4 * 50 := Int.mul_le_mul g2.2 (by omega) (by omega) (by omega)
    rw [wrapS (x := at4 (cH f) i + s.2.1) (by omega) (by omega), wrapS (x := at4 (wantF f) i * (at4 (cH f) i + s.2.1)) (by omega) (by omega), wrapS (x := needS _ _ _ _ i + _) (by omega) (by omega)]
    simp only [needS] at hI
    refine cnd_iff.2 ⟨fun h5 => ⟨by omega, by omega, ?_⟩, fun h5 => ?_⟩
    · rw [if_pos (of_decide_eq_true h5)] at hI; exact hI
    · rw [if_neg (of_decide_eq_false h5), Int.add_zero] at hI; exact hI
  intro hl2
  have bN := needS_bnd (ck := at4 (cH f) k) v.cH v.want4 hs (k := 4) (by omega)
  refine forUp (σ := Int) (n := s.1.length) hl2 (fun j => needS (cH f) (wantF f) s.2.1 (at4 (cH f) k) 4 - hasS (s.1.take j) s.2.1 (at4 (cH f) k)) (by simp [hasS]) (fun j hj I μ hI hw => ?_) ?_
  · refine ⟨by omega, by omega, by omega, by omega, ?_⟩
    rw [hw]
    show cnd (decide (s.1.getD j 0 ≥ at4L (cH f) k)) _ _
    rw [at4_L _ hk4]
    have bH := hasS_bnd (ck := at4 (cH f) k) v.lv hs (k := j) (by omega)
    have hg := v.lv _ (getD_mem (d := 0) hj)
    simp only [hasS_succ hj] at hI
    show cnd _ (I _ (IntKind.wrap .i64 (_ - IntKind.wrap .i64 (s.1.getD j 0 + s.2.1))) ∧ μ _ (IntKind.wrap .i64 (_ - IntKind.wrap .i64 (s.1.getD j 0 + s.2.1))) < _) _
    rw [wrapS (x := s.1.getD j 0 + s.2.1) (by omega) (by omega), wrapS (by omega) (by omega)]
    refine cnd_iff.2 ⟨fun h5 => ?_, fun h5 => ?_⟩
    · rw [if_pos (of_decide_eq_true h5)] at hI
      rw [show needS (cH f) (wantF f) s.2.1 (at4 (cH f) k) 4 - (hasS (s.1.take j) s.2.1 (at4 (cH f) k) + (s.1.getD j 0 + s.2.1)) = needS (cH f) (wantF f) s.2.1 (at4 (cH f) k) 4 - hasS (s.1.take j) s.2.1 (at4 (cH f) k) - (s.1.getD j 0 + s.2.1) by omega] at hI
      exact hI
    · rw [if_neg (of_decide_eq_false h5)] at hI; exact hI
  · have bH := hasS_bnd (ck := at4 (cH f) k) v.lv hs (k := s.1.length) (by omega)
    rw [List.take_length] at bH
    simp only [List.take_length]
    have e1 : IntKind.wrap .i64 (p + s.2.1) = p + s.2.1 := wrapS (by omega) (by omega)
    rw [hw, e1]
    have hm : 0 ≤ mxI 0 (missB s f k) ∧ mxI 0 (missB s f k) ≤ 800 := by
      unfold mxI missB
      split <;> omega
    have e2 : IntKind.wrap .i64 (mxI 0 (missB s f k) + (p + s.2.1)) = mxI 0 (missB s f k) + (p + s.2.1) := wrapS (by omega) (by omega)
    have e3 : IntKind.wrap .i64 (mxI 0 (missB s f k) + (p + s.2.1) - 1) = mxI 0 (missB s f k) + (p + s.2.1) - 1 := wrapS (by omega) (by omega)
    have hd : 0 ≤ boundN s f p k ∧ boundN s f p k ≤ 100000 := by
      unfold boundN
      rw [Int.tdiv_eq_ediv_of_nonneg (by omega)]
      refine ⟨Int.ediv_nonneg (by omega) (by omega), ?_⟩
      have := Int.ediv_le_self (a := mxI 0 (missB s f k) + (p + s.2.1) - 1) (p + s.2.1) (by omega)
      omega
    have e4 : IntKind.wrap .i64 (boundN s f p k) = boundN s f p k := wrapS (by omega) (by omega)
    refine ⟨by omega, ?_⟩
    show cnd (decide (IntKind.wrap .i64 (Int.tdiv (IntKind.wrap .i64 (IntKind.wrap .i64 (mxI 0 (missB s f k) + (p + s.2.1)) - 1)) (p + s.2.1)) > _)) (I _ (IntKind.wrap .i64 (Int.tdiv (IntKind.wrap .i64 (IntKind.wrap .i64 (mxI 0 (missB s f k) + (p + s.2.1)) - 1)) (p + s.2.1))) _ ∧ μ _ (IntKind.wrap .i64 (Int.tdiv (IntKind.wrap .i64 (IntKind.wrap .i64 (mxI 0 (missB s f k) + (p + s.2.1)) - 1)) (p + s.2.1))) _ < _) _
    rw [e2, e3]
    show cnd (decide (IntKind.wrap .i64 (boundN s f p k) > _)) (I _ (IntKind.wrap .i64 (boundN s f p k)) _ ∧ μ _ (IntKind.wrap .i64 (boundN s f p k)) _ < _) _
    rw [e4]
    simp only [boundS_succ, boundStep] at hI
    refine cnd_iff.2 ⟨fun h5 => ?_, fun h5 => ?_⟩
    · rw [if_pos (of_decide_eq_true h5)] at hI; exact hI
    · rw [if_neg (of_decide_eq_false h5)] at hI; exact hI

theorem restGo_none {f : List Spring} {seam : Int} {a : List Int} : ∀ {b : List Int} {first : Bool} {left : Int}, restGo f seam b first left = none → restGo f seam (b ++ a) first left = none
  | [], _, _, h => by cases h
  | sp :: b, first, left, h => by
    simp only [restGo, List.cons_append] at h ⊢
    split
    · rfl
    · rename_i hh
      rw [if_neg hh] at h
      exact restGo_none h

theorem restGo_snoc {f : List Spring} {seam : Int} {x : Int} : ∀ {b : List Int} {first : Bool} {left l : Int}, restGo f seam b first left = some l →
    restGo f seam (b ++ [x]) first left = (if restNx f seam x (first && b.isEmpty) l < 0 then none else some (restNx f seam x (first && b.isEmpty) l))
  | [], first, left, l, h => by
    cases h
    simp only [List.nil_append, restGo, List.isEmpty_nil, Bool.and_true]
  | sp :: b, first, left, l, h => by
    simp only [restGo, List.cons_append] at h ⊢
    split at h
    · cases h
    · rename_i hh
      rw [if_neg hh, restGo_snoc h]
      simp only [List.isEmpty_cons, Bool.and_false, Bool.false_and]
theorem restGo_bnd {f : List Spring} {seam : Int} (hf : ∀ s, s ∈ f → 0 ≤ s.1.2) (hs : 0 ≤ seam) : ∀ {b : List Int} {first : Bool} {left l : Int}, 0 ≤ left → restGo f seam b first left = some l → 0 ≤ l ∧ l ≤ left
  | [], first, left, l, h0, h => by cases h; exact ⟨h0, Int.le_refl _⟩
  | sp :: b, first, left, l, h0, h => by
    simp only [restGo] at h
    split at h
    · cases h
    · rename_i hh
      have := restGo_bnd hf hs (by omega) h
      have g : 0 ≤ (f.getD sp.toNat ((0, 0), 0, 0)).1.2 := by
        by_cases hl : sp.toNat < f.length
        · exact hf _ (getD_mem hl)
        · rw [List.getD_eq_getElem?_getD, List.getElem?_eq_none (by omega)]; exact Int.le_refl _
      unfold restNx at this
      split at this <;> omega
theorem restAll_snoc {f : List Spring} {seam : Int} : ∀ {ls : List Int} {c : List (List Int)} {k : Nat} {out : List Int}, k < c.length → c.length = ls.length → restAll f seam (ls.take k) (c.take k) = some out →
    restAll f seam (ls.take (k + 1)) (c.take (k + 1)) = (restOne f seam (ls.getD k 0) (c.getD k [])).map fun x => out ++ [x]
  | [], c, k, out, hk, hl, h => by rw [List.length_nil] at hl; omega
  | leaf :: ls, [], k, out, hk, hl, h => by simp at hk
  | leaf :: ls, l :: c, 0, out, hk, hl, h => by
    cases h
    simp only [List.take_succ_cons, List.take_zero, restAll, List.getD_cons_zero]
    cases restOne f seam leaf l <;> rfl
  | leaf :: ls, l :: c, k + 1, out, hk, hl, h => by
    simp only [List.take_succ_cons, restAll, List.getD_cons_succ] at h ⊢
    cases hr : restOne f seam leaf l with
    | none => rw [hr] at h; cases h
    | some x =>
      rw [hr] at h
      simp only [List.take_succ_cons, restAll, List.getD_cons_succ] at h ⊢
      cases ha : restAll f seam (ls.take k) (c.take k) with
      | none => rw [ha] at h; cases h
      | some o =>
        rw [ha] at h
        cases h
        rw [restAll_snoc (by simpa using hk) (by simpa using hl) ha]
        cases restOne f seam (ls.getD k 0) (c.getD k []) <;> rfl
theorem restAll_none {f : List Spring} {seam : Int} : ∀ {ls : List Int} {c : List (List Int)} {k : Nat}, c.length = ls.length → restAll f seam (ls.take k) (c.take k) = none → restAll f seam ls c = none
  | [], c, k, hl, h => by
    obtain rfl : c = [] := by cases c with | nil => rfl | cons a r => simp at hl
    simpa using h
  | leaf :: ls, [], k, hl, h => by simp at hl
  | leaf :: ls, l :: c, 0, hl, h => by cases h
  | leaf :: ls, l :: c, k + 1, hl, h => by
    simp only [List.take_succ_cons, restAll] at h ⊢
    cases hr : restOne f seam leaf l with
    | none => rfl
    | some x =>
      rw [hr] at h
      simp only at h ⊢
      cases ha : restAll f seam (ls.take k) (c.take k) with
      | none => rw [restAll_none (by simpa using hl) ha]; rfl
      | some o => rw [ha] at h; cases h
theorem take_snoc {α : Type} {l : List α} {k : Nat} (hk : k < l.length) (d : α) : l.take (k + 1) = l.take k ++ [l.getD k d] := by
  rw [List.take_add_one, List.getElem?_eq_getElem hk, getD_lt hk]; rfl
theorem p36 {s : Store} {f : List Spring} {c : List (List Int)} {Q : List Int × Int × Unit → Prop} (h : f36_wp (s, f, c, ()) () Q) : V36 s f c Q := by
  have h : Q ((resRest s f c).1, (resRest s f c).2, ()) := h
  unfold resRest at h
  show cnd (checkF s f != 0) _ _
  refine cnd_iff.2 ⟨fun hc => ?_, fun hc _ _ => ?_⟩
  · rw [if_pos (ne_of_bne hc)] at h; exact h
  have hc := eq_of_bne hc
  have v := vok_of hc
  rw [if_neg (by simpa using hc)] at h
  have hs := v.sm
  have hf4 := v.f4
  have hn6 := v.n6
  unfold restF at h
  refine cnd_iff.2 ⟨fun h1 => ?_, fun h1 => ?_⟩
  · have h1 : (c.length : Int) ≠ s.1.length := ne_of_bne h1
    rw [if_pos (.inl (by omega))] at h; exact h
  have h1 : (c.length : Int) = s.1.length := eq_of_bne h1
  have hcl : c.length = s.1.length := by omega
  refine ⟨noneF f.length, fun l _ Q h => ⟨by show f.length ≤ 100; omega, h⟩, cnd_iff.2 ⟨fun h2 => ?_, fun h2 _ => ?_⟩⟩
  · rw [if_pos (.inr h2)] at h; exact h
  have h2 : c.any (noneF f.length) = false := h2
  rw [if_neg (by rw [h2]; simp [hcl])] at h
  have hin : ∀ k, k < c.length → ∀ j, j < (c.getD k []).length → 0 ≤ (c.getD k []).getD j 0 ∧ (c.getD k []).getD j 0 ≤ (f.length : Int) - 1 := by
    intro k hk j hj
    have := (List.any_eq_false.1 h2) _ (getD_mem (d := []) hk)
    simp only [noneF, Bool.or_eq_true, not_or] at this
    have h3 : (c.getD k []).all (inB 0 ((f.length : Int) - 1)) = true := by
      have := this.1
      cases hh : (c.getD k []).all (inB 0 ((f.length : Int) - 1)) with
      | true => rfl
      | false => rw [hh] at this; simp at this
    exact inB_iff.1 (all_iff.1 h3 _ (getD_mem hj))
  refine ⟨fun x out => ∃ k : Nat, (k ≤ c.length ∧ x = k ∧ out.length = k) ∧ restAll f s.2.1 (s.1.take k) (c.take k) = some out, fun x _ => (c.length - x).toNat, ⟨0, ⟨Nat.zero_le _, rfl, rfl⟩, by cases c <;> cases s.1 <;> rfl⟩, ?_⟩
  rintro x out ⟨k, ⟨hk, rfl, hol⟩, hout⟩
  refine cnd_iff.2 ⟨fun h3 => ?_, fun h3 => ?_⟩
  · have h3 : (k : Int) < c.length := of_decide_eq_true h3
    have hk : k < c.length := by omega
    refine ⟨by omega, by omega, by omega, by omega, fun hl => ?_⟩
    have hleaf := v.lv _ (getD_mem (d := 0) (show k < s.1.length by omega))
    have hsn := restAll_snoc hk hcl hout
    have hnn : restOne f s.2.1 (s.1.getD k 0) (c.getD k []) = none → restAll f s.2.1 s.1 c = none := fun hh => restAll_none (k := k + 1) hcl (by rw [hsn, hh]; rfl)
    have hfs : ∀ s, s ∈ f → 0 ≤ s.1.2 := fun s hs => by have := v.sp s hs; omega
    refine forUpGS2 (n := (c.getD k []).length) hl (fun j left out' => out' = out ∧ restGo f s.2.1 ((c.getD k []).take j) true (s.1.getD k 0) = some left) ⟨rfl, by simp [restGo]⟩ (fun j hj left out' hg I μ hI hw => ?_) (fun left out' hg _ => ?_)
    · obtain ⟨rfl, hg⟩ := hg
      have hij := hin k hk j hj
      have hb := restGo_bnd hfs hs.1 (by omega) hg
      have hsp : (f.getD ((c.getD k []).getD j 0).toNat ((0, 0), 0, 0)).1.2 ≤ 40 ∧ 0 ≤ (f.getD ((c.getD k []).getD j 0).toNat ((0, 0), 0, 0)).1.2 := by
        have := v.getS (i := ((c.getD k []).getD j 0).toNat) (by omega)
        omega
      have hstep := restGo_snoc (x := (c.getD k []).getD j 0) hg
      rw [← take_snoc hj 0] at hstep
      refine ⟨by omega, by show (j : Int) < ((c.getD k []).length : Int); omega, hij.1, by show (c.getD k []).getD j 0 < (f.length : Int); omega, ?_⟩
      rw [hw]
      have e1 : IntKind.wrap .i64 (left - (f.getD ((c.getD k []).getD j 0).toNat ((0, 0), 0, 0)).1.2) = left - (f.getD ((c.getD k []).getD j 0).toNat ((0, 0), 0, 0)).1.2 := wrapS (by omega) (by omega)
      have e2 : IntKind.wrap .i64 (left - (f.getD ((c.getD k []).getD j 0).toNat ((0, 0), 0, 0)).1.2 - s.2.1) = left - (f.getD ((c.getD k []).getD j 0).toNat ((0, 0), 0, 0)).1.2 - s.2.1 := wrapS (by omega) (by omega)
      show cnd (decide ((j : Int) > 0)) (cnd (decide (IntKind.wrap .i64 (IntKind.wrap .i64 (left - (f.getD ((c.getD k []).getD j 0).toNat ((0, 0), 0, 0)).1.2) - s.2.1) < 0)) _ (I _ (IntKind.wrap .i64 (IntKind.wrap .i64 (left - (f.getD ((c.getD k []).getD j 0).toNat ((0, 0), 0, 0)).1.2) - s.2.1)) _ ∧ μ _ (IntKind.wrap .i64 (IntKind.wrap .i64 (left - (f.getD ((c.getD k []).getD j 0).toNat ((0, 0), 0, 0)).1.2) - s.2.1)) _ < _))
        (cnd (decide (IntKind.wrap .i64 (left - (f.getD ((c.getD k []).getD j 0).toNat ((0, 0), 0, 0)).1.2) < 0)) _ (I _ (IntKind.wrap .i64 (left - (f.getD ((c.getD k []).getD j 0).toNat ((0, 0), 0, 0)).1.2)) _ ∧ μ _ (IntKind.wrap .i64 (left - (f.getD ((c.getD k []).getD j 0).toNat ((0, 0), 0, 0)).1.2)) _ < _))
      rw [e1, e2]
      have out9 : restGo f s.2.1 ((c.getD k []).take (j + 1)) true (s.1.getD k 0) = none → Q ([], 9, ()) := fun hh => by
        have h4 : restOne f s.2.1 (s.1.getD k 0) (c.getD k []) = none := by
          have := restGo_none (a := (c.getD k []).drop (j + 1)) hh
          rw [List.take_append_drop] at this
          unfold restOne; rw [this]; rfl
        rw [hnn h4] at h; exact h
      have hemp : ((c.getD k []).take j).isEmpty = decide (j = 0) := by
        cases j with
        | zero => rfl
        | succ j =>
          cases hh : (c.getD k []).take (j + 1) with
          | nil => have := congrArg List.length hh; rw [List.length_take, List.length_nil] at this; omega
          | cons a r => rfl
      rw [hemp] at hstep
      refine cnd_iff.2 ⟨fun h4 => ?_, fun h4 => ?_⟩
      · have h4 : (j : Int) > 0 := of_decide_eq_true h4
        have h5 : ¬ j = 0 := by omega
        simp only [h5, decide_false, Bool.and_false, restNx, Bool.false_eq_true, if_false] at hstep
        refine cnd_iff.2 ⟨fun h6 => ?_, fun h6 => hI _ _ ⟨rfl, ?_⟩⟩
        · rw [if_pos (of_decide_eq_true h6)] at hstep; exact out9 hstep
        · rw [if_neg (of_decide_eq_false h6)] at hstep; exact hstep
      · have h4 : ¬ (j : Int) > 0 := of_decide_eq_false h4
        have h5 : j = 0 := by omega
        simp only [h5, decide_true, Bool.and_true, restNx, if_true, Int.sub_zero] at hstep
        subst h5
        refine cnd_iff.2 ⟨fun h6 => ?_, fun h6 => hI _ _ ⟨rfl, ?_⟩⟩
        · rw [if_pos (of_decide_eq_true h6)] at hstep; exact out9 hstep
        · rw [if_neg (of_decide_eq_false h6)] at hstep; exact hstep
    · obtain ⟨rfl, hg⟩ := hg
      rw [List.take_length] at hg
      have hb := restGo_bnd hfs hs.1 (by omega) hg
      have hw2 : IntKind.wrap .i64 ((k : Int) + 1) = k + 1 := wrapS (by omega) (by omega)
      have e3 : IntKind.wrap .i64 (left - s.2.1) = left - s.2.1 := wrapS (by omega) (by omega)
      rw [hw2, e3]
      have fin : ∀ y, restOne f s.2.1 (s.1.getD k 0) (c.getD k []) = some y → (∃ k' : Nat, (k' ≤ c.length ∧ (k : Int) + 1 = k' ∧ (out' ++ [y]).length = k') ∧ restAll f s.2.1 (s.1.take k') (c.take k') = some (out' ++ [y])) ∧ ((c.length : Int) - ((k : Int) + 1)).toNat < ((c.length : Int) - (k : Int)).toNat := fun y hy => by
        refine ⟨⟨k + 1, ⟨by omega, by push_cast; rfl, by simp [hol]⟩, ?_⟩, by omega⟩
        rw [hsn, hy]; rfl
      refine cnd_iff.2 ⟨fun h4 => ⟨by simp only [List.length_cons, List.length_nil]; omega, fin _ ?_⟩, fun h4 => ⟨by simp only [List.length_cons, List.length_nil]; omega, fin _ ?_⟩⟩
      · have h4 : ((c.getD k []).length : Int) > 0 := of_decide_eq_true h4
        unfold restOne
        rw [hg, Option.map_some, if_pos (by omega)]
      · have h4 : ¬ ((c.getD k []).length : Int) > 0 := of_decide_eq_false h4
        unfold restOne
        rw [hg, Option.map_some, if_neg (by omega)]
  · have h3 : ¬ (k : Int) < c.length := of_decide_eq_false h3
    have : k = c.length := by omega
    subst this
    rw [List.take_length, hcl, List.take_length] at hout
    rw [hout] at h
    exact h
end Go.Proofs.Fa
set_option maxRecDepth 100000
namespace Go.Proofs.Fa
open Go Go.GX Go.Proofs
variable [Inhabited BaseD]
theorem ok92 : CallsOK Try.prog (assoc glT) 92 f92_ct :=
  callsOK_mkM [] st_ok mp_ok it_ok mk_ok in_ok AllOK.nil no_an Try.func92 (by kernel_rfl) (by kernel_rfl) f92_ct fun n ⟨lo, hi, _⟩ Q h => (v92 n lo hi Q).mp (p92 h)
theorem ok104 : CallsOK Try.prog (assoc glT) 104 f104_ct :=
  callsOK_mkM [] st_ok mp_ok it_ok mk_ok in_ok AllOK.nil idx_an Try.func104 (by kernel_rfl) (by kernel_rfl) f104_ct fun ⟨xs, f, _⟩ _ Q h => (v104 xs f Q).mp (p104 h)
theorem ok91 : CallsOK Try.prog (assoc glT) 91 f91_ct :=
  callsOK_mkM [] st_ok mp_ok it_ok mk_ok in_ok (AllOK.cons ok104 AllOK.nil) no_an Try.func91 (by kernel_rfl) (by kernel_rfl) f91_ct fun ⟨xs, f, _⟩ _ Q h => (v91 xs f Q).mp (p91 h)
theorem ok93 : CallsOK Try.prog (assoc glT) 93 f93_ct :=
  callsOK_mkM [] st_ok mp_ok it_ok mk_ok in_ok AllOK.nil idx_an Try.func93 (by kernel_rfl) (by kernel_rfl) f93_ct fun ⟨xs, f, _⟩ _ Q h => (v93 xs f Q).mp (p93 h)
theorem ok59 : CallsOK Try.prog (assoc glT) 59 f59_ct :=
  callsOK_mkM [] st_ok mp_ok it_ok mk_ok in_ok (AllOK.cons ok93 AllOK.nil) no_an Try.func59 (by kernel_rfl) (by kernel_rfl) f59_ct fun ⟨xs, f, _⟩ _ Q h => (v59 xs f Q).mp (p59 h)
theorem ok94 : CallsOK Try.prog (assoc glT) 94 f94_ct :=
  callsOK_mkM [] st_ok mp_ok it_ok mk_ok in_ok AllOK.nil idx_an Try.func94 (by kernel_rfl) (by kernel_rfl) f94_ct fun ⟨xs, f, _⟩ _ Q h => (v94 xs f Q).mp (p94 h)
theorem ok62 : CallsOK Try.prog (assoc glT) 62 f62_ct :=
  callsOK_mkM [] st_ok mp_ok it_ok mk_ok in_ok (AllOK.cons ok94 AllOK.nil) no_an Try.func62 (by kernel_rfl) (by kernel_rfl) f62_ct fun ⟨xs, f, _⟩ _ Q h => (v62 xs f Q).mp (p62 h)
theorem ok101 : CallsOK Try.prog (assoc glT) 101 f101_ct :=
  callsOK_mkM [] st_ok mp_ok it_ok mk_ok in_ok AllOK.nil idx_an Try.func101 (by kernel_rfl) (by kernel_rfl) f101_ct fun ⟨xs, f, _⟩ _ Q h => (v101 xs f Q).mp (p101 h)
theorem ok85 : CallsOK Try.prog (assoc glT) 85 f85_ct :=
  callsOK_mkM [] st_ok mp_ok it_ok mk_ok in_ok (AllOK.cons ok101 AllOK.nil) no_an Try.func85 (by kernel_rfl) (by kernel_rfl) f85_ct fun ⟨xs, f, _⟩ _ Q h => (v85 xs f Q).mp (p85 h)
theorem ok58 : CallsOK Try.prog (assoc glT) 58 f58_ct :=
  callsOK_mkM [] st_ok mp_ok it_ok mk_ok in_ok (AllOK.cons ok91 (AllOK.cons ok92 AllOK.nil)) no_an Try.func58 (by kernel_rfl) (by kernel_rfl) f58_ct fun ⟨lo, hi, xs, _⟩ _ Q h => (v58 lo hi xs Q).mp (p58 h)
theorem ok61 : CallsOK Try.prog (assoc glT) 61 f61_ct :=
  callsOK_mkM [] st_ok mp_ok it_ok mk_ok in_ok (AllOK.cons ok58 AllOK.nil) no_an Try.func61 (by kernel_rfl) (by kernel_rfl) f61_ct fun l _ Q h => (v61 l Q).mp (p61 h)
theorem ok60 : CallsOK Try.prog (assoc glT) 60 f60_ct :=
  callsOK_mkM [] st_ok mp_ok it_ok mk_ok in_ok (AllOK.cons ok61 AllOK.nil) no_an Try.func60 (by kernel_rfl) (by kernel_rfl) f60_ct fun l _ Q h => (v60 l Q).mp (p60 h)
theorem ok64 : CallsOK Try.prog (assoc glT) 64 f64_ct :=
  callsOK_mkM [] st_ok mp_ok it_ok mk_ok in_ok (AllOK.cons ok58 AllOK.nil) no_an Try.func64 (by kernel_rfl) (by kernel_rfl) f64_ct fun s _ Q h => (v64 s Q).mp (p64 h)
theorem ok63 : CallsOK Try.prog (assoc glT) 63 f63_ct :=
  callsOK_mkM [] st_ok mp_ok it_ok mk_ok in_ok (AllOK.cons ok64 AllOK.nil) no_an Try.func63 (by kernel_rfl) (by kernel_rfl) f63_ct fun s _ Q h => (v63 s Q).mp (p63 h)
theorem ok20 : CallsOK Try.prog (assoc glT) 20 f20_ct :=
  callsOK_mkM [] st_ok mp_ok it_ok mk_ok in_ok (AllOK.cons ok58 (AllOK.cons ok59 (AllOK.cons ok60 (AllOK.cons ok62 (AllOK.cons ok63 AllOK.nil))))) no_an Try.func20 (by kernel_rfl) (by kernel_rfl) f20_ct fun ⟨s, f, _⟩ _ Q h => (v20 s f Q).mp (p20 h)
theorem ok78 : CallsOK Try.prog (assoc glT) 78 f78_ct :=
  callsOK_mkM [] st_ok mp_ok it_ok mk_ok in_ok (AllOK.cons ok58 AllOK.nil) no_an Try.func78 (by kernel_rfl) (by kernel_rfl) f78_ct fun n _ Q h => (v78 n Q).mp (p78 h)
theorem ok79 : CallsOK Try.prog (assoc glT) 79 f79_ct :=
  callsOK_mkM [300] st_ok mp_ok it_ok mk_ok in_ok AllOK.nil no_an Try.func79 (by kernel_rfl) (by kernel_rfl) f79_ct fun xs _ Q h => (v79 xs Q).mp (p79 h)
theorem ok106 : CallsOK Try.prog (assoc glT) 106 f106_ct :=
  callsOK_mkM [] st_ok mp_ok it_ok mk_ok in_ok AllOK.nil no_an Try.func106 (by kernel_rfl) (by kernel_rfl) f106_ct fun n _ Q h => (v106 n Q).mp (p106 h)
theorem ok100 : CallsOK Try.prog (assoc glT) 100 f100_ct :=
  callsOK_mkM [] st_ok mp_ok it_ok mk_ok in_ok (AllOK.cons ok106 AllOK.nil) no_an Try.func100 (by kernel_rfl) (by kernel_rfl) f100_ct fun ⟨a, b, _⟩ _ Q h => (v100 a b Q).mp (p100 h)
theorem ok103 : CallsOK Try.prog (assoc glT) 103 f103_ct :=
  callsOK_mkM [] st_ok mp_ok it_ok mk_ok in_ok (AllOK.cons ok106 AllOK.nil) no_an Try.func103 (by kernel_rfl) (by kernel_rfl) f103_ct fun ⟨a, b, _⟩ _ Q h => (v103 a b Q).mp (p103 h)
theorem ok89 : CallsOK Try.prog (assoc glT) 89 f89_ct :=
  callsOK_mkM [] st_ok mp_ok it_ok mk_ok in_ok (AllOK.cons ok103 AllOK.nil) f89_an Try.func89 (by kernel_rfl) (by kernel_rfl) f89_ct fun ⟨a, b, _⟩ _ Q h => (v89 a b Q).mp (p89 h)
theorem ok84 : CallsOK Try.prog (assoc glT) 84 f84_ct :=
  callsOK_mkM [] st_ok mp_ok it_ok mk_ok in_ok (AllOK.cons ok100 AllOK.nil) f84_an Try.func84 (by kernel_rfl) (by kernel_rfl) f84_ct fun xs _ Q h => (v84 xs Q).mp (p84 h)
theorem ok110 : CallsOK Try.prog (assoc glT) 110 f110_ct :=
  callsOK_mkM [] st_ok mp_ok it_ok mk_ok in_ok AllOK.nil no_an Try.func110 (by kernel_rfl) (by kernel_rfl) f110_ct fun ⟨a, b, _⟩ _ Q h => (v110 a b Q).mp (p110 h)
theorem ok108 : CallsOK Try.prog (assoc glT) 108 f108_ct :=
  callsOK_mkM [] st_ok mp_ok it_ok mk_ok in_ok (AllOK.cons ok110 AllOK.nil) no_an Try.func108 (by kernel_rfl) (by kernel_rfl) f108_ct fun ⟨a, b, _⟩ _ Q h => (v108 a b Q).mp (p108 h)
theorem ok107 : CallsOK Try.prog (assoc glT) 107 f107_ct :=
  callsOK_mkM [903,906] st_ok mp_ok it_ok mk_ok in_ok (AllOK.cons ok108 AllOK.nil) f107_an Try.func107 (by kernel_rfl) (by kernel_rfl) f107_ct fun ⟨xs, n, _⟩ _ Q h => (v107 xs n Q).mp (p107 h)
theorem ok80 : CallsOK Try.prog (assoc glT) 80 f80_ct :=
  callsOK_mkM [] st_ok mp_ok it_ok mk_ok in_ok AllOK.nil f80_an Try.func80 (by kernel_rfl) (by kernel_rfl) f80_ct fun f _ Q h => (v80 f Q).mp (p80 h)
theorem ok105 : CallsOK Try.prog (assoc glT) 105 f105_ct :=
  callsOK_mkM [] st_ok mp_ok it_ok mk_ok in_ok (AllOK.cons ok107 AllOK.nil) f105_an Try.func105 (by kernel_rfl) (by kernel_rfl) f105_ct fun f _ Q h => (v105 f Q).mp (p105 h)
theorem ok97 : CallsOK Try.prog (assoc glT) 97 f97_ct :=
  callsOK_mkM [] st_ok mp_ok it_ok mk_ok in_ok AllOK.nil f97_an Try.func97 (by kernel_rfl) (by kernel_rfl) f97_ct fun ⟨b, f, _⟩ _ Q h => (v97 b f Q).mp (p97 h)
theorem ok98 : CallsOK Try.prog (assoc glT) 98 f98_ct :=
  callsOK_mkM [] st_ok mp_ok it_ok mk_ok in_ok AllOK.nil f97_an Try.func98 (by kernel_rfl) (by kernel_rfl) f98_ct fun ⟨b, f, _⟩ _ Q h => (v98 b f Q).mp (p98 h)
theorem ok99 : CallsOK Try.prog (assoc glT) 99 f99_ct :=
  callsOK_mkM [] st_ok mp_ok it_ok mk_ok in_ok AllOK.nil f99_an Try.func99 (by kernel_rfl) (by kernel_rfl) f99_ct fun ⟨a, b, _⟩ _ Q h => (v99 a b Q).mp (p99 h)
theorem ok66 : CallsOK Try.prog (assoc glT) 66 f66_ct :=
  callsOK_mkM [] st_ok mp_ok it_ok mk_ok in_ok AllOK.nil no_an Try.func66 (by kernel_rfl) (by kernel_rfl) f66_ct fun s _ Q h => (v66 s Q).mp (p66 h)
theorem ok65 : CallsOK Try.prog (assoc glT) 65 f65_ct :=
  callsOK_mkM [] st_ok mp_ok it_ok mk_ok in_ok AllOK.nil f65_an Try.func65 (by kernel_rfl) (by kernel_rfl) f65_ct fun ⟨s, f, e, _⟩ _ Q h => (v65 s f e Q).mp (p65 h)
theorem ok69 : CallsOK Try.prog (assoc glT) 69 f69_ct :=
  callsOK_mkM [] st_ok mp_ok it_ok mk_ok in_ok AllOK.nil f69_an Try.func69 (by kernel_rfl) (by kernel_rfl) f69_ct fun x _ Q h => (v69 x Q).mp (p69 h)
theorem ok68 : CallsOK Try.prog (assoc glT) 68 f68_ct :=
  callsOK_mkM [] st_ok mp_ok it_ok mk_ok in_ok AllOK.nil f68_an Try.func68 (by kernel_rfl) (by kernel_rfl) f68_ct fun ⟨x, e, i, _⟩ _ Q h => (v68 x e i Q).mp (p68 h)
theorem ok77 : CallsOK Try.prog (assoc glT) 77 f77_ct :=
  callsOK_mkM [] st_ok mp_ok it_ok mk_ok in_ok AllOK.nil f77_an Try.func77 (by kernel_rfl) (by kernel_rfl) f77_ct fun x _ Q h => (v77 x Q).mp (p77 h)
theorem ok82 : CallsOK Try.prog (assoc glT) 82 f82_ct := ok82x ok97 ok98 ok99
end Go.Proofs.Fa
set_option maxRecDepth 100000
namespace Go.Proofs.Fa
open Go Go.GX Go.Proofs
variable [Inhabited BaseD]
theorem ok95 : CallsOK Try.prog (assoc glT) 95 f95_ct :=
  callsOK_mkM [] st_ok mp_ok it_ok mk_ok in_ok (AllOK.cons ok82 (AllOK.cons ok97 (AllOK.cons ok98 (AllOK.cons ok99 (AllOK.cons ok105 (AllOK.cons ok89 AllOK.nil)))))) f95_an Try.func95 (by kernel_rfl) (by kernel_rfl) f95_ct fun ⟨p, f, _⟩ _ Q h => (v95 p f Q).mp (p95 h)
theorem ok67 : CallsOK Try.prog (assoc glT) 67 f67_ct :=
  callsOK_mkM [] st_ok mp_ok it_ok mk_ok in_ok (AllOK.cons ok81 (AllOK.cons ok82 (AllOK.cons ok95 AllOK.nil))) no_an Try.func67 (by kernel_rfl) (by kernel_rfl) f67_ct fun ⟨bs, f, _⟩ _ Q h => (v67 bs f Q).mp (p67 h)
theorem ok102 : CallsOK Try.prog (assoc glT) 102 f102_ct :=
  callsOK_mkM [] st_ok mp_ok it_ok mk_ok in_ok (AllOK.cons ok82 AllOK.nil) no_an Try.func102 (by kernel_rfl) (by kernel_rfl) f102_ct fun f ⟨p, q, _⟩ Q h => (v102 f p q Q).mp (p102 h)
theorem ok86 : CallsOK Try.prog (assoc glT) 86 f86_ct :=
  callsOK_mkM [] st_ok mp_ok it_ok mk_ok in_ok (AllOK.cons ok68 (AllOK.cons ok81 (AllOK.cons ok77 (AllOK.cons ok102 AllOK.nil)))) no_an Try.func86 (by kernel_rfl) (by kernel_rfl) f86_ct fun x _ Q h => (v86 x Q).mp (p86 h)
theorem ok21 : CallsOK Try.prog (assoc glT) 21 f21_ct :=
  callsOK_mkM [] st_ok mp_ok it_ok mk_ok in_ok (AllOK.cons ok20 (AllOK.cons ok65 (AllOK.cons ok66 (AllOK.cons ok68 (AllOK.cons ok69 (AllOK.cons ok67 AllOK.nil)))))) no_an Try.func21 (by kernel_rfl) (by kernel_rfl) f21_ct fun ⟨s, f, _⟩ _ Q h => (v21 s f Q).mp (p21 h)
theorem ok29 : CallsOK Try.prog (assoc glT) 29 f29_ct :=
  callsOK_mkM [] st_ok mp_ok it_ok mk_ok in_ok (AllOK.cons ok20 (AllOK.cons ok65 (AllOK.cons ok66 (AllOK.cons ok77 (AllOK.cons ok69 (AllOK.cons ok67 AllOK.nil)))))) no_an Try.func29 (by kernel_rfl) (by kernel_rfl) f29_ct fun ⟨s, f, _⟩ _ Q h => (v29 s f Q).mp (p29 h)
theorem ok50 : CallsOK Try.prog (assoc glT) 50 f50_ct :=
  callsOK_mkM [] st_ok mp_ok it_ok mk_ok in_ok (AllOK.cons ok20 (AllOK.cons ok65 (AllOK.cons ok66 (AllOK.cons ok86 (AllOK.cons ok69 (AllOK.cons ok80 (AllOK.cons ok89 (AllOK.cons ok79 AllOK.nil)))))))) f50_an Try.func50 (by kernel_rfl) (by kernel_rfl) f50_ct fun ⟨s, f, _⟩ _ Q h => (v50 s f Q).mp (p50 h)
theorem ok31 : CallsOK Try.prog (assoc glT) 31 f31_ct :=
  callsOK_mkM [] st_ok mp_ok it_ok mk_ok in_ok (AllOK.cons ok20 (AllOK.cons ok78 (AllOK.cons ok65 (AllOK.cons ok66 (AllOK.cons ok79 (AllOK.cons ok69 (AllOK.cons ok80 (AllOK.cons ok68 (AllOK.cons ok81 (AllOK.cons ok82 AllOK.nil)))))))))) f31_an Try.func31 (by kernel_rfl) (by kernel_rfl) f31_ct fun ⟨s, f, p, _⟩ _ Q h => (v31 s f p Q).mp (p31 h)
theorem ok34 : CallsOK Try.prog (assoc glT) 34 f34_ct :=
  callsOK_mkM [] st_ok mp_ok it_ok mk_ok in_ok (AllOK.cons ok20 (AllOK.cons ok78 (AllOK.cons ok65 (AllOK.cons ok66 (AllOK.cons ok69 AllOK.nil))))) f34_an Try.func34 (by kernel_rfl) (by kernel_rfl) f34_ct fun ⟨s, f, p, _⟩ _ Q h => (v34 s f p Q).mp (p34 h)
theorem ok83 : CallsOK Try.prog (assoc glT) 83 f83_ct :=
  callsOK_mkM [] st_ok mp_ok it_ok mk_ok in_ok (AllOK.cons ok58 (AllOK.cons ok84 AllOK.nil)) no_an Try.func83 (by kernel_rfl) (by kernel_rfl) f83_ct fun l ⟨f, _⟩ Q h => (v83 l f Q).mp (p83 h)
theorem ok36 : CallsOK Try.prog (assoc glT) 36 f36_ct :=
  callsOK_mkM [] st_ok mp_ok it_ok mk_ok in_ok (AllOK.cons ok20 (AllOK.cons ok83 (AllOK.cons ok85 AllOK.nil))) f36_an Try.func36 (by kernel_rfl) (by kernel_rfl) f36_ct fun ⟨s, f, c, _⟩ _ Q h => (v36 s f c Q).mp (p36 h)
theorem ok39 : CallsOK Try.prog (assoc glT) 39 f39_ct :=
  callsOK_mkM [] st_ok mp_ok it_ok mk_ok in_ok (AllOK.cons ok20 (AllOK.cons ok65 (AllOK.cons ok66 (AllOK.cons ok68 (AllOK.cons ok81 (AllOK.cons ok69 (AllOK.cons ok82 (AllOK.cons ok77 AllOK.nil)))))))) no_an Try.func39 (by kernel_rfl) (by kernel_rfl) f39_ct fun ⟨s, f, _⟩ _ Q h => (v39 s f Q).mp (p39 h)
theorem ok41 : CallsOK Try.prog (assoc glT) 41 f41_ct :=
  callsOK_mkM [] st_ok mp_ok it_ok mk_ok in_ok (AllOK.cons ok20 (AllOK.cons ok58 (AllOK.cons ok65 (AllOK.cons ok66 (AllOK.cons ok86 (AllOK.cons ok69 AllOK.nil)))))) f41_an Try.func41 (by kernel_rfl) (by kernel_rfl) f41_ct fun ⟨s, f, k, _⟩ _ Q h => (v41 s f k Q).mp (p41 h)
end Go.Proofs.Fa
namespace Go.Proofs.Fa
open Go Go.GX Go.Proofs

def f32_wp : Int × Int × Int × Unit → Unit → (Bool → Prop) → Prop := fun a _ Q => Q (inB a.2.1 a.2.2.1 a.1)
def f32_ct : Ct := ⟨arg3 k3 k3 k3, .unit, .bool, f32_wp, false, false⟩
def f22_wp : Store × List Spring × Unit → Unit → (Int → Prop) → Prop := fun a _ Q => Q (checkF a.1 a.2.1)
def f22_ct : Ct := ⟨arg2 k25 k26, .unit, k31, f22_wp, false, false⟩
def f22_an : Nat → Items
  | 0 => [.t 5 k3]
  | 2 => [.t 6 k3]
  | 4 => [.t 7 k3]
  | _ => []
def f16_wp : Store × List Spring × Unit → Unit → (Bool → Prop) → Prop := fun a _ Q => Q (decide (8 < a.1.1.length ∨ 8 < a.1.2.2.length ∨ 8 < a.2.1.length))
def f16_ct : Ct := ⟨arg2 k25 k26, .unit, .bool, f16_wp, false, false⟩
def f18_wp : Store → Unit → (Store → Prop) → Prop := fun s _ Q => (s.1.length ≤ 8 ∧ s.2.2.length ≤ 8) ∧ Q s
def f18_ct : Ct := ⟨k25, .unit, k25, f18_wp, false, false⟩
def f19_wp : List Spring → Unit → (List Spring → Prop) → Prop := fun f _ Q => f.length ≤ 8 ∧ Q f
def f19_ct : Ct := ⟨k26, .unit, k26, f19_wp, false, false⟩
def f38_wp : List Int × List Int × Unit → Unit → (Bool → Prop) → Prop := fun a _ Q => Q (decide (a.1 = a.2.1))
def f38_ct : Ct := ⟨arg2 k22 k22, .unit, .bool, f38_wp, false, false⟩
def one_an : Nat → Items
  | 0 => [.t 5 k3]
  | _ => []
def f71_wp : List Spring × List Spring × Unit → Unit → (Bool → Prop) → Prop := fun a _ Q => Q (decide (a.1 = a.2.1))
def f71_ct : Ct := ⟨arg2 k26 k26, .unit, .bool, f71_wp, false, false⟩
def f70_wp : Store × Store × Unit → Unit → (Bool → Prop) → Prop := fun a _ Q => Q (decide (a.1 = a.2.1))
def f70_ct : Ct := ⟨arg2 k25 k25, .unit, .bool, f70_wp, false, false⟩
def f23_wp : Store × Store × List Spring × List Spring × Unit → Unit → (Bool → Prop) → Prop := fun a _ Q => Q (decide (a.1 = a.2.1 ∧ a.2.2.1 = a.2.2.2.1))
def f23_ct : Ct := ⟨arg4 k25 k25 k26 k26, .unit, .bool, f23_wp, false, false⟩
def f28_wp : List (List Int) × List (List Int) × Unit → Unit → (Bool → Prop) → Prop := fun a _ Q => Q (decide (a.1 = a.2.1))
def f28_ct : Ct := ⟨arg2 k33 k33, .unit, .bool, f28_wp, false, false⟩

def F5 (f : FansT) : Prop := all4 (fun x => 0 ≤ x ∧ x ≤ 4) f
def atF (n : Int) : FansT := (n / 125, n / 25 % 5, n / 5 % 5, n % 5)
def idx5 (f : FansT) : Int := ((f.1 * 5 + f.2.1) * 5 + f.2.2.1) * 5 + f.2.2.2
def costF (b : BinT) (f : FansT) : Int := if GX.Fa.fitsB b f then GX.Fa.lossV b f else -1
def ge0 (f : FansT) : Bool := decide (0 ≤ f.1) && decide (0 ≤ f.2.1) && decide (0 ≤ f.2.2.1) && decide (0 ≤ f.2.2.2)

def lstStep (b : BinT) (rest : FansT → Int) (f : FansT) (best : Int) (s : FansT) : Int :=
  if !ge0 (GX.Fa.less f s) || decide (rest (GX.Fa.less f s) < 0) then best
  else if decide (0 ≤ costF b s) && (decide (best < 0) || decide (costF b s + rest (GX.Fa.less f s) < best)) then costF b s + rest (GX.Fa.less f s) else best
def lstR (b : BinT) (rest : FansT → Int) (f : FansT) : Int := (List.range ((idx5 f).toNat + 1)).foldl (fun best (n : Nat) => lstStep b rest f best (atF n)) (-1)
def tval : List BinT → FansT → Int
  | [], f => if GX.Fa.isNo f then 0 else -1
  | b :: r, f => lstR b (tval r) f
structure Bins0 (bs : List BinT) : Prop where
  b : BinsOK bs
  n : ∀ b, b ∈ bs → ∀ s, F5 s → GX.Fa.fitsB b s = true → 0 ≤ GX.Fa.lossV b s
  k : bs.length ≤ 100
def f26_wp : List Spring × Bool × Unit → Unit → (FansT → Prop) → Prop := fun a _ Q => a.1.length ≤ 4 ∧ Q (if a.2.1 then cH a.1 else cL a.1)
def f26_ct : Ct := ⟨arg2 k26 .bool, .unit, k41, f26_wp, false, false⟩
def f27_wp : List Spring → Unit → (FansT → Prop) → Prop := fun f _ Q => f.length ≤ 4 ∧ Q (wantF f)
def f27_ct : Ct := ⟨k26, .unit, k41, f27_wp, false, false⟩
def leavesR (ls : List Int) (seam : Int) (c : FansT) (each first : Int) : List BinT := ls.map fun p => (tup4 fun i => at4 c i + seam, tup4 fun _ => each, p + seam, first)
def f25_wp : List Int × Int × FansT × Int × Int × Unit → Unit → (List BinT → Prop) → Prop := fun a _ Q =>
  (a.1.length ≤ 500 ∧ (∀ l, l ∈ a.1 → bnd 400 l) ∧ bnd 400 a.2.1 ∧ all4 (bnd 400) a.2.2.1) ∧ Q (leavesR a.1 a.2.1 a.2.2.1 a.2.2.2.1 a.2.2.2.2.1)
def f25_ct : Ct := ⟨.pair k22 (.pair k3 (arg3 k41 k3 k3)), .unit, k39, f25_wp, true, false⟩
def lotR (f : List Spring) (c : FansT) (l : Lot) : BinT :=
  (tup4 fun i => if i < f.length then (if (f.getD i ((0, 0), 0, 0)).2.2 > l.1 then 1000 else at4 c i) else 0,
    tup4 fun i => if i < f.length then (if (f.getD i ((0, 0), 0, 0)).2.2 > l.1 then 0 else at4 c i * (l.1 - (f.getD i ((0, 0), 0, 0)).2.2)) else 0, l.2, 0)
def lotsR (ls : List Lot) (f : List Spring) (c : FansT) : List BinT := ls.map (lotR f c)
def f30_wp : List Lot × List Spring × FansT × Unit → Unit → (List BinT → Prop) → Prop := fun a _ Q =>
  (a.1.length ≤ 500 ∧ a.2.1.length ≤ 4 ∧ (∀ l, l ∈ a.1 → bnd 400 l.1 ∧ bnd 400 l.2) ∧ (∀ s, s ∈ a.2.1 → bnd 400 s.2.2) ∧ all4 (bnd 400) a.2.2.1) ∧ Q (lotsR a.1 a.2.1 a.2.2.1)
def f30_ct : Ct := ⟨arg3 k23 k26 k41, .unit, k39, f30_wp, true, false⟩
def bump (t : FansT) (k : Int) : FansT := put4 t k.toNat (at4 t k.toNat + 1)
def numF (l : List Int) : FansT := l.foldl bump NO4
def fromL (b : List Int) : Int := if b.length > 0 then b.getD (b.length - 1) 0 else 0

def listsF : Nat → List Int → FansT → List (List Int)
  | 0, _, _ => []
  | n + 1, b, f => b :: (List.range (4 - (fromL b).toNat)).flatMap fun j => if at4 (numF b) ((fromL b).toNat + j) < at4 f ((fromL b).toNat + j) then listsF n (b ++ [(((fromL b).toNat + j : Nat) : Int)]) f else []
def allL (f : FansT) : List (List Int) := listsF ((sumF f).toNat + 1) [] f
def smOK (b : BinT) (r : List BinT) (left : Int) (f : FansT) (l : List Int) : Bool :=
  decide (0 ≤ costF b (numF l)) && decide (0 ≤ tval r (GX.Fa.less f (numF l))) && decide (costF b (numF l) + tval r (GX.Fa.less f (numF l)) = left)
def smR : List BinT → Int → FansT → List (List Int)
  | [], _, _ => []
  | b :: r, left, f => match (allL f).find? (smOK b r left f) with
    | some l => l :: smR r (left - costF b (numF l)) (GX.Fa.less f (numF l))
    | none => smR r left f
def smallR (bs : List BinT) (f : FansT) : List (List Int) × Bool := if tval bs f < 0 then ([], false) else (smR bs (tval bs f) f, true)
def f24_wp : List BinT × FansT × Unit → Unit → (List (List Int) × Bool × Unit → Prop) → Prop := fun a _ Q => (Bins0 a.1 ∧ F5 a.2.1) ∧ Q ((smallR a.1 a.2.1).1, (smallR a.1 a.2.1).2, ())
def f24_ct : Ct := ⟨arg2 k39 k41, .unit, res2 k33 .bool, f24_wp, false, false⟩
def lvR (s : Store) (c : FansT) (each first : Int) : List BinT := leavesR s.1 s.2.1 c each first
def ltR (s : Store) (f : List Spring) (c : FansT) : List BinT := lotsR s.2.2 f c
def f35_wp : Store × List Spring × Int × Unit → Unit → (Int × Int × Unit → Prop) → Prop := fun a _ Q => (checkF a.1 a.2.1 = 0 ∧ inB 1 200 a.2.2.1 = true) ∧ Q ((boundF a.1 a.2.1 a.2.2.1).1, (boundF a.1 a.2.1 a.2.2.1).2, ())
def f35_ct : Ct := ⟨arg3 k25 k26 k3, .unit, res2 k3 k3, f35_wp, false, false⟩
def f35_an : Nat → Items
  | 0 => [.t 10 k3, .t 8 k3, .t 9 k3]
  | 2 => [.t 14 k3, .t 11 k3]
  | 4 => [.t 15 k3, .t 12 k3]
  | 6 => [.t 12 k3, .t 13 k3]
  | _ => []
end Go.Proofs.Fa
set_option linter.unusedVariables false
set_option maxRecDepth 100000
namespace Go.Proofs.Fa
open Go Go.GX Go.Proofs

def V32 (n : Int) (a : Int) (b : Int) (Q : Bool → Prop) : Prop := cnd (decide (n ≥ a)) (Q (decide (n ≤ b))) (Q false)
theorem v32 (n : Int) (a : Int) (b : Int) (Q : Bool → Prop) : V32 n a b Q = vcFunc (S0 [] []) f32_ct.own f32_ct.fresh no_an Try.f32 (bodyOf Try.f32) f32_ct.A f32_ct.C f32_ct.R (n, a, b, ()) () Q := by kernel_rfl

def V22 (s : List Int × Int × List (Int × Int)) (f : List Spring) (Q : Int → Prop) : Prop := List.length s.1 ≤ (9223372036854775807 : Nat) → cnd (decide ((↑(List.length s.1) : Int) > (6 : Int))) (Q (5 : Int)) (List.length s.2.2 ≤ (9223372036854775807 : Nat) → cnd (decide ((↑(List.length s.2.2) : Int) > (5 : Int))) (Q (5 : Int)) (∃ (I : Int → Prop), ∃ (μ : Int → Nat), I (0 : Int) ∧ ∀ (x : Int), I x → List.length s.1 ≤ (9223372036854775807 : Nat) → cnd (decide (x < (↑(List.length s.1) : Int))) ((0 : Int) ≤ x ∧ x < (↑(List.length s.1) : Int) ∧ f32_wp (List.getD s.1 (Int.toNat x) (0 : Int), (1 : Int), (200 : Int), ()) () fun (r : Bool) ↦ cnd (!r) (Q (2 : Int)) (I (IntKind.wrap IntKind.i64 (x + (1 : Int))) ∧ μ (IntKind.wrap IntKind.i64 (x + (1 : Int))) < μ x)) (∃ (I : Int → Prop), ∃ (μ : Int → Nat), I (0 : Int) ∧ ∀ (x : Int), I x → List.length s.2.2 ≤ (9223372036854775807 : Nat) → cnd (decide (x < (↑(List.length s.2.2) : Int))) ((0 : Int) ≤ x ∧ x < (↑(List.length s.2.2) : Int) ∧ f32_wp (Prod.fst (List.getD s.2.2 (Int.toNat x) ((0 : Int), (0 : Int))), (1 : Int), (200 : Int), ()) () fun (r : Bool) ↦ cnd (!r) (Q (2 : Int)) ((0 : Int) ≤ x ∧ x < (↑(List.length s.2.2) : Int) ∧ f32_wp (Prod.snd (List.getD s.2.2 (Int.toNat x) ((0 : Int), (0 : Int))), (0 : Int), (200 : Int), ()) () fun (r : Bool) ↦ cnd (!r) (Q (2 : Int)) (I (IntKind.wrap IntKind.i64 (x + (1 : Int))) ∧ μ (IntKind.wrap IntKind.i64 (x + (1 : Int))) < μ x))) (f32_wp (s.2.1, (0 : Int), (10 : Int), ()) () fun (r : Bool) ↦ cnd (!r) (Q (2 : Int)) (List.length f ≤ (9223372036854775807 : Nat) → f32_wp ((↑(List.length f) : Int), (1 : Int), (4 : Int), ()) () fun (r : Bool) ↦ cnd (!r) (Q (4 : Int)) (∃ (I : Int → Prop), ∃ (μ : Int → Nat), I (0 : Int) ∧ ∀ (x : Int), I x → List.length f ≤ (9223372036854775807 : Nat) → cnd (decide (x < (↑(List.length f) : Int))) ((0 : Int) ≤ x ∧ x < (↑(List.length f) : Int) ∧ (0 : Int) ≤ x ∧ x < (↑(List.length f) : Int) ∧ ∃ (r : Bool), (f32_wp (Prod.fst (Prod.fst (List.getD f (Int.toNat x) (((0 : Int), (0 : Int)), (0 : Int), (0 : Int)))), (2 : Int), Prod.snd (Prod.fst (List.getD f (Int.toNat x) (((0 : Int), (0 : Int)), (0 : Int), (0 : Int)))), ()) () fun (r' : Bool) ↦ r' = r) ∧ cnd (!r) (Q (3 : Int)) ((0 : Int) ≤ x ∧ x < (↑(List.length f) : Int) ∧ cnd (decide (Prod.snd (Prod.fst (List.getD f (Int.toNat x) (((0 : Int), (0 : Int)), (0 : Int), (0 : Int)))) > (40 : Int))) (Q (3 : Int)) ((0 : Int) ≤ x ∧ x < (↑(List.length f) : Int) ∧ ∃ (r : Bool), (f32_wp (Prod.fst (Prod.snd (List.getD f (Int.toNat x) (((0 : Int), (0 : Int)), (0 : Int), (0 : Int)))), (0 : Int), (4 : Int), ()) () fun (r' : Bool) ↦ r' = r) ∧ cnd (!r) (Q (3 : Int)) ((0 : Int) ≤ x ∧ x < (↑(List.length f) : Int) ∧ ∃ (r : Bool), (f32_wp (Prod.snd (Prod.snd (List.getD f (Int.toNat x) (((0 : Int), (0 : Int)), (0 : Int), (0 : Int)))), (1 : Int), (200 : Int), ()) () fun (r' : Bool) ↦ r' = r) ∧ cnd (!r) (Q (3 : Int)) (I (IntKind.wrap IntKind.i64 (x + (1 : Int))) ∧ μ (IntKind.wrap IntKind.i64 (x + (1 : Int))) < μ x))))) (Q (0 : Int))))))))
theorem v22 (s : List Int × Int × List (Int × Int)) (f : List Spring) (Q : Int → Prop) : V22 s f Q = vcFunc (S0 [(32, f32_ct)] []) f22_ct.own f22_ct.fresh f22_an Try.f22 (bodyOf Try.f22) f22_ct.A f22_ct.C f22_ct.R (s, f, ()) () Q := by kernel_rfl

def V16 (s : List Int × Int × List (Int × Int)) (f : List Spring) (Q : Bool → Prop) : Prop := List.length s.1 ≤ (9223372036854775807 : Nat) → cnd (decide ((↑(List.length s.1) : Int) > (8 : Int))) (Q true) (List.length s.2.2 ≤ (9223372036854775807 : Nat) → cnd (decide ((↑(List.length s.2.2) : Int) > (8 : Int))) (Q true) (List.length f ≤ (9223372036854775807 : Nat) → Q (decide ((↑(List.length f) : Int) > (8 : Int)))))
theorem v16 (s : List Int × Int × List (Int × Int)) (f : List Spring) (Q : Bool → Prop) : V16 s f Q = vcFunc (S0 [] []) f16_ct.own f16_ct.fresh no_an Try.f16 (bodyOf Try.f16) f16_ct.A f16_ct.C f16_ct.R (s, f, ()) () Q := by kernel_rfl

def V18 (s : List Int × Int × List (Int × Int)) (Q : List Int × Int × List (Int × Int) → Prop) : Prop := (List.length ([] : List Int) + List.length s.1) * (8 : Nat) ≤ (140737488355328 : Nat) ∧ (List.length ([] : List (Int × Int)) + List.length s.2.2) * (16 : Nat) ≤ (140737488355328 : Nat) ∧ Q (([] : List Int) ++ s.1, s.2.1, ([] : List (Int × Int)) ++ s.2.2)
theorem v18 (s : List Int × Int × List (Int × Int)) (Q : List Int × Int × List (Int × Int) → Prop) : V18 s Q = vcFunc (S0 [] []) f18_ct.own f18_ct.fresh no_an Try.f18 (bodyOf Try.f18) f18_ct.A f18_ct.C f18_ct.R s () Q := by kernel_rfl

def V19 (f : List Spring) (Q : List Spring → Prop) : Prop := (List.length ([] : List Spring) + List.length f) * (32 : Nat) ≤ (140737488355328 : Nat) ∧ Q (([] : List Spring) ++ f)
theorem v19 (f : List Spring) (Q : List Spring → Prop) : V19 f Q = vcFunc (S0 [] []) f19_ct.own f19_ct.fresh no_an Try.f19 (bodyOf Try.f19) f19_ct.A f19_ct.C f19_ct.R f () Q := by kernel_rfl

def V38 (a : List Int) (b : List Int) (Q : Bool → Prop) : Prop := List.length a ≤ (9223372036854775807 : Nat) → List.length b ≤ (9223372036854775807 : Nat) → cnd ((↑(List.length a) : Int) != (↑(List.length b) : Int)) (Q false) (∃ (I : Int → Prop), ∃ (μ : Int → Nat), I (0 : Int) ∧ ∀ (x : Int), I x → List.length a ≤ (9223372036854775807 : Nat) → cnd (decide (x < (↑(List.length a) : Int))) ((0 : Int) ≤ x ∧ x < (↑(List.length a) : Int) ∧ (0 : Int) ≤ x ∧ x < (↑(List.length b) : Int) ∧ cnd (List.getD a (Int.toNat x) (0 : Int) != List.getD b (Int.toNat x) (0 : Int)) (Q false) (I (IntKind.wrap IntKind.i64 (x + (1 : Int))) ∧ μ (IntKind.wrap IntKind.i64 (x + (1 : Int))) < μ x)) (Q true))
theorem v38 (a : List Int) (b : List Int) (Q : Bool → Prop) : V38 a b Q = vcFunc (S0 [] []) f38_ct.own f38_ct.fresh one_an Try.f38 (bodyOf Try.f38) f38_ct.A f38_ct.C f38_ct.R (a, b, ()) () Q := by kernel_rfl

def V71 (a : List Spring) (b : List Spring) (Q : Bool → Prop) : Prop := List.length a ≤ (9223372036854775807 : Nat) → List.length b ≤ (9223372036854775807 : Nat) → cnd ((↑(List.length a) : Int) != (↑(List.length b) : Int)) (Q false) (∃ (I : Int → Prop), ∃ (μ : Int → Nat), I (0 : Int) ∧ ∀ (x : Int), I x → List.length a ≤ (9223372036854775807 : Nat) → cnd (decide (x < (↑(List.length a) : Int))) ((0 : Int) ≤ x ∧ x < (↑(List.length a) : Int) ∧ (0 : Int) ≤ x ∧ x < (↑(List.length b) : Int) ∧ cnd (!(Prod.fst (Prod.fst (List.getD a (Int.toNat x) (((0 : Int), (0 : Int)), (0 : Int), (0 : Int)))) == Prod.fst (Prod.fst (List.getD b (Int.toNat x) (((0 : Int), (0 : Int)), (0 : Int), (0 : Int)))) && (Prod.snd (Prod.fst (List.getD a (Int.toNat x) (((0 : Int), (0 : Int)), (0 : Int), (0 : Int)))) == Prod.snd (Prod.fst (List.getD b (Int.toNat x) (((0 : Int), (0 : Int)), (0 : Int), (0 : Int)))) && (Prod.fst (Prod.snd (List.getD a (Int.toNat x) (((0 : Int), (0 : Int)), (0 : Int), (0 : Int)))) == Prod.fst (Prod.snd (List.getD b (Int.toNat x) (((0 : Int), (0 : Int)), (0 : Int), (0 : Int)))) && (Prod.snd (Prod.snd (List.getD a (Int.toNat x) (((0 : Int), (0 : Int)), (0 : Int), (0 : Int)))) == Prod.snd (Prod.snd (List.getD b (Int.toNat x) (((0 : Int), (0 : Int)), (0 : Int), (0 : Int)))) && true))))) (Q false) (I (IntKind.wrap IntKind.i64 (x + (1 : Int))) ∧ μ (IntKind.wrap IntKind.i64 (x + (1 : Int))) < μ x)) (Q true))
theorem v71 (a : List Spring) (b : List Spring) (Q : Bool → Prop) : V71 a b Q = vcFunc (S0 [] []) f71_ct.own f71_ct.fresh one_an Try.f71 (bodyOf Try.f71) f71_ct.A f71_ct.C f71_ct.R (a, b, ()) () Q := by kernel_rfl

def V70 (a : List Int × Int × List (Int × Int)) (b : List Int × Int × List (Int × Int)) (Q : Bool → Prop) : Prop := f38_wp (a.1, b.1, ()) () fun (r : Bool) ↦ cnd (!r) (Q false) (cnd (a.2.1 != b.2.1) (Q false) (List.length a.2.2 ≤ (9223372036854775807 : Nat) → List.length b.2.2 ≤ (9223372036854775807 : Nat) → cnd ((↑(List.length a.2.2) : Int) != (↑(List.length b.2.2) : Int)) (Q false) (∃ (I : Int → Prop), ∃ (μ : Int → Nat), I (0 : Int) ∧ ∀ (x : Int), I x → List.length a.2.2 ≤ (9223372036854775807 : Nat) → cnd (decide (x < (↑(List.length a.2.2) : Int))) ((0 : Int) ≤ x ∧ x < (↑(List.length a.2.2) : Int) ∧ (0 : Int) ≤ x ∧ x < (↑(List.length b.2.2) : Int) ∧ cnd (!(Prod.fst (List.getD a.2.2 (Int.toNat x) ((0 : Int), (0 : Int))) == Prod.fst (List.getD b.2.2 (Int.toNat x) ((0 : Int), (0 : Int))) && (Prod.snd (List.getD a.2.2 (Int.toNat x) ((0 : Int), (0 : Int))) == Prod.snd (List.getD b.2.2 (Int.toNat x) ((0 : Int), (0 : Int))) && true))) (Q false) (I (IntKind.wrap IntKind.i64 (x + (1 : Int))) ∧ μ (IntKind.wrap IntKind.i64 (x + (1 : Int))) < μ x)) (Q true))))
theorem v70 (a : List Int × Int × List (Int × Int)) (b : List Int × Int × List (Int × Int)) (Q : Bool → Prop) : V70 a b Q = vcFunc (S0 [(38, f38_ct)] []) f70_ct.own f70_ct.fresh one_an Try.f70 (bodyOf Try.f70) f70_ct.A f70_ct.C f70_ct.R (a, b, ()) () Q := by kernel_rfl

def V23 (a : List Int × Int × List (Int × Int)) (b : List Int × Int × List (Int × Int)) (f : List Spring) (g : List Spring) (Q : Bool → Prop) : Prop := f70_wp ((a.1, a.2.1, a.2.2), (b.1, b.2.1, b.2.2), ()) () fun (r : Bool) ↦ cnd r (f71_wp (f, g, ()) () fun (r : Bool) ↦ Q r) (Q false)
theorem v23 (a : List Int × Int × List (Int × Int)) (b : List Int × Int × List (Int × Int)) (f : List Spring) (g : List Spring) (Q : Bool → Prop) : V23 a b f g Q = vcFunc (S0 [(70, f70_ct), (71, f71_ct)] []) f23_ct.own f23_ct.fresh no_an Try.f23 (bodyOf Try.f23) f23_ct.A f23_ct.C f23_ct.R (a, b, f, g, ()) () Q := by kernel_rfl

def V28 (a : List (List Int)) (b : List (List Int)) (Q : Bool → Prop) : Prop := List.length a ≤ (9223372036854775807 : Nat) → List.length b ≤ (9223372036854775807 : Nat) → cnd ((↑(List.length a) : Int) != (↑(List.length b) : Int)) (Q false) (∃ (I : Int → Prop), ∃ (μ : Int → Nat), I (0 : Int) ∧ ∀ (x : Int), I x → List.length a ≤ (9223372036854775807 : Nat) → cnd (decide (x < (↑(List.length a) : Int))) ((0 : Int) ≤ x ∧ x < (↑(List.length a) : Int) ∧ (0 : Int) ≤ x ∧ x < (↑(List.length b) : Int) ∧ ∃ (r : Bool), (f38_wp (List.getD a (Int.toNat x) ([] : List Int), List.getD b (Int.toNat x) ([] : List Int), ()) () fun (r' : Bool) ↦ r' = r) ∧ cnd (!r) (Q false) (I (IntKind.wrap IntKind.i64 (x + (1 : Int))) ∧ μ (IntKind.wrap IntKind.i64 (x + (1 : Int))) < μ x)) (Q true))
theorem v28 (a : List (List Int)) (b : List (List Int)) (Q : Bool → Prop) : V28 a b Q = vcFunc (S0 [(38, f38_ct)] []) f28_ct.own f28_ct.fresh one_an Try.f28 (bodyOf Try.f28) f28_ct.A f28_ct.C f28_ct.R (a, b, ()) () Q := by kernel_rfl

def V35 (s : List Int × Int × List (Int × Int)) (f : List Spring) (p : Int) (Q : Int × Int × Unit → Prop) : Prop := ∃ (I : Int → Int → Int → Prop), ∃ (μ : Int → Int → Int → Nat), I (0 : Int) (0 : Int) (0 : Int) ∧ ∀ (x x_1 x_2 : Int), I x x_1 x_2 → List.length f ≤ (9223372036854775807 : Nat) → cnd (decide (x < (↑(List.length f) : Int))) (∃ (I_1 : Int → Int → Prop), ∃ (μ_1 : Int → Int → Nat), I_1 (0 : Int) (0 : Int) ∧ ∀ (x_3 x_4 : Int), I_1 x_3 x_4 → List.length f ≤ (9223372036854775807 : Nat) → cnd (decide (x_3 < (↑(List.length f) : Int))) ((0 : Int) ≤ x_3 ∧ x_3 < (↑(List.length f) : Int) ∧ (0 : Int) ≤ x ∧ x < (↑(List.length f) : Int) ∧ cnd (decide (Prod.snd (Prod.fst (List.getD f (Int.toNat x_3) (((0 : Int), (0 : Int)), (0 : Int), (0 : Int)))) ≥ Prod.snd (Prod.fst (List.getD f (Int.toNat x) (((0 : Int), (0 : Int)), (0 : Int), (0 : Int)))))) ((0 : Int) ≤ x_3 ∧ x_3 < (↑(List.length f) : Int) ∧ (0 : Int) ≤ x_3 ∧ x_3 < (↑(List.length f) : Int) ∧ I_1 (IntKind.wrap IntKind.i64 (x_3 + (1 : Int))) (IntKind.wrap IntKind.i64 (x_4 + IntKind.wrap IntKind.i64 (Prod.fst (Prod.snd (List.getD f (Int.toNat x_3) (((0 : Int), (0 : Int)), (0 : Int), (0 : Int)))) * IntKind.wrap IntKind.i64 (Prod.snd (Prod.fst (List.getD f (Int.toNat x_3) (((0 : Int), (0 : Int)), (0 : Int), (0 : Int)))) + s.2.1)))) ∧ μ_1 (IntKind.wrap IntKind.i64 (x_3 + (1 : Int))) (IntKind.wrap IntKind.i64 (x_4 + IntKind.wrap IntKind.i64 (Prod.fst (Prod.snd (List.getD f (Int.toNat x_3) (((0 : Int), (0 : Int)), (0 : Int), (0 : Int)))) * IntKind.wrap IntKind.i64 (Prod.snd (Prod.fst (List.getD f (Int.toNat x_3) (((0 : Int), (0 : Int)), (0 : Int), (0 : Int)))) + s.2.1)))) < μ_1 x_3 x_4) (I_1 (IntKind.wrap IntKind.i64 (x_3 + (1 : Int))) x_4 ∧ μ_1 (IntKind.wrap IntKind.i64 (x_3 + (1 : Int))) x_4 < μ_1 x_3 x_4)) (∃ (I_2 : Int → Int → Prop), ∃ (μ_2 : Int → Int → Nat), I_2 (0 : Int) (0 : Int) ∧ ∀ (x_5 x_6 : Int), I_2 x_5 x_6 → List.length s.1 ≤ (9223372036854775807 : Nat) → cnd (decide (x_5 < (↑(List.length s.1) : Int))) ((0 : Int) ≤ x_5 ∧ x_5 < (↑(List.length s.1) : Int) ∧ (0 : Int) ≤ x ∧ x < (↑(List.length f) : Int) ∧ cnd (decide (List.getD s.1 (Int.toNat x_5) (0 : Int) ≥ Prod.snd (Prod.fst (List.getD f (Int.toNat x) (((0 : Int), (0 : Int)), (0 : Int), (0 : Int)))))) ((0 : Int) ≤ x_5 ∧ x_5 < (↑(List.length s.1) : Int) ∧ I_2 (IntKind.wrap IntKind.i64 (x_5 + (1 : Int))) (IntKind.wrap IntKind.i64 (x_6 + IntKind.wrap IntKind.i64 (List.getD s.1 (Int.toNat x_5) (0 : Int) + s.2.1))) ∧ μ_2 (IntKind.wrap IntKind.i64 (x_5 + (1 : Int))) (IntKind.wrap IntKind.i64 (x_6 + IntKind.wrap IntKind.i64 (List.getD s.1 (Int.toNat x_5) (0 : Int) + s.2.1))) < μ_2 x_5 x_6) (I_2 (IntKind.wrap IntKind.i64 (x_5 + (1 : Int))) x_6 ∧ μ_2 (IntKind.wrap IntKind.i64 (x_5 + (1 : Int))) x_6 < μ_2 x_5 x_6)) (∃ (I_3 : Int → Int → Prop), ∃ (μ_3 : Int → Int → Nat), I_3 x_6 (0 : Int) ∧ ∀ (x_7 x_8 : Int), I_3 x_7 x_8 → cnd (decide (x_7 < x_4)) (I_3 (IntKind.wrap IntKind.i64 (IntKind.wrap IntKind.i64 (x_7 + p) + s.2.1)) (IntKind.wrap IntKind.i64 (x_8 + (1 : Int))) ∧ μ_3 (IntKind.wrap IntKind.i64 (IntKind.wrap IntKind.i64 (x_7 + p) + s.2.1)) (IntKind.wrap IntKind.i64 (x_8 + (1 : Int))) < μ_3 x_7 x_8) (cnd (decide (x_8 > x_1)) (I (IntKind.wrap IntKind.i64 (x + (1 : Int))) x_8 x ∧ μ (IntKind.wrap IntKind.i64 (x + (1 : Int))) x_8 x < μ x x_1 x_2) (I (IntKind.wrap IntKind.i64 (x + (1 : Int))) x_1 x_2 ∧ μ (IntKind.wrap IntKind.i64 (x + (1 : Int))) x_1 x_2 < μ x x_1 x_2))))) (Q (x_1, x_2, ()))
theorem v35 (s : List Int × Int × List (Int × Int)) (f : List Spring) (p : Int) (Q : Int × Int × Unit → Prop) : V35 s f p Q = vcFunc (S0 [] []) f35_ct.own f35_ct.fresh f35_an Try.f35 (bodyOf Try.f35) f35_ct.A f35_ct.C f35_ct.R (s, f, p, ()) () Q := by kernel_rfl

end Go.Proofs.Fa
set_option linter.unusedVariables false
namespace Go.Proofs.Fa
open Go Go.GX Go.Proofs

theorem p32 {n a b : Int} {Q : Bool → Prop} (h : f32_wp (n, a, b, ()) () Q) : V32 n a b Q := by
  have h : Q (inB a b n) := h
  unfold inB at h
  refine cnd_iff.2 ⟨fun h1 => ?_, fun h1 => ?_⟩
  · have h1 : decide (n ≥ a) = true := h1
    have e : decide (a ≤ n) = true := h1
    rw [e] at h; exact h
  · have h1 : decide (n ≥ a) = false := h1
    have e : decide (a ≤ n) = false := h1
    rw [e] at h; exact h
theorem p16 {s : Store} {f : List Spring} {Q : Bool → Prop} (h : f16_wp (s, f, ()) () Q) : V16 s f Q := by
  have h : Q (decide (8 < s.1.length ∨ 8 < s.2.2.length ∨ 8 < f.length)) := h
  intro _
  refine cnd_iff.2 ⟨fun h1 => ?_, fun h1 _ => cnd_iff.2 ⟨fun h2 => ?_, fun h2 _ => ?_⟩⟩
  · have h1 : (s.1.length : Int) > 8 := of_decide_eq_true h1
    rw [decide_eq_true (.inl (by omega))] at h; exact h
  · have h2 : (s.2.2.length : Int) > 8 := of_decide_eq_true h2
    rw [decide_eq_true (.inr (.inl (by omega)))] at h; exact h
  · have h1 : ¬ (s.1.length : Int) > 8 := of_decide_eq_false h1
    have h2 : ¬ (s.2.2.length : Int) > 8 := of_decide_eq_false h2
    have e : decide (8 < s.1.length ∨ 8 < s.2.2.length ∨ 8 < f.length) = decide ((f.length : Int) > 8) := by
      by_cases h3 : (f.length : Int) > 8
      · rw [decide_eq_true h3, decide_eq_true (.inr (.inr (by omega)))]
      · rw [decide_eq_false h3, decide_eq_false (by omega)]
    rwa [e] at h
theorem p18 {s : Store} {Q : Store → Prop} (h : f18_wp s () Q) : V18 s Q := by
  obtain ⟨⟨h1, h2⟩, h⟩ := h
  exact ⟨by simp; omega, by simp; omega, h⟩
theorem p19 {f : List Spring} {Q : List Spring → Prop} (h : f19_wp f () Q) : V19 f Q := by
  obtain ⟨h1, h⟩ := h
  exact ⟨by simp; omega, h⟩
theorem list_ext' {α : Type} {a b : List α} (d : α) (hl : a.length = b.length) (h : ∀ j, j < a.length → a.getD j d = b.getD j d) : a = b := by
  refine List.ext_getElem hl fun j h1 h2 => ?_
  have := h j h1
  rwa [getD_lt h1, getD_lt h2] at this

theorem same_loop {α : Type} [DecidableEq α] {a b : List α} (d : α) {Q : Bool → Prop} (h : Q (decide (a = b))) {T : Int → Prop → Prop → Prop}
    (ht : ∀ (k : Nat) (P1 P2 : Prop), k < a.length → k < b.length → (a.getD k d ≠ b.getD k d → P1) → (a.getD k d = b.getD k d → P2) → T (k : Int) P1 P2) (h1 : a.length ≤ 9223372036854775807 → b.length ≤ 9223372036854775807 → True) :
    a.length ≤ 9223372036854775807 → b.length ≤ 9223372036854775807 → cnd ((a.length : Int) != (b.length : Int)) (Q false)
      (∃ (I : Int → Prop) (μ : Int → Nat), I 0 ∧ ∀ x, I x → a.length ≤ 9223372036854775807 → cnd (decide (x < (a.length : Int))) (0 ≤ x ∧ x < (a.length : Int) ∧ 0 ≤ x ∧ x < (b.length : Int) ∧ T x (Q false) (I (IntKind.wrap .i64 (x + 1)) ∧ μ (IntKind.wrap .i64 (x + 1)) < μ x)) (Q true)) := by
  intro _ _
  refine cnd_iff.2 ⟨fun hl => ?_, fun hl => ?_⟩
  · have : a ≠ b := by
      intro e; rw [e] at hl; simp at hl
    rw [decide_eq_false this] at h; exact h
  have hl : a.length = b.length := by have := eq_of_bne hl; omega
  refine forUpGL (fun k => ∀ j, j < k → a.getD j d = b.getD j d) (fun j hj => absurd hj (Nat.not_lt_zero _)) (fun k hk hg _ I μ hI hw => ?_) (fun hg => ?_)
  · refine ⟨by omega, by omega, by omega, by omega, ?_⟩
    refine ht k _ _ hk (by omega) (fun hne => ?_) (fun he => ?_)
    · have : a ≠ b := by intro e; rw [e] at hne; exact hne rfl
      rw [decide_eq_false this] at h; exact h
    · rw [hw]
      refine hI fun j hj => ?_
      rcases Nat.lt_succ_iff_lt_or_eq.1 hj with h3 | rfl
      · exact hg j h3
      · exact he
  · rw [decide_eq_true (list_ext' d hl hg)] at h; exact h
theorem p38 {a b : List Int} {Q : Bool → Prop} (h : f38_wp (a, b, ()) () Q) : V38 a b Q :=
  same_loop (0 : Int) h (T := fun x P1 P2 => cnd (a.getD x.toNat 0 != b.getD x.toNat 0) P1 P2) (fun k P1 P2 _ _ g1 g2 => cnd_iff.2 ⟨fun e => g1 (ne_of_bne e), fun e => g2 (eq_of_bne e)⟩) fun _ _ => trivial
theorem p28 {a b : List (List Int)} {Q : Bool → Prop} (h : f28_wp (a, b, ()) () Q) : V28 a b Q :=
  same_loop ([] : List Int) h (T := fun x P1 P2 => ∃ r : Bool, (f38_wp (a.getD x.toNat [], b.getD x.toNat [], ()) () fun r' => r' = r) ∧ cnd (!r) P1 P2) (fun k P1 P2 _ _ g1 g2 => ⟨decide (a.getD k [] = b.getD k []), rfl, cnd_iff.2 ⟨fun e => g1 (by simpa using e), fun e => g2 (by simpa using e)⟩⟩) fun _ _ => trivial
theorem lot_eq (p q : Lot) : (p.1 == q.1 && (p.2 == q.2 && true)) = decide (p = q) := by
  obtain ⟨a, b⟩ := p
  obtain ⟨c, d⟩ := q
  by_cases h1 : a = c <;> by_cases h2 : b = d <;> simp [h1, h2]
theorem spr_eq (p q : Spring) : (p.1.1 == q.1.1 && (p.1.2 == q.1.2 && (p.2.1 == q.2.1 && (p.2.2 == q.2.2 && true)))) = decide (p = q) := by
  obtain ⟨⟨a, b⟩, c, d⟩ := p
  obtain ⟨⟨a', b'⟩, c', d'⟩ := q
  by_cases h1 : a = a' <;> by_cases h2 : b = b' <;> by_cases h3 : c = c' <;> by_cases h4 : d = d' <;> simp [h1, h2, h3, h4]
theorem p71 {a b : List Spring} {Q : Bool → Prop} (h : f71_wp (a, b, ()) () Q) : V71 a b Q :=
  same_loop (((0, 0), 0, 0) : Spring) h (T := fun x P1 P2 => cnd (!((a.getD x.toNat ((0, 0), 0, 0)).1.1 == (b.getD x.toNat ((0, 0), 0, 0)).1.1 && ((a.getD x.toNat ((0, 0), 0, 0)).1.2 == (b.getD x.toNat ((0, 0), 0, 0)).1.2 && ((a.getD x.toNat ((0, 0), 0, 0)).2.1 == (b.getD x.toNat ((0, 0), 0, 0)).2.1 && ((a.getD x.toNat ((0, 0), 0, 0)).2.2 == (b.getD x.toNat ((0, 0), 0, 0)).2.2 && true))))) P1 P2)
    (fun k P1 P2 _ _ g1 g2 => by
      show cnd (!((a.getD k ((0, 0), 0, 0)).1.1 == (b.getD k ((0, 0), 0, 0)).1.1 && ((a.getD k ((0, 0), 0, 0)).1.2 == (b.getD k ((0, 0), 0, 0)).1.2 && ((a.getD k ((0, 0), 0, 0)).2.1 == (b.getD k ((0, 0), 0, 0)).2.1 && ((a.getD k ((0, 0), 0, 0)).2.2 == (b.getD k ((0, 0), 0, 0)).2.2 && true))))) P1 P2
      rw [spr_eq]
      exact cnd_iff.2 ⟨fun e => g1 (by simpa using e), fun e => g2 (by simpa using e)⟩) fun _ _ => trivial
theorem p70 {a b : Store} {Q : Bool → Prop} (h : f70_wp (a, b, ()) () Q) : V70 a b Q := by
  have h : Q (decide (a = b)) := h
  show cnd (!(decide (a.1 = b.1))) (Q false) (cnd (a.2.1 != b.2.1) (Q false) _)
  refine cnd_iff.2 ⟨fun h1 => ?_, fun h1 => cnd_iff.2 ⟨fun h2 => ?_, fun h2 => ?_⟩⟩
  · have h1 : a.1 ≠ b.1 := by simpa using h1
    rw [decide_eq_false (fun e => h1 (by rw [e]))] at h; exact h
  · have h2 := ne_of_bne h2
    rw [decide_eq_false (fun e => h2 (by rw [e]))] at h; exact h
  have e1 : a.1 = b.1 := by simpa using h1
  have e2 : a.2.1 = b.2.1 := eq_of_bne h2
  have e : decide (a = b) = decide (a.2.2 = b.2.2) := by
    rw [Bool.eq_iff_iff, decide_eq_true_eq, decide_eq_true_eq]
    exact ⟨fun h => by rw [h], fun h => Prod.ext e1 (Prod.ext e2 h)⟩
  rw [e] at h
  exact same_loop ((0, 0) : Lot) h (T := fun x P1 P2 => cnd (!((a.2.2.getD x.toNat (0, 0)).1 == (b.2.2.getD x.toNat (0, 0)).1 && ((a.2.2.getD x.toNat (0, 0)).2 == (b.2.2.getD x.toNat (0, 0)).2 && true))) P1 P2)
    (fun k P1 P2 _ _ g1 g2 => by
      show cnd (!((a.2.2.getD k (0, 0)).1 == (b.2.2.getD k (0, 0)).1 && ((a.2.2.getD k (0, 0)).2 == (b.2.2.getD k (0, 0)).2 && true))) P1 P2
      rw [lot_eq]
      exact cnd_iff.2 ⟨fun e => g1 (by simpa using e), fun e => g2 (by simpa using e)⟩) fun _ _ => trivial
theorem p23 {a b : Store} {f g : List Spring} {Q : Bool → Prop} (h : f23_wp (a, b, f, g, ()) () Q) : V23 a b f g Q := by
  have h : Q (decide (a = b ∧ f = g)) := h
  show cnd (decide (a = b)) (Q (decide (f = g))) (Q false)
  refine cnd_iff.2 ⟨fun h1 => ?_, fun h1 => ?_⟩
  · have h1 : a = b := of_decide_eq_true h1
    have e : decide (a = b ∧ f = g) = decide (f = g) := by simp [h1]
    rwa [e] at h
  · have h1 : ¬ a = b := of_decide_eq_false h1
    rw [decide_eq_false (fun e => h1 e.1)] at h; exact h
theorem p22 {s : Store} {f : List Spring} {Q : Int → Prop} (h : f22_wp (s, f, ()) () Q) : V22 s f Q := by
  have h : Q (checkF s f) := h
  unfold checkF at h
  intro _
  refine cnd_iff.2 ⟨fun h1 => ?_, fun h1 _ => cnd_iff.2 ⟨fun h2 => ?_, fun h2 => ?_⟩⟩
  · have h1 : (s.1.length : Int) > 6 := of_decide_eq_true h1
    rw [if_pos (.inl (by omega))] at h; exact h
  · have h2 : (s.2.2.length : Int) > 5 := of_decide_eq_true h2
    rw [if_pos (.inr (by omega))] at h; exact h
  have h1 : ¬ (s.1.length : Int) > 6 := of_decide_eq_false h1
  have h2 : ¬ (s.2.2.length : Int) > 5 := of_decide_eq_false h2
  rw [if_neg (by omega)] at h
  have mem : ∀ {α : Type} {l : List α} {p : α → Bool} (d : α) {k : Nat}, k < l.length → p (l.getD k d) = false → l.all p = false := fun {α l p} d {k} hk hp => by
    rw [List.all_eq_false]; exact ⟨_, getD_mem hk, by rw [hp]; simp⟩
  have allT : ∀ {α : Type} {l : List α} {p : α → Bool} (d : α), (∀ j, j < l.length → p (l.getD j d) = true) → l.all p = true := fun {α l p} d hp => by
    rw [List.all_eq_true]
    intro x hx
    obtain ⟨j, hj, rfl⟩ := List.mem_iff_getElem.1 hx
    have := hp j hj
    rwa [getD_lt hj] at this
  have go : ∀ {p : Nat → Prop} {k : Nat}, (∀ j, j < k → p j) → p k → ∀ j, j < k + 1 → p j := fun {p k} hg hk j hj => by
    rcases Nat.lt_succ_iff_lt_or_eq.1 hj with h3 | rfl
    · exact hg j h3
    · exact hk
  refine forUpGL (fun k => ∀ j, j < k → inB 1 200 (s.1.getD j 0) = true) (fun j hj => absurd hj (Nat.not_lt_zero _)) (fun k hk hg _ I μ hI hw => ?_) (fun hg => ?_)
  · refine ⟨by omega, by omega, ?_⟩
    show cnd (!(inB 1 200 (s.1.getD k 0))) (Q 2) _
    refine cnd_iff.2 ⟨fun h3 => ?_, fun h3 => ?_⟩
    · rw [if_pos (.inl (mem 0 hk (by simpa using h3)))] at h; exact h
    · rw [hw]; exact hI (go hg (by simpa using h3))
  have l1 : s.1.all (inB 1 200) = true := allT 0 hg
  refine forUpGL (fun k => ∀ j, j < k → isLotF (s.2.2.getD j (0, 0)) = true) (fun j hj => absurd hj (Nat.not_lt_zero _)) (fun k hk hg _ I μ hI hw => ?_) (fun hg => ?_)
  · refine ⟨by omega, by omega, ?_⟩
    show cnd (!(inB 1 200 (s.2.2.getD k (0, 0)).1)) (Q 2) (_ ∧ _ ∧ cnd (!(inB 0 200 (s.2.2.getD k (0, 0)).2)) (Q 2) _)
    refine cnd_iff.2 ⟨fun h3 => ?_, fun h3 => ⟨by omega, by omega, cnd_iff.2 ⟨fun h4 => ?_, fun h4 => ?_⟩⟩⟩
    · have h3 : inB 1 200 (s.2.2.getD k (0, 0)).1 = false := by simpa using h3
      rw [if_pos (.inr (.inr (mem (0, 0) hk (by unfold isLotF; rw [h3]; rfl))))] at h; exact h
    · have h3 : inB 1 200 (s.2.2.getD k (0, 0)).1 = true := by simpa using h3
      have h4 : inB 0 200 (s.2.2.getD k (0, 0)).2 = false := by simpa using h4
      rw [if_pos (.inr (.inr (mem (0, 0) hk (by unfold isLotF; rw [h3, h4]; rfl))))] at h; exact h
    · have h3 : inB 1 200 (s.2.2.getD k (0, 0)).1 = true := by simpa using h3
      have h4 : inB 0 200 (s.2.2.getD k (0, 0)).2 = true := by simpa using h4
      rw [hw]; exact hI (go hg (by unfold isLotF; rw [h3, h4]; rfl))
  have l2 : s.2.2.all isLotF = true := allT (0, 0) hg
  show cnd (!(inB 0 10 s.2.1)) (Q 2) _
  refine cnd_iff.2 ⟨fun h3 => ?_, fun h3 _ => ?_⟩
  · rw [if_pos (.inr (.inl (by simpa using h3)))] at h; exact h
  have h3 : inB 0 10 s.2.1 = true := by simpa using h3
  rw [if_neg (by rw [l1, l2, h3]; simp)] at h
  show cnd (!(inB 1 4 (f.length : Int))) (Q 4) _
  refine cnd_iff.2 ⟨fun h4 => ?_, fun h4 => ?_⟩
  · rw [if_pos (by simpa using h4)] at h; exact h
  have h4 : inB 1 4 (f.length : Int) = true := by simpa using h4
  rw [if_neg (by rw [h4]; simp)] at h
  refine forUpGL (fun k => ∀ j, j < k → isSprF (f.getD j ((0, 0), 0, 0)) = true) (fun j hj => absurd hj (Nat.not_lt_zero _)) (fun k hk hg _ I μ hI hw => ?_) (fun hg => ?_)
  · have bad : isSprF (f.getD k ((0, 0), 0, 0)) = false → Q 3 := fun hb => by
      rw [if_pos (mem ((0, 0), 0, 0) hk hb)] at h; exact h
    have eS : isSprF (f.getD k ((0, 0), 0, 0)) = (inB 2 (f.getD k ((0, 0), 0, 0)).1.2 (f.getD k ((0, 0), 0, 0)).1.1 && !(decide ((f.getD k ((0, 0), 0, 0)).1.2 > 40)) && inB 0 4 (f.getD k ((0, 0), 0, 0)).2.1 && inB 1 200 (f.getD k ((0, 0), 0, 0)).2.2) := by
      unfold isSprF
      have : (inB 2 40 (f.getD k ((0, 0), 0, 0)).1.1 && inB 2 40 (f.getD k ((0, 0), 0, 0)).1.2 && decide ((f.getD k ((0, 0), 0, 0)).1.1 ≤ (f.getD k ((0, 0), 0, 0)).1.2)) = (inB 2 (f.getD k ((0, 0), 0, 0)).1.2 (f.getD k ((0, 0), 0, 0)).1.1 && !(decide ((f.getD k ((0, 0), 0, 0)).1.2 > 40))) := by
        generalize (f.getD k ((0, 0), 0, 0)).1.1 = a
        generalize (f.getD k ((0, 0), 0, 0)).1.2 = b
        rw [Bool.eq_iff_iff]
        simp only [inB, Bool.and_eq_true, decide_eq_true_eq, Bool.not_eq_true', decide_eq_false_iff_not]
        omega
      rw [this]
    rw [eS] at bad
    have gk : (inB 2 (f.getD k ((0, 0), 0, 0)).1.2 (f.getD k ((0, 0), 0, 0)).1.1 && !(decide ((f.getD k ((0, 0), 0, 0)).1.2 > 40)) && inB 0 4 (f.getD k ((0, 0), 0, 0)).2.1 && inB 1 200 (f.getD k ((0, 0), 0, 0)).2.2) = true → I (k + 1 : Int) ∧ μ (k + 1 : Int) < μ k := fun hh => hI (go hg (by rw [eS]; exact hh))
    refine ⟨by omega, by omega, by omega, by omega, _, rfl, ?_⟩
    show cnd (!(inB 2 (f.getD k ((0, 0), 0, 0)).1.2 (f.getD k ((0, 0), 0, 0)).1.1)) (Q 3) (_ ∧ _ ∧ cnd (decide ((f.getD k ((0, 0), 0, 0)).1.2 > 40)) (Q 3) (_ ∧ _ ∧ ∃ r, (inB 0 4 (f.getD k ((0, 0), 0, 0)).2.1 = r) ∧ cnd (!r) (Q 3) (_ ∧ _ ∧ ∃ r, (inB 1 200 (f.getD k ((0, 0), 0, 0)).2.2 = r) ∧ cnd (!r) (Q 3) _)))
    rw [hw]
    revert bad gk
    generalize inB 2 (f.getD k ((0, 0), 0, 0)).1.2 (f.getD k ((0, 0), 0, 0)).1.1 = a
    generalize decide ((f.getD k ((0, 0), 0, 0)).1.2 > 40) = b
    intro bad gk
    cases a with
    | false => exact bad rfl
    | true =>
      refine ⟨by omega, by omega, ?_⟩
      cases b with
      | true => exact bad rfl
      | false =>
        refine ⟨by omega, by omega, _, rfl, ?_⟩
        revert bad gk
        generalize inB 0 4 (f.getD k ((0, 0), 0, 0)).2.1 = c
        intro bad gk
        cases c with
        | false => exact bad rfl
        | true =>
          refine ⟨by omega, by omega, _, rfl, ?_⟩
          revert bad gk
          generalize inB 1 200 (f.getD k ((0, 0), 0, 0)).2.2 = d
          intro bad gk
          cases d with
          | false => exact bad rfl
          | true => exact gk rfl
  · rw [if_neg (by rw [allT ((0, 0), 0, 0) hg]; simp)] at h; exact h
theorem F5.fok {f : FansT} (h : F5 f) : FOK f := all4_mono (fun x g => ⟨g.1, by omega⟩) h
end Go.Proofs.Fa
set_option linter.unusedVariables false
set_option maxRecDepth 20000
namespace Go.Proofs.Fa
open Go Go.GX Go.Proofs

theorem Bins0.cons {b : BinT} {r : List BinT} (h : Bins0 (b :: r)) : BOK b ∧ (∀ s, F5 s → GX.Fa.fitsB b s = true → 0 ≤ GX.Fa.lossV b s) ∧ Bins0 r :=
  ⟨(h.b.cons).1, h.n b (by simp), (h.b.cons).2, fun c hc => h.n c (by simp [hc]), by have := h.k; simp at this; omega⟩
theorem Bins0.drop {bs : List BinT} (h : Bins0 bs) (k : Nat) : Bins0 (bs.drop k) :=
  ⟨h.b.drop k, fun b hb => h.n b (List.mem_of_mem_drop hb), by have := h.k; rw [List.length_drop]; omega⟩
end Go.Proofs.Fa
set_option linter.unusedVariables false
namespace Go.Proofs.Fa
open Go Go.GX Go.Proofs

end Go.Proofs.Fa
set_option linter.unusedVariables false
namespace Go.Proofs.Fa
open Go Go.GX Go.Proofs

theorem dot_const (s : FansT) (e : Int) : GX.Fa.dot s (tup4 fun _ => e) = sumF s * e := by
  show s.1 * e + s.2.1 * e + s.2.2.1 * e + s.2.2.2 * e = (s.1 + s.2.1 + s.2.2.1 + s.2.2.2) * e
  rw [Int.add_mul, Int.add_mul, Int.add_mul]
theorem isNo_sum {s : FansT} (h : all4 (fun x => 0 ≤ x ∧ x ≤ 4) s) : (GX.Fa.isNo s = true ∧ sumF s = 0) ∨ (GX.Fa.isNo s = false ∧ 1 ≤ sumF s) := by
  obtain ⟨⟨a1, a2⟩, ⟨b1, b2⟩, ⟨c1, c2⟩, ⟨d1, d2⟩⟩ := h
  by_cases g : sumF s = 0
  · refine .inl ⟨?_, g⟩
    unfold sumF at g
    simp only [GX.Fa.isNo, Bool.and_eq_true, beq_iff_eq]
    exact ⟨by omega, by omega, by omega, by omega⟩
  · refine .inr ⟨?_, ?_⟩
    · rw [Bool.eq_false_iff]
      intro hh
      simp only [GX.Fa.isNo, Bool.and_eq_true, beq_iff_eq] at hh
      unfold sumF at g
      omega
    · unfold sumF at g ⊢; omega
theorem leavesR_ok {ls : List Int} {seam : Int} {c : FansT} {each first : Int} (hn : ls.length ≤ 100) (hl : ∀ l, l ∈ ls → bnd 400 l) (hs : bnd 400 seam) (hc : all4 (bnd 400) c) (he : bnd 1000 each) (hf : bnd 1000 first) (h0 : 0 ≤ each) (h1 : 0 ≤ each + first) : Bins0 (leavesR ls seam c each first) := by
  refine ⟨⟨by simp only [leavesR, List.length_map]; omega, fun b hb => ?_⟩, fun b hb s hs5 _ => ?_, by simpa [leavesR] using hn⟩
  · simp only [leavesR, List.mem_map] at hb
    obtain ⟨p, hp, rfl⟩ := hb
    have hp := hl p hp
    refine ⟨all4_tup fun i hi => ?_, all4_tup fun i hi => ?_, ?_, ?_⟩
    · have := all4_at hc hi
      exact ⟨by have := this.1; have := hs.1; omega, by have := this.2; have := hs.2; omega⟩
    · exact ⟨by have := he.1; omega, by have := he.2; omega⟩
    · exact ⟨by show -1000000 ≤ p + seam; have := hp.1; have := hs.1; omega, by show p + seam ≤ 1000000; have := hp.2; have := hs.2; omega⟩
    · exact ⟨by show -1000000 ≤ first; have := hf.1; omega, by show first ≤ 1000000; have := hf.2; omega⟩
  · simp only [leavesR, List.mem_map] at hb
    obtain ⟨p, hp, rfl⟩ := hb
    show 0 ≤ GX.Fa.dot s (tup4 fun _ => each) + (if GX.Fa.isNo s then 0 else first)
    rw [dot_const]
    rcases isNo_sum hs5 with ⟨g1, g2⟩ | ⟨g1, g2⟩
    · rw [g1, g2, if_pos rfl]; omega
    · rw [g1, if_neg (by simp)]
      have := Int.mul_le_mul_of_nonneg_right g2 h0
      omega
theorem lotsR_ok {ls : List Lot} {f : List Spring} {c : FansT} (hn : ls.length ≤ 100) (hl : ∀ l, l ∈ ls → bnd 400 l.1 ∧ bnd 400 l.2) (hsp : ∀ s, s ∈ f → bnd 400 s.2.2) (hc : all4 (bnd 400) c) (h0 : all4 (fun x => 0 ≤ x) c) : Bins0 (lotsR ls f c) := by
  refine ⟨⟨by simp only [lotsR, List.length_map]; omega, fun b hb => ?_⟩, fun b hb s hs5 _ => ?_, by simpa [lotsR] using hn⟩
  · simp only [lotsR, List.mem_map] at hb
    obtain ⟨l, hl', rfl⟩ := hb
    have hl := hl l hl'
    refine ⟨all4_tup fun i hi => ?_, all4_tup fun i hi => ?_, ?_, ⟨by show -1000000 ≤ (0 : Int); omega, by show (0 : Int) ≤ 1000000; omega⟩⟩
    · have := all4_at hc hi
      split
      · split
        · exact ⟨by omega, by omega⟩
        · exact ⟨by have := this.1; omega, by have := this.2; omega⟩
      · exact ⟨by omega, by omega⟩
    · split
      · rename_i hlt
        split
        · exact ⟨by omega, by omega⟩
        · have h1 := all4_at hc hi
          have h2 := hsp _ (getD_mem (d := ((0, 0), 0, 0)) hlt)
          have h3 : bnd 800 (l.1 - (f.getD i ((0, 0), 0, 0)).2.2) := ⟨by have := hl.1.1; have := h2.2; omega, by have := hl.1.2; have := h2.1; omega⟩
          have h4 := bnd_mul (by omega) h1 h3
          exact ⟨by have := h4.1; omega, by have := h4.2; omega⟩
      · exact ⟨by omega, by omega⟩
    · exact ⟨by show -1000000 ≤ l.2; have := hl.2.1; omega, by show l.2 ≤ 1000000; have := hl.2.2; omega⟩
  · simp only [lotsR, List.mem_map] at hb
    obtain ⟨l, hl', rfl⟩ := hb
    have key : all4 (fun x => 0 ≤ x) (lotR f c l).2.1 := all4_tup fun i hi => by
      split
      · split
        · omega
        · rename_i hgt
          exact Int.mul_nonneg (all4_at h0 hi) (by omega)
      · omega
    have : 0 ≤ GX.Fa.dot s (lotR f c l).2.1 := by
      unfold GX.Fa.dot
      have g1 := Int.mul_nonneg hs5.1.1 key.1
      have g2 := Int.mul_nonneg hs5.2.1.1 key.2.1
      have g3 := Int.mul_nonneg hs5.2.2.1.1 key.2.2.1
      have g4 := Int.mul_nonneg hs5.2.2.2.1 key.2.2.2
      omega
    show 0 ≤ GX.Fa.dot s (lotR f c l).2.1 + (if GX.Fa.isNo s then 0 else 0)
    rw [ite_self]; omega
theorem cnt400 {c : FansT} (h : all4 (fun x => 0 ≤ x ∧ x ≤ 40) c) : all4 (bnd 400) c := all4_mono (fun x h => ⟨by omega, by omega⟩) h
theorem cnt0 {c : FansT} (h : all4 (fun x => 0 ≤ x ∧ x ≤ 40) c) : all4 (fun x => 0 ≤ x) c := all4_mono (fun x h => h.1) h
theorem VOK.lv4 {s : Store} {f : List Spring} (v : VOK s f) : ∀ l, l ∈ s.1 → bnd 400 l := fun l hl => by have := v.lv l hl; exact ⟨by omega, by omega⟩
theorem VOK.sm4 {s : Store} {f : List Spring} (v : VOK s f) : bnd 400 s.2.1 := by have := v.sm; exact ⟨by omega, by omega⟩
theorem VOK.lt4 {s : Store} {f : List Spring} (v : VOK s f) : ∀ l, l ∈ s.2.2 → bnd 400 l.1 ∧ bnd 400 l.2 := fun l hl => by have := v.lt l hl; exact ⟨⟨by omega, by omega⟩, ⟨by omega, by omega⟩⟩
theorem VOK.sp4 {s : Store} {f : List Spring} (v : VOK s f) : ∀ s, s ∈ f → bnd 400 s.2.2 := fun x hx => by have := v.sp x hx; exact ⟨by omega, by omega⟩
theorem VOK.lvR {s : Store} {f : List Spring} (v : VOK s f) {c : FansT} (hc : all4 (fun x => 0 ≤ x ∧ x ≤ 40) c) : Bins0 (lvR s c 0 0) :=
  leavesR_ok (by have := v.n6; omega) v.lv4 v.sm4 (cnt400 hc) ⟨by omega, by omega⟩ ⟨by omega, by omega⟩ (by omega) (by omega)
theorem VOK.ltR {s : Store} {f : List Spring} (v : VOK s f) {c : FansT} (hc : all4 (fun x => 0 ≤ x ∧ x ≤ 40) c) : Bins0 (ltR s f c) :=
  lotsR_ok (by have := v.n5; omega) v.lt4 v.sp4 (cnt400 hc) (cnt0 hc)
end Go.Proofs.Fa
set_option linter.unusedVariables false
set_option maxRecDepth 100000
namespace Go.Proofs.Fa
open Go Go.GX Go.Proofs

end Go.Proofs.Fa
set_option linter.unusedVariables false
namespace Go.Proofs.Fa
open Go Go.GX Go.Proofs

theorem le4.F5 {s f : FansT} (h : le4 s f) (hf : F5 f) : F5 s ∧ F5 (GX.Fa.less f s) := by
  obtain ⟨⟨a1, a2⟩, ⟨b1, b2⟩, ⟨c1, c2⟩, ⟨d1, d2⟩⟩ := h
  obtain ⟨⟨a3, a4⟩, ⟨b3, b4⟩, ⟨c3, c4⟩, ⟨d3, d4⟩⟩ := hf
  refine ⟨⟨⟨by omega, by omega⟩, ⟨by omega, by omega⟩, ⟨by omega, by omega⟩, ⟨by omega, by omega⟩⟩, ⟨⟨?_, ?_⟩, ⟨?_, ?_⟩, ⟨?_, ?_⟩, ⟨?_, ?_⟩⟩⟩ <;> simp only [GX.Fa.less] <;> omega
end Go.Proofs.Fa
set_option linter.unusedVariables false
namespace Go.Proofs.Fa
open Go Go.GX Go.Proofs

theorem cH_at {f : List Spring} {i : Nat} (hi : i < 4) : at4 (cH f) i = if i < f.length then (f.getD i ((0, 0), 0, 0)).1.2 else 0 := at4_tup _ hi
theorem want_at {f : List Spring} {i : Nat} (hi : i < 4) : at4 (wantF f) i = if i < f.length then (f.getD i ((0, 0), 0, 0)).2.1 else 0 := at4_tup _ hi
theorem needS_tail {f : List Spring} {c : FansT} {seam ck : Int} : ∀ {i : Nat}, f.length ≤ i → i ≤ 4 → needS c (wantF f) seam ck i = needS c (wantF f) seam ck f.length
  | 0, h, _ => by rw [show f.length = 0 by omega]
  | i + 1, h, h4 => by
    by_cases e : f.length = i + 1
    · rw [e]
    · rw [← needS_tail (i := i) (by omega) (by omega)]
      have e0 : at4 (wantF f) i = 0 := by rw [want_at (by omega), if_neg (by omega)]
      simp only [needS, e0, Int.zero_mul, ite_self, Int.add_zero]
theorem p35 {s : Store} {f : List Spring} {p : Int} {Q : Int × Int × Unit → Prop} (h : f35_wp (s, f, p, ()) () Q) : V35 s f p Q := by
  obtain ⟨⟨hc, hp⟩, h⟩ := h
  have v : VOK s f := vok_of hc
  have hp : 1 ≤ p ∧ p ≤ 200 := inB_iff.1 hp
  have h : Q ((boundS s f p f.length).1, (boundS s f p f.length).2, ()) := h
  have hn6 := v.n6
  have hf4 := v.f4
  have hs := v.sm
  refine forUp2L (σ := Int) (τ := Int) (n := f.length) (fun k => (boundS s f p k).1) (fun k => (boundS s f p k).2) rfl rfl (fun k hk I μ hI hw => ?_) h
  have hk4 : k < 4 := by omega
  have ek : (f.getD k ((0, 0), 0, 0)).1.2 = at4 (cH f) k := by rw [cH_at hk4, if_pos hk]
  refine forUpL (σ := Int) (n := f.length) (needS (cH f) (wantF f) s.2.1 (at4 (cH f) k)) rfl (fun i hi I1 μ1 hI1 hw1 => ?_) ?_
  · have hi4 : i < 4 := by omega
    have ei : (f.getD i ((0, 0), 0, 0)).1.2 = at4 (cH f) i := by rw [cH_at hi4, if_pos hi]
    have wi : (f.getD i ((0, 0), 0, 0)).2.1 = at4 (wantF f) i := by rw [want_at hi4, if_pos hi]
    refine ⟨by omega, by omega, by omega, by omega, ?_⟩
    rw [hw1]
    show cnd (decide ((f.getD i ((0, 0), 0, 0)).1.2 ≥ (f.getD k ((0, 0), 0, 0)).1.2)) (_ ∧ _ ∧ _ ∧ _ ∧ I1 _ (IntKind.wrap .i64 (_ + IntKind.wrap .i64 ((f.getD i ((0, 0), 0, 0)).2.1 * IntKind.wrap .i64 ((f.getD i ((0, 0), 0, 0)).1.2 + s.2.1)))) ∧ μ1 _ (IntKind.wrap .i64 (_ + IntKind.wrap .i64 ((f.getD i ((0, 0), 0, 0)).2.1 * IntKind.wrap .i64 ((f.getD i ((0, 0), 0, 0)).1.2 + s.2.1)))) < _) _
    rw [ei, wi, ek]
    have b1 := needS_bnd (ck := at4 (cH f) k) v.cH v.want4 hs (k := i) (by omega)
    have g1 : 0 ≤ at4 (cH f) i ∧ at4 (cH f) i ≤ 40 := all4_at v.cH hi4
    have g2 : 0 ≤ at4 (wantF f) i ∧ at4 (wantF f) i ≤ 4 := all4_at v.want4 hi4
    have h3 : 0 ≤ at4 (wantF f) i * (at4 (cH f) i + s.2.1) := Int.mul_nonneg g2.1 (by omega)
    have h4 : at4 (wantF f) i * (at4 (cH f) i + s.2.1) ≤ 4 * 50 := Int.mul_le_mul g2.2 (by omega) (by omega) (by omega)
    rw [wrapS (x := at4 (cH f) i + s.2.1) (by omega) (by omega), wrapS (x := at4 (wantF f) i * (at4 (cH f) i + s.2.1)) (by omega) (by omega), wrapS (x := needS _ _ _ _ i + _) (by omega) (by omega)]
    simp only [needS] at hI1
    refine cnd_iff.2 ⟨fun h5 => ⟨by omega, by omega, by omega, by omega, ?_⟩, fun h5 => ?_⟩
    · rw [if_pos (of_decide_eq_true h5)] at hI1; exact hI1
    · rw [if_neg (of_decide_eq_false h5), Int.add_zero] at hI1; exact hI1
  have bN := needS_bnd (ck := at4 (cH f) k) v.cH v.want4 hs (k := 4) (by omega)
  rw [← needS_tail hf4 (Nat.le_refl 4)]
  refine forUpL (σ := Int) (n := s.1.length) (fun j => hasS (s.1.take j) s.2.1 (at4 (cH f) k)) (by simp [hasS]) (fun j hj I2 μ2 hI2 hw2 => ?_) ?_
  · refine ⟨by omega, by omega, by omega, by omega, ?_⟩
    rw [hw2]
    show cnd (decide (s.1.getD j 0 ≥ (f.getD k ((0, 0), 0, 0)).1.2)) (_ ∧ _ ∧ I2 _ (IntKind.wrap .i64 (_ + IntKind.wrap .i64 (s.1.getD j 0 + s.2.1))) ∧ μ2 _ (IntKind.wrap .i64 (_ + IntKind.wrap .i64 (s.1.getD j 0 + s.2.1))) < _) _
    rw [ek]
    have bH := hasS_bnd (ck := at4 (cH f) k) v.lv hs (k := j) (by omega)
    have hg := v.lv _ (getD_mem (d := 0) hj)
    simp only [hasS_succ hj] at hI2
    rw [wrapS (x := s.1.getD j 0 + s.2.1) (by omega) (by omega), wrapS (by omega) (by omega)]
    refine cnd_iff.2 ⟨fun h5 => ⟨by omega, by omega, ?_⟩, fun h5 => ?_⟩
    · rw [if_pos (of_decide_eq_true h5)] at hI2; exact hI2
    · rw [if_neg (of_decide_eq_false h5)] at hI2; exact hI2
  have bH := hasS_bnd (ck := at4 (cH f) k) v.lv hs (k := s.1.length) (by omega)
  rw [List.take_length] at bH ⊢
  obtain ⟨need, hneed⟩ : ∃ x, x = needS (cH f) (wantF f) s.2.1 (at4 (cH f) k) 4 := ⟨_, rfl⟩
  obtain ⟨has, hhas⟩ : ∃ x, x = hasS s.1 s.2.1 (at4 (cH f) k) := ⟨_, rfl⟩
  rw [← hneed] at bN ⊢
  rw [← hhas] at bH ⊢
  obtain ⟨d, hd⟩ : ∃ d, d = p + s.2.1 := ⟨_, rfl⟩
  refine ⟨fun x n => 0 ≤ n ∧ x = has + n * d ∧ (n = 0 ∨ has + (n - 1) * d < need), fun x _ => (need - x).toNat, ⟨Int.le_refl _, by rw [Int.zero_mul, Int.add_zero], .inl rfl⟩, ?_⟩
  rintro x n ⟨hn0, hx, hlt⟩
  have hnd : n ≤ n * d := by
    have := Int.mul_le_mul_of_nonneg_left (show 1 ≤ d by omega) hn0
    omega
  have hsub : (n - 1) * d = n * d - d := by rw [Int.sub_mul, Int.one_mul]
  have hx2 : n * d ≤ 1100 := by
    rcases hlt with rfl | hlt
    · rw [Int.zero_mul]; omega
    · omega
  refine cnd_iff.2 ⟨fun g1 => ?_, fun g1 => ?_⟩
  · have g1 : x < need := of_decide_eq_true g1
    rw [wrapS (x := x + p) (by omega) (by omega), wrapS (x := x + p + s.2.1) (by omega) (by omega), wrapS (x := n + 1) (by omega) (by omega)]
    refine ⟨⟨by omega, ?_, .inr ?_⟩, by dsimp only; omega⟩
    · rw [Int.add_mul, Int.one_mul]; omega
    · rw [show n + 1 - 1 = n by omega, ← hx]; exact g1
  · have g1 : ¬ x < need := of_decide_eq_false g1
    have hm : missB s f k = need - has := by unfold missB; rw [hneed, hhas]
    have eB : boundN s f p k = n := by
      unfold boundN
      rw [hm, ← hd]
      have h0 : 0 ≤ mxI 0 (need - has) := by unfold mxI; split <;> omega
      rw [Int.tdiv_eq_ediv_of_nonneg (by omega)]
      have hle : mxI 0 (need - has) ≤ n * d := by unfold mxI; split <;> omega
      have hgt : n * d < mxI 0 (need - has) + d := by
        rcases hlt with rfl | hlt
        · rw [Int.zero_mul]; omega
        · unfold mxI; split <;> omega
      have a1 : n ≤ (mxI 0 (need - has) + d - 1) / d := Int.le_ediv_of_mul_le (by omega) (by omega)
      have a2 : (mxI 0 (need - has) + d - 1) / d < n + 1 := Int.ediv_lt_of_lt_mul (by omega) (by rw [Int.add_mul, Int.one_mul]; omega)
      omega
    rw [hw]
    simp only [boundS_succ, boundStep] at hI
    rw [eB] at hI
    refine cnd_iff.2 ⟨fun h5 => ?_, fun h5 => ?_⟩
    · rw [if_pos (of_decide_eq_true h5)] at hI; exact hI
    · rw [if_neg (of_decide_eq_false h5)] at hI; exact hI

end Go.Proofs.Fa
set_option maxRecDepth 100000
namespace Go.Proofs.Fa
open Go Go.GX Go.Proofs
variable [Inhabited BaseD]
theorem ok32 : CallsOK Try.prog (assoc glT) 32 f32_ct :=
  callsOK_mkM [] st_ok mp_ok it_ok mk_ok in_ok AllOK.nil no_an Try.func32 (by kernel_rfl) (by kernel_rfl) f32_ct fun ⟨n, a, b, _⟩ _ Q h => (v32 n a b Q).mp (p32 h)
theorem ok22 : CallsOK Try.prog (assoc glT) 22 f22_ct :=
  callsOK_mkM [] st_ok mp_ok it_ok mk_ok in_ok (AllOK.cons ok32 AllOK.nil) f22_an Try.func22 (by kernel_rfl) (by kernel_rfl) f22_ct fun ⟨s, f, _⟩ _ Q h => (v22 s f Q).mp (p22 h)
theorem ok16 : CallsOK Try.prog (assoc glT) 16 f16_ct :=
  callsOK_mkM [] st_ok mp_ok it_ok mk_ok in_ok AllOK.nil no_an Try.func16 (by kernel_rfl) (by kernel_rfl) f16_ct fun ⟨s, f, _⟩ _ Q h => (v16 s f Q).mp (p16 h)
theorem ok18 : CallsOK Try.prog (assoc glT) 18 f18_ct :=
  callsOK_mkM [] st_ok mp_ok it_ok mk_ok in_ok AllOK.nil no_an Try.func18 (by kernel_rfl) (by kernel_rfl) f18_ct fun s _ Q h => (v18 s Q).mp (p18 h)
theorem ok19 : CallsOK Try.prog (assoc glT) 19 f19_ct :=
  callsOK_mkM [] st_ok mp_ok it_ok mk_ok in_ok AllOK.nil no_an Try.func19 (by kernel_rfl) (by kernel_rfl) f19_ct fun f _ Q h => (v19 f Q).mp (p19 h)
theorem ok38 : CallsOK Try.prog (assoc glT) 38 f38_ct :=
  callsOK_mkM [] st_ok mp_ok it_ok mk_ok in_ok AllOK.nil one_an Try.func38 (by kernel_rfl) (by kernel_rfl) f38_ct fun ⟨a, b, _⟩ _ Q h => (v38 a b Q).mp (p38 h)
theorem ok71 : CallsOK Try.prog (assoc glT) 71 f71_ct :=
  callsOK_mkM [] st_ok mp_ok it_ok mk_ok in_ok AllOK.nil one_an Try.func71 (by kernel_rfl) (by kernel_rfl) f71_ct fun ⟨a, b, _⟩ _ Q h => (v71 a b Q).mp (p71 h)
theorem ok70 : CallsOK Try.prog (assoc glT) 70 f70_ct :=
  callsOK_mkM [] st_ok mp_ok it_ok mk_ok in_ok (AllOK.cons ok38 AllOK.nil) one_an Try.func70 (by kernel_rfl) (by kernel_rfl) f70_ct fun ⟨a, b, _⟩ _ Q h => (v70 a b Q).mp (p70 h)
theorem ok23 : CallsOK Try.prog (assoc glT) 23 f23_ct :=
  callsOK_mkM [] st_ok mp_ok it_ok mk_ok in_ok (AllOK.cons ok70 (AllOK.cons ok71 AllOK.nil)) no_an Try.func23 (by kernel_rfl) (by kernel_rfl) f23_ct fun ⟨a, b, f, g, _⟩ _ Q h => (v23 a b f g Q).mp (p23 h)
theorem ok28 : CallsOK Try.prog (assoc glT) 28 f28_ct :=
  callsOK_mkM [] st_ok mp_ok it_ok mk_ok in_ok (AllOK.cons ok38 AllOK.nil) one_an Try.func28 (by kernel_rfl) (by kernel_rfl) f28_ct fun ⟨a, b, _⟩ _ Q h => (v28 a b Q).mp (p28 h)
theorem ok35 : CallsOK Try.prog (assoc glT) 35 f35_ct :=
  callsOK_mkM [] st_ok mp_ok it_ok mk_ok in_ok AllOK.nil f35_an Try.func35 (by kernel_rfl) (by kernel_rfl) f35_ct fun ⟨s, f, p, _⟩ _ Q h => (v35 s f p Q).mp (p35 h)
end Go.Proofs.Fa
namespace Go.Proofs.Fa
open Go Go.GX Go.Proofs

def f55_wp : Int × Int × Unit → Unit → (Int × Int → Prop) → Prop := fun a _ Q => Q (a.1, a.2.1)
def f55_ct : Ct := ⟨arg2 k3 k3, .unit, k69, f55_wp, false, false⟩

def stD : Store := ([30, 28, 34], 2, [(35, 40), (25, 40)])
def spD : List Spring := [((14, 16), 2, 20), ((10, 10), 3, 30)]
def f56_wp : Unit → Unit → (Store → Prop) → Prop := fun _ _ Q => Q stD
def f56_ct : Ct := ⟨.unit, .unit, k25, f56_wp, false, false⟩
def f57_wp : Unit → Unit → (List Spring → Prop) → Prop := fun _ _ Q => Q spD
def f57_ct : Ct := ⟨.unit, .unit, k26, f57_wp, false, true⟩
def f17_wp : Unit → Unit → (Bool → Prop) → Prop := fun _ _ Q => Q true
def f17_ct : Ct := ⟨.unit, .unit, .bool, f17_wp, false, false⟩
def fL2_wp : Store × List Spring × Unit → Unit → (Bool → Prop) → Prop := fun _ _ Q => Q true
def fL2_ct : Ct := ⟨arg2 k25 k26, .unit, .bool, fL2_wp, false, false⟩
def f3_ct : Ct := fL2_ct
def f4_ct : Ct := fL2_ct
def fL3_wp : Store × List Spring × Int × Unit → Unit → (Bool → Prop) → Prop := fun _ _ Q => Q true
def fL3_ct : Ct := ⟨arg3 k25 k26 k3, .unit, .bool, fL3_wp, false, false⟩
def f6_ct : Ct := fL3_ct
end Go.Proofs.Fa
set_option linter.unusedVariables false
set_option maxRecDepth 100000
namespace Go.Proofs.Fa
open Go Go.GX Go.Proofs

def V55 (a : Int) (b : Int) (Q : Int × Int → Prop) : Prop := Q (a, b)
theorem v55 (a : Int) (b : Int) (Q : Int × Int → Prop) : V55 a b Q = vcFunc (S0 [] []) f55_ct.own f55_ct.fresh no_an Try.f55 (bodyOf Try.f55) f55_ct.A f55_ct.C f55_ct.R (a, b, ()) () Q := by kernel_rfl

def V56 (Q : List Int × Int × List (Int × Int) → Prop) : Prop := Q ((30 : Int) :: (28 : Int) :: (34 : Int) :: ([] : List Int), (2 : Int), ((35 : Int), (40 : Int)) :: ((25 : Int), (40 : Int)) :: ([] : List (Int × Int)))
theorem v56 (Q : List Int × Int × List (Int × Int) → Prop) : V56 Q = vcFunc (S0 [] []) f56_ct.own f56_ct.fresh no_an Try.f56 (bodyOf Try.f56) f56_ct.A f56_ct.C f56_ct.R () () Q := by kernel_rfl

def V57 (Q : List Spring → Prop) : Prop := f55_wp ((14 : Int), (16 : Int), ()) () fun (r : Int × Int) ↦ f55_wp ((10 : Int), (10 : Int), ()) () fun (r_1 : Int × Int) ↦ Q (((r.1, r.2), (2 : Int), (20 : Int)) :: ((r_1.1, r_1.2), (3 : Int), (30 : Int)) :: ([] : List Spring))
theorem v57 (Q : List Spring → Prop) : V57 Q = vcFunc (S0 [(55, f55_ct)] [104]) f57_ct.own f57_ct.fresh no_an Try.f57 (bodyOf Try.f57) f57_ct.A f57_ct.C f57_ct.R () () Q := by kernel_rfl

def V17 (Q : Bool → Prop) : Prop := f56_wp () () fun (r : List Int × Int × List (Int × Int)) ↦ f57_wp () () fun (r_1 : List Spring) ↦ f21_wp ((r.1, r.2.1, r.2.2), r_1, ()) () fun (r : List (List Int) × Int × Unit) ↦ f56_wp () () fun (r_2 : List Int × Int × List (Int × Int)) ↦ f57_wp () () fun (r_3 : List Spring) ↦ f29_wp ((r_2.1, r_2.2.1, r_2.2.2), r_3, ()) () fun (r_4 : List (List Int) × Int × Unit) ↦ f56_wp () () fun (r_5 : List Int × Int × List (Int × Int)) ↦ f57_wp () () fun (r_6 : List Spring) ↦ f39_wp ((r_5.1, r_5.2.1, r_5.2.2), r_6, ()) () fun (r_7 : Int × Int × Int × Unit) ↦ f57_wp () () fun (r_8 : List Spring) ↦ (0 : Int) ≤ (0 : Int) ∧ (0 : Int) < (↑(List.length r_8) : Int) ∧ f56_wp () () fun (r_9 : List Int × Int × List (Int × Int)) ↦ f50_wp ((r_9.1, r_9.2.1, r_9.2.2), List.set r_8 (Int.toNat (0 : Int)) ((Prod.fst (Prod.fst (List.getD r_8 (Int.toNat (0 : Int)) (((0 : Int), (0 : Int)), (0 : Int), (0 : Int)))), Prod.snd (Prod.fst (List.getD r_8 (Int.toNat (0 : Int)) (((0 : Int), (0 : Int)), (0 : Int), (0 : Int))))), (3 : Int), Prod.snd (Prod.snd (List.getD r_8 (Int.toNat (0 : Int)) (((0 : Int), (0 : Int)), (0 : Int), (0 : Int))))), ()) () fun (r_10 : List Int × Int × Unit) ↦ f56_wp () () fun (r_11 : List Int × Int × List (Int × Int)) ↦ (0 : Int) ≤ (0 : Int) ∧ (0 : Int) ≤ (2 : Int) ∧ (2 : Int) ≤ (↑(List.length r_11.1) : Int) ∧ ∃ (r_12 : List Spring), (f57_wp () () fun (r' : List Spring) ↦ r' = r_12) ∧ ∃ (r_13 : Int × Int × Unit), (f31_wp ((List.drop (Int.toNat (0 : Int)) (List.take (Int.toNat (2 : Int)) r_11.1), r_11.2.1, r_11.2.2), r_12, (40 : Int), ()) () fun (r' : Int × Int × Unit) ↦ r' = r_13) ∧ ∃ (r_14 : List Spring), (f57_wp () () fun (r' : List Spring) ↦ r' = r_14) ∧ ∃ (r_15 : Int × Int × Int × Unit), (f34_wp ((List.drop (Int.toNat (0 : Int)) (List.take (Int.toNat (2 : Int)) r_11.1), r_11.2.1, r_11.2.2), r_14, (40 : Int), ()) () fun (r' : Int × Int × Int × Unit) ↦ r' = r_15) ∧ f56_wp () () fun (r_16 : List Int × Int × List (Int × Int)) ↦ f57_wp () () fun (r_17 : List Spring) ↦ f36_wp ((r_16.1, r_16.2.1, r_16.2.2), r_17, ((0 : Int) :: ([] : List Int)) :: ((0 : Int) :: ([] : List Int)) :: ((1 : Int) :: (1 : Int) :: (1 : Int) :: ([] : List Int)) :: ([] : List (List Int)), ()) () fun (r_18 : List Int × Int × Unit) ↦ f56_wp () () fun (r_19 : List Int × Int × List (Int × Int)) ↦ f57_wp () () fun (r_20 : List Spring) ↦ f41_wp ((r_19.1, r_19.2.1, r_19.2.2), r_20, (0 : Int), ()) () fun (r_21 : Int × Int × Unit) ↦ cnd (r.2.1 != (0 : Int)) (Q false) (cnd (r_4.2.1 != (0 : Int)) (Q false) (cnd (r_7.2.2.1 != (0 : Int)) (Q false) (cnd (r_10.2.1 != (0 : Int)) (Q false) (cnd (r_13.2.1 != (0 : Int)) (Q false) (cnd (r_15.2.2.1 != (0 : Int)) (Q false) (cnd (r_18.2.1 != (0 : Int)) (Q false) (cnd (r_21.2.1 != (0 : Int)) (Q false) (f28_wp (r.1, ((0 : Int) :: ([] : List Int)) :: ((0 : Int) :: ([] : List Int)) :: ((1 : Int) :: (1 : Int) :: (1 : Int) :: ([] : List Int)) :: ([] : List (List Int)), ()) () fun (r : Bool) ↦ cnd r (f28_wp (r_4.1, ((1 : Int) :: (1 : Int) :: (1 : Int) :: ([] : List Int)) :: ((0 : Int) :: (0 : Int) :: ([] : List Int)) :: ([] : List (List Int)), ()) () fun (r : Bool) ↦ cnd r (cnd (r_7.1 == (4 : Int)) (cnd (r_7.2.1 == (310 : Int)) (f38_wp (r_10.1, (3 : Int) :: (2 : Int) :: ([] : List Int), ()) () fun (r : Bool) ↦ cnd r (cnd (r_13.1 == (1 : Int)) (cnd (r_15.1 == (1 : Int)) (cnd (r_15.2.1 == (1 : Int)) (f38_wp (r_18.1, (12 : Int) :: (10 : Int) :: (0 : Int) :: ([] : List Int), ()) () fun (r : Bool) ↦ cnd r (Q (r_21.1 == (20 : Int))) (Q false)) (Q false)) (Q false)) (Q false)) (Q false)) (Q false)) (Q false)) (Q false)) (Q false)))))))))
theorem v17 (Q : Bool → Prop) : V17 Q = vcFunc (S0 [(56, f56_ct), (57, f57_ct), (21, f21_ct), (29, f29_ct), (39, f39_ct), (50, f50_ct), (31, f31_ct), (34, f34_ct), (36, f36_ct), (41, f41_ct), (28, f28_ct), (38, f38_ct)] []) f17_ct.own f17_ct.fresh no_an Try.f17 (bodyOf Try.f17) f17_ct.A f17_ct.C f17_ct.R () () Q := by kernel_rfl

def V3 (s : List Int × Int × List (Int × Int)) (f : List Spring) (Q : Bool → Prop) : Prop := f16_wp ((s.1, s.2.1, s.2.2), f, ()) () fun (r : Bool) ↦ cnd r (f17_wp () () fun (r : Bool) ↦ Q r) (f18_wp (s.1, s.2.1, s.2.2) () fun (r : List Int × Int × List (Int × Int)) ↦ f19_wp f () fun (r_1 : List Spring) ↦ f20_wp ((r.1, r.2.1, r.2.2), r_1, ()) () fun (r_2 : Int) ↦ f21_wp ((r.1, r.2.1, r.2.2), r_1, ()) () fun (r_3 : List (List Int) × Int × Unit) ↦ f22_wp ((s.1, s.2.1, s.2.2), f, ()) () fun (r_4 : Int) ↦ f23_wp ((r.1, r.2.1, r.2.2), (s.1, s.2.1, s.2.2), r_1, f, ()) () fun (r : Bool) ↦ cnd (!r) (Q false) (cnd (r_2 != r_4) (Q false) (cnd (r_4 == (0 : Int)) (∃ (r : Int × Int × Int × Int), (f26_wp (f, true, ()) () fun (r' : Int × Int × Int × Int) ↦ r' = r) ∧ ∃ (r_5 : List BinT), (f25_wp (s.1, s.2.1, (r.1, r.2.1, r.2.2.1, r.2.2.2), (0 : Int), (1 : Int), ()) () fun (r' : List BinT) ↦ r' = r_5) ∧ ∃ (r : Int × Int × Int × Int), (f27_wp f () fun (r' : Int × Int × Int × Int) ↦ r' = r) ∧ ∃ (r_6 : List (List Int) × Bool × Unit), (f24_wp (r_5, (r.1, r.2.1, r.2.2.1, r.2.2.2), ()) () fun (r' : List (List Int) × Bool × Unit) ↦ r' = r_6) ∧ cnd r_6.2.1 (cnd (r_3.2.1 == (0 : Int)) (f28_wp (r_3.1, r_6.1, ()) () fun (r : Bool) ↦ cnd r (f17_wp () () fun (r : Bool) ↦ Q r) (Q false)) (Q false)) (cnd (r_3.2.1 == (9 : Int)) (List.length r_3.1 ≤ (9223372036854775807 : Nat) → cnd ((↑(List.length r_3.1) : Int) == (0 : Int)) (f17_wp () () fun (r : Bool) ↦ Q r) (Q false)) (Q false))) (cnd (r_3.2.1 == r_4) (List.length r_3.1 ≤ (9223372036854775807 : Nat) → cnd ((↑(List.length r_3.1) : Int) == (0 : Int)) (f17_wp () () fun (r : Bool) ↦ Q r) (Q false)) (Q false)))))
theorem v3 (s : List Int × Int × List (Int × Int)) (f : List Spring) (Q : Bool → Prop) : V3 s f Q = vcFunc (S0 [(16, f16_ct), (17, f17_ct), (18, f18_ct), (19, f19_ct), (20, f20_ct), (21, f21_ct), (22, f22_ct), (23, f23_ct), (26, f26_ct), (25, f25_ct), (27, f27_ct), (24, f24_ct), (28, f28_ct)] []) f3_ct.own f3_ct.fresh no_an Try.f3 (bodyOf Try.f3) f3_ct.A f3_ct.C f3_ct.R (s, f, ()) () Q := by kernel_rfl

def V4 (s : List Int × Int × List (Int × Int)) (f : List Spring) (Q : Bool → Prop) : Prop := f16_wp ((s.1, s.2.1, s.2.2), f, ()) () fun (r : Bool) ↦ cnd r (f17_wp () () fun (r : Bool) ↦ Q r) (f18_wp (s.1, s.2.1, s.2.2) () fun (r : List Int × Int × List (Int × Int)) ↦ f19_wp f () fun (r_1 : List Spring) ↦ f29_wp ((r.1, r.2.1, r.2.2), r_1, ()) () fun (r_2 : List (List Int) × Int × Unit) ↦ f22_wp ((s.1, s.2.1, s.2.2), f, ()) () fun (r_3 : Int) ↦ f23_wp ((r.1, r.2.1, r.2.2), (s.1, s.2.1, s.2.2), r_1, f, ()) () fun (r : Bool) ↦ cnd (!r) (Q false) (cnd (r_3 == (0 : Int)) (∃ (r : Int × Int × Int × Int), (f26_wp (f, true, ()) () fun (r' : Int × Int × Int × Int) ↦ r' = r) ∧ ∃ (r_4 : List BinT), (f30_wp (s.2.2, f, (r.1, r.2.1, r.2.2.1, r.2.2.2), ()) () fun (r' : List BinT) ↦ r' = r_4) ∧ ∃ (r : Int × Int × Int × Int), (f27_wp f () fun (r' : Int × Int × Int × Int) ↦ r' = r) ∧ ∃ (r_5 : List (List Int) × Bool × Unit), (f24_wp (r_4, (r.1, r.2.1, r.2.2.1, r.2.2.2), ()) () fun (r' : List (List Int) × Bool × Unit) ↦ r' = r_5) ∧ cnd r_5.2.1 (cnd (r_2.2.1 == (0 : Int)) (f28_wp (r_2.1, r_5.1, ()) () fun (r : Bool) ↦ cnd r (f17_wp () () fun (r : Bool) ↦ Q r) (Q false)) (Q false)) (cnd (r_2.2.1 == (9 : Int)) (List.length r_2.1 ≤ (9223372036854775807 : Nat) → cnd ((↑(List.length r_2.1) : Int) == (0 : Int)) (f17_wp () () fun (r : Bool) ↦ Q r) (Q false)) (Q false))) (cnd (r_2.2.1 == r_3) (List.length r_2.1 ≤ (9223372036854775807 : Nat) → cnd ((↑(List.length r_2.1) : Int) == (0 : Int)) (f17_wp () () fun (r : Bool) ↦ Q r) (Q false)) (Q false))))
theorem v4 (s : List Int × Int × List (Int × Int)) (f : List Spring) (Q : Bool → Prop) : V4 s f Q = vcFunc (S0 [(16, f16_ct), (17, f17_ct), (18, f18_ct), (19, f19_ct), (29, f29_ct), (22, f22_ct), (23, f23_ct), (26, f26_ct), (30, f30_ct), (27, f27_ct), (24, f24_ct), (28, f28_ct)] []) f4_ct.own f4_ct.fresh no_an Try.f4 (bodyOf Try.f4) f4_ct.A f4_ct.C f4_ct.R (s, f, ()) () Q := by kernel_rfl

def V6 (s : List Int × Int × List (Int × Int)) (f : List Spring) (p : Int) (Q : Bool → Prop) : Prop := f16_wp ((s.1, s.2.1, s.2.2), f, ()) () fun (r : Bool) ↦ cnd r (f17_wp () () fun (r : Bool) ↦ Q r) (f18_wp (s.1, s.2.1, s.2.2) () fun (r : List Int × Int × List (Int × Int)) ↦ f19_wp f () fun (r_1 : List Spring) ↦ f34_wp ((r.1, r.2.1, r.2.2), r_1, p, ()) () fun (r_2 : Int × Int × Int × Unit) ↦ f23_wp ((r.1, r.2.1, r.2.2), (s.1, s.2.1, s.2.2), r_1, f, ()) () fun (r : Bool) ↦ cnd (!r) (Q false) (f22_wp ((s.1, s.2.1, s.2.2), f, ()) () fun (r : Int) ↦ cnd (r == (0 : Int)) (f32_wp (p, (1 : Int), (200 : Int), ()) () fun (r_3 : Bool) ↦ cnd (!r_3) (cnd (r_2.2.2.1 == (7 : Int)) (cnd (r_2.1 == (0 : Int)) (cnd (r_2.2.1 == (0 : Int)) (f17_wp () () fun (r : Bool) ↦ Q r) (Q false)) (Q false)) (Q false)) (cnd (r != (0 : Int)) (cnd (r_2.2.2.1 == r) (cnd (r_2.1 == (0 : Int)) (cnd (r_2.2.1 == (0 : Int)) (f17_wp () () fun (r : Bool) ↦ Q r) (Q false)) (Q false)) (Q false)) (f35_wp ((s.1, s.2.1, s.2.2), f, p, ()) () fun (r : Int × Int × Unit) ↦ cnd (r_2.2.2.1 == (0 : Int)) (cnd (r_2.1 == r.1) (cnd (r_2.2.1 == r.2.1) (f17_wp () () fun (r : Bool) ↦ Q r) (Q false)) (Q false)) (Q false)))) (cnd (r != (0 : Int)) (cnd (r_2.2.2.1 == r) (cnd (r_2.1 == (0 : Int)) (cnd (r_2.2.1 == (0 : Int)) (f17_wp () () fun (r : Bool) ↦ Q r) (Q false)) (Q false)) (Q false)) (f35_wp ((s.1, s.2.1, s.2.2), f, p, ()) () fun (r : Int × Int × Unit) ↦ cnd (r_2.2.2.1 == (0 : Int)) (cnd (r_2.1 == r.1) (cnd (r_2.2.1 == r.2.1) (f17_wp () () fun (r : Bool) ↦ Q r) (Q false)) (Q false)) (Q false)))))
theorem v6 (s : List Int × Int × List (Int × Int)) (f : List Spring) (p : Int) (Q : Bool → Prop) : V6 s f p Q = vcFunc (S0 [(16, f16_ct), (17, f17_ct), (18, f18_ct), (19, f19_ct), (34, f34_ct), (23, f23_ct), (22, f22_ct), (32, f32_ct), (35, f35_ct)] []) f6_ct.own f6_ct.fresh no_an Try.f6 (bodyOf Try.f6) f6_ct.A f6_ct.C f6_ct.R (s, f, p, ()) () Q := by kernel_rfl

end Go.Proofs.Fa
set_option linter.unusedVariables false
set_option maxRecDepth 100000
namespace Go.Proofs.Fa
open Go Go.GX Go.Proofs

theorem p55 {a b : Int} {Q : Int × Int → Prop} (h : f55_wp (a, b, ()) () Q) : V55 a b Q := h
theorem p56 {Q : Store → Prop} (h : f56_wp () () Q) : V56 Q := h
theorem p57 {Q : List Spring → Prop} (h : f57_wp () () Q) : V57 Q := h
def stL : Store := ([30, 28], 2, [(35, 40), (25, 40)])
def spT : List Spring := [((14, 16), 3, 20), ((10, 10), 3, 30)]
theorem d21 : resLeaves stD spD = ([[0], [0], [1, 1, 1]], 0) := by decide +kernel
theorem d29 : resLots stD spD = ([[1, 1, 1], [0, 0]], 0) := by decide +kernel
theorem d39 : resLoss stD spD = (4, 310, 0) := by decide +kernel
theorem d50 : resMost stD spT = ([3, 2], 0) := by decide +kernel
theorem d31 : resNew stL spD 40 = (1, 0) := by decide +kernel
theorem d34 : resBound stL spD 40 = (1, 1, 0) := by decide +kernel
theorem d36 : resRest stD spD [[0], [0], [1, 1, 1]] = ([12, 10, 0], 0) := by decide +kernel
theorem d41 : resRise stD spD 0 = (20, 0) := by decide +kernel
theorem p17 {Q : Bool → Prop} (h : f17_wp () () Q) : V17 Q := by
  have h : Q true := h
  refine ⟨by decide, by decide, by decide, by decide, by decide, _, rfl, _, rfl, _, rfl, _, rfl, ?_⟩
  show cnd ((resLeaves stD spD).2 != 0) (Q false) (cnd ((resLots stD spD).2 != 0) (Q false) (cnd ((resLoss stD spD).2.2 != 0) (Q false) (cnd ((resMost stD spT).2 != 0) (Q false) (cnd ((resNew stL spD 40).2 != 0) (Q false) (cnd ((resBound stL spD 40).2.2 != 0) (Q false) (cnd ((resRest stD spD [[0], [0], [1, 1, 1]]).2 != 0) (Q false) (cnd ((resRise stD spD 0).2 != 0) _
    (cnd (decide ((resLeaves stD spD).1 = [[0], [0], [1, 1, 1]])) (cnd (decide ((resLots stD spD).1 = [[1, 1, 1], [0, 0]])) (cnd ((resLoss stD spD).1 == 4) (cnd ((resLoss stD spD).2.1 == 310) (cnd (decide ((resMost stD spT).1 = [3, 2])) (cnd ((resNew stL spD 40).1 == 1) (cnd ((resBound stL spD 40).1 == 1) (cnd ((resBound stL spD 40).2.1 == 1) (cnd (decide ((resRest stD spD [[0], [0], [1, 1, 1]]).1 = [12, 10, 0])) (Q ((resRise stD spD 0).1 == 20)) (Q false)) (Q false)) (Q false)) (Q false)) (Q false)) (Q false)) (Q false)) (Q false)) (Q false)))))))))
  rw [d21, d29, d39, d50, d31, d34, d36, d41]
  exact h
theorem known {Q : Bool → Prop} (h : Q true) : f17_wp () () fun r => Q r := h
theorem beqT {a b : Int} (h : a = b) : (a == b) = true := by simp [h]
theorem cndE {a b : Int} {p q : Prop} (h : a = b) (hp : p) : cnd (a == b) p q := by rw [beqT h]; exact hp
theorem cndN {a b : Int} {p q : Prop} (h : a = b) (hq : q) : cnd (a != b) p q := by rw [bne, beqT h]; exact hq
theorem cndNe {a b : Int} {p q : Prop} (h : a ≠ b) (hp : p) : cnd (a != b) p q := by
  have : (a != b) = true := by simp [h]
  rw [this]; exact hp
theorem cndEe {a b : Int} {p q : Prop} (h : a ≠ b) (hq : q) : cnd (a == b) p q := by
  have : (a == b) = false := by simp [h]
  rw [this]; exact hq
theorem large_iff {s : Store} {f : List Spring} {Q : Bool → Prop} {T : Prop} (h : Q true) (hT : s.1.length ≤ 8 → s.2.2.length ≤ 8 → f.length ≤ 8 → T) : cnd (decide (8 < s.1.length ∨ 8 < s.2.2.length ∨ 8 < f.length)) (f17_wp () () fun r => Q r) T :=
  cnd_iff.2 ⟨fun _ => known h, fun h1 => by
    have h1 := of_decide_eq_false h1
    exact hT (by omega) (by omega) (by omega)⟩
theorem same_iff {s : Store} {f : List Spring} {p q : Prop} (h : q) : cnd (!(decide (s = s ∧ f = f))) p q := by
  rw [decide_eq_true ⟨rfl, rfl⟩]; exact h
theorem p6 {s : Store} {f : List Spring} {p : Int} {Q : Bool → Prop} (h : fL3_wp (s, f, p, ()) () Q) : V6 s f p Q := by
  have h : Q true := h
  refine large_iff (s := s) (f := f) h fun n1 n2 n3 => ⟨⟨n1, n2⟩, n3, ?_⟩
  show cnd (!(decide (s = s ∧ f = f))) _ (cnd (checkF s f == 0) (cnd (!(inB 1 200 p)) (cnd ((resBound s f p).2.2 == 7) (cnd ((resBound s f p).1 == 0) (cnd ((resBound s f p).2.1 == 0) _ _) _) _) (cnd (checkF s f != 0) _ (_ ∧ cnd ((resBound s f p).2.2 == 0) (cnd ((resBound s f p).1 == (boundF s f p).1) (cnd ((resBound s f p).2.1 == (boundF s f p).2) _ _) _) _)))
    (cnd (checkF s f != 0) (cnd ((resBound s f p).2.2 == checkF s f) (cnd ((resBound s f p).1 == 0) (cnd ((resBound s f p).2.1 == 0) _ _) _) _) _))
  refine same_iff ?_
  by_cases hc : checkF s f = 0
  · refine cndE hc (cnd_iff.2 ⟨fun hp => ?_, fun hp => ?_⟩)
    · have hp : inB 1 200 p = false := by simpa using hp
      have e : resBound s f p = (0, 0, 7) := by unfold resBound; rw [if_neg (by simp [hc]), if_pos hp]
      rw [e]
      exact cndE rfl (cndE rfl (cndE rfl (known h)))
    · have hp : inB 1 200 p = true := by simpa using hp
      have e : resBound s f p = ((boundF s f p).1, (boundF s f p).2, 0) := by unfold resBound; rw [if_neg (by simp [hc]), if_neg (by simp [hp])]
      rw [e]
      exact cndN hc ⟨⟨hc, hp⟩, cndE rfl (cndE rfl (cndE rfl (known h)))⟩
  · have e : resBound s f p = (0, 0, checkF s f) := by unfold resBound; rw [if_pos hc]
    rw [e]
    exact cndEe hc (cndNe hc (cndE rfl (cndE rfl (cndE rfl (known h)))))
end Go.Proofs.Fa
set_option maxRecDepth 100000
set_option maxHeartbeats 0
namespace Go.Proofs.Fa
open Go Go.GX Go.Proofs
variable [Inhabited BaseD]
theorem ok55 : CallsOK Try.prog (assoc glT) 55 f55_ct :=
  callsOK_mkM [] st_ok mp_ok it_ok mk_ok in_ok AllOK.nil no_an Try.func55 (by kernel_rfl) (by kernel_rfl) f55_ct fun ⟨a, b, _⟩ _ Q h => (v55 a b Q).mp (p55 h)
theorem ok56 : CallsOK Try.prog (assoc glT) 56 f56_ct :=
  callsOK_mkM [] st_ok mp_ok it_ok mk_ok in_ok AllOK.nil no_an Try.func56 (by kernel_rfl) (by kernel_rfl) f56_ct fun _ _ Q h => (v56  Q).mp (p56 h)
theorem ok57 : CallsOK Try.prog (assoc glT) 57 f57_ct :=
  callsOK_mkM [104] st_ok mp_ok it_ok mk_ok in_ok (AllOK.cons ok55 AllOK.nil) no_an Try.func57 (by kernel_rfl) (by kernel_rfl) f57_ct fun _ _ Q h => (v57  Q).mp (p57 h)
theorem ok17 : CallsOK Try.prog (assoc glT) 17 f17_ct :=
  callsOK_mkM [] st_ok mp_ok it_ok mk_ok in_ok (AllOK.cons ok56 (AllOK.cons ok57 (AllOK.cons ok21 (AllOK.cons ok29 (AllOK.cons ok39 (AllOK.cons ok50 (AllOK.cons ok31 (AllOK.cons ok34 (AllOK.cons ok36 (AllOK.cons ok41 (AllOK.cons ok28 (AllOK.cons ok38 AllOK.nil)))))))))))) no_an Try.func17 (by kernel_rfl) (by kernel_rfl) f17_ct fun _ _ Q h => (v17  Q).mp (p17 h)
theorem ok6 : CallsOK Try.prog (assoc glT) 6 f6_ct :=
  callsOK_mkM [] st_ok mp_ok it_ok mk_ok in_ok (AllOK.cons ok16 (AllOK.cons ok17 (AllOK.cons ok18 (AllOK.cons ok19 (AllOK.cons ok34 (AllOK.cons ok23 (AllOK.cons ok22 (AllOK.cons ok32 (AllOK.cons ok35 AllOK.nil))))))))) no_an Try.func6 (by kernel_rfl) (by kernel_rfl) f6_ct fun ⟨s, f, p, _⟩ _ Q h => (v6 s f p Q).mp (p6 h)
end Go.Proofs.Fa
