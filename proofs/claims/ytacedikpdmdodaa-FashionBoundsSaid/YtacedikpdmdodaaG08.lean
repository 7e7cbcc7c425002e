/- Part 8 of the texts behind the proof: FaV5, FaP7, FaP8, FaM2, FaP9, FaV6, FaPa, FaPb, FaO3, FaC6, FaV7, FaPc, FaO4. -/
import Derived.Test.YtacedikpdmdodaaG07
import Derived.Test.YtacedikpdmdodaaProg
set_option linter.unusedSimpArgs false
set_option linter.unusedVariables false
set_option linter.unusedSectionVars false
set_option linter.unusedVariables false
set_option maxRecDepth 100000
namespace Go.Proofs.Fa
open Go Go.GX Go.Proofs

def V32 (n : Int) (a : Int) (b : Int) (Q : Bool → Prop) : Prop := cnd (decide (n ≥ a)) (Q (decide (n ≤ b))) (Q false)
theorem v32 (n : Int) (a : Int) (b : Int) (Q : Bool → Prop) : V32 n a b Q = vcFunc (S0 [] []) f32_ct.own f32_ct.fresh no_an Try.f32 (bodyOf Try.f32) f32_ct.A f32_ct.C f32_ct.R (n, a, b, ()) () Q := by kernel_rfl

def V22 (s : List Int × Int × List (Int × Int)) (f : List ((Int × Int) × Int × Int)) (Q : Int → Prop) : Prop := List.length (Prod.fst s) ≤ (9223372036854775807 : Nat) → cnd (decide ((↑(List.length (Prod.fst s)) : Int) > (6 : Int))) (Q (5 : Int)) (List.length (Prod.snd (Prod.snd s)) ≤ (9223372036854775807 : Nat) → cnd (decide ((↑(List.length (Prod.snd (Prod.snd s))) : Int) > (5 : Int))) (Q (5 : Int)) (∃ (I : Int → Prop), ∃ (μ : Int → Nat), I (0 : Int) ∧ ∀ (x : Int), I x → List.length (Prod.fst s) ≤ (9223372036854775807 : Nat) → cnd (decide (x < (↑(List.length (Prod.fst s)) : Int))) ((0 : Int) ≤ x ∧ x < (↑(List.length (Prod.fst s)) : Int) ∧ f32_wp (List.getD (Prod.fst s) (Int.toNat x) (0 : Int), (1 : Int), (200 : Int), ()) () fun (r : Bool) ↦ cnd (!r) (Q (2 : Int)) (I (IntKind.wrap IntKind.i64 (x + (1 : Int))) ∧ μ (IntKind.wrap IntKind.i64 (x + (1 : Int))) < μ x)) (∃ (I : Int → Prop), ∃ (μ : Int → Nat), I (0 : Int) ∧ ∀ (x : Int), I x → List.length (Prod.snd (Prod.snd s)) ≤ (9223372036854775807 : Nat) → cnd (decide (x < (↑(List.length (Prod.snd (Prod.snd s))) : Int))) ((0 : Int) ≤ x ∧ x < (↑(List.length (Prod.snd (Prod.snd s))) : Int) ∧ f32_wp (Prod.fst (List.getD (Prod.snd (Prod.snd s)) (Int.toNat x) ((0 : Int), (0 : Int))), (1 : Int), (200 : Int), ()) () fun (r : Bool) ↦ cnd (!r) (Q (2 : Int)) ((0 : Int) ≤ x ∧ x < (↑(List.length (Prod.snd (Prod.snd s))) : Int) ∧ f32_wp (Prod.snd (List.getD (Prod.snd (Prod.snd s)) (Int.toNat x) ((0 : Int), (0 : Int))), (0 : Int), (200 : Int), ()) () fun (r : Bool) ↦ cnd (!r) (Q (2 : Int)) (I (IntKind.wrap IntKind.i64 (x + (1 : Int))) ∧ μ (IntKind.wrap IntKind.i64 (x + (1 : Int))) < μ x))) (f32_wp (Prod.fst (Prod.snd s), (0 : Int), (10 : Int), ()) () fun (r : Bool) ↦ cnd (!r) (Q (2 : Int)) (List.length f ≤ (9223372036854775807 : Nat) → f32_wp ((↑(List.length f) : Int), (1 : Int), (4 : Int), ()) () fun (r : Bool) ↦ cnd (!r) (Q (4 : Int)) (∃ (I : Int → Prop), ∃ (μ : Int → Nat), I (0 : Int) ∧ ∀ (x : Int), I x → List.length f ≤ (9223372036854775807 : Nat) → cnd (decide (x < (↑(List.length f) : Int))) ((0 : Int) ≤ x ∧ x < (↑(List.length f) : Int) ∧ (0 : Int) ≤ x ∧ x < (↑(List.length f) : Int) ∧ ∃ (r : Bool), (f32_wp (Prod.fst (Prod.fst (List.getD f (Int.toNat x) (((0 : Int), (0 : Int)), (0 : Int), (0 : Int)))), (2 : Int), Prod.snd (Prod.fst (List.getD f (Int.toNat x) (((0 : Int), (0 : Int)), (0 : Int), (0 : Int)))), ()) () fun (r' : Bool) ↦ r' = r) ∧ cnd (!r) (Q (3 : Int)) ((0 : Int) ≤ x ∧ x < (↑(List.length f) : Int) ∧ cnd (decide (Prod.snd (Prod.fst (List.getD f (Int.toNat x) (((0 : Int), (0 : Int)), (0 : Int), (0 : Int)))) > (40 : Int))) (Q (3 : Int)) ((0 : Int) ≤ x ∧ x < (↑(List.length f) : Int) ∧ ∃ (r : Bool), (f32_wp (Prod.fst (Prod.snd (List.getD f (Int.toNat x) (((0 : Int), (0 : Int)), (0 : Int), (0 : Int)))), (0 : Int), (4 : Int), ()) () fun (r' : Bool) ↦ r' = r) ∧ cnd (!r) (Q (3 : Int)) ((0 : Int) ≤ x ∧ x < (↑(List.length f) : Int) ∧ ∃ (r : Bool), (f32_wp (Prod.snd (Prod.snd (List.getD f (Int.toNat x) (((0 : Int), (0 : Int)), (0 : Int), (0 : Int)))), (1 : Int), (200 : Int), ()) () fun (r' : Bool) ↦ r' = r) ∧ cnd (!r) (Q (3 : Int)) (I (IntKind.wrap IntKind.i64 (x + (1 : Int))) ∧ μ (IntKind.wrap IntKind.i64 (x + (1 : Int))) < μ x))))) (Q (0 : Int))))))))
theorem v22 (s : List Int × Int × List (Int × Int)) (f : List ((Int × Int) × Int × Int)) (Q : Int → Prop) : V22 s f Q = vcFunc (S0 [(32, f32_ct)] []) f22_ct.own f22_ct.fresh f22_an Try.f22 (bodyOf Try.f22) f22_ct.A f22_ct.C f22_ct.R (s, f, ()) () Q := by kernel_rfl

def V16 (s : List Int × Int × List (Int × Int)) (f : List ((Int × Int) × Int × Int)) (Q : Bool → Prop) : Prop := List.length (Prod.fst s) ≤ (9223372036854775807 : Nat) → cnd (decide ((↑(List.length (Prod.fst s)) : Int) > (8 : Int))) (Q true) (List.length (Prod.snd (Prod.snd s)) ≤ (9223372036854775807 : Nat) → cnd (decide ((↑(List.length (Prod.snd (Prod.snd s))) : Int) > (8 : Int))) (Q true) (List.length f ≤ (9223372036854775807 : Nat) → Q (decide ((↑(List.length f) : Int) > (8 : Int)))))
theorem v16 (s : List Int × Int × List (Int × Int)) (f : List ((Int × Int) × Int × Int)) (Q : Bool → Prop) : V16 s f Q = vcFunc (S0 [] []) f16_ct.own f16_ct.fresh no_an Try.f16 (bodyOf Try.f16) f16_ct.A f16_ct.C f16_ct.R (s, f, ()) () Q := by kernel_rfl

def V18 (s : List Int × Int × List (Int × Int)) (Q : List Int × Int × List (Int × Int) → Prop) : Prop := (List.length ([] : List Int) + List.length (Prod.fst s)) * (8 : Nat) ≤ (140737488355328 : Nat) ∧ (List.length ([] : List (Int × Int)) + List.length (Prod.snd (Prod.snd s))) * (16 : Nat) ≤ (140737488355328 : Nat) ∧ Q (([] : List Int) ++ Prod.fst s, Prod.fst (Prod.snd s), ([] : List (Int × Int)) ++ Prod.snd (Prod.snd s))
theorem v18 (s : List Int × Int × List (Int × Int)) (Q : List Int × Int × List (Int × Int) → Prop) : V18 s Q = vcFunc (S0 [] []) f18_ct.own f18_ct.fresh no_an Try.f18 (bodyOf Try.f18) f18_ct.A f18_ct.C f18_ct.R s () Q := by kernel_rfl

def V19 (f : List ((Int × Int) × Int × Int)) (Q : List ((Int × Int) × Int × Int) → Prop) : Prop := (List.length ([] : List ((Int × Int) × Int × Int)) + List.length f) * (32 : Nat) ≤ (140737488355328 : Nat) ∧ Q (([] : List ((Int × Int) × Int × Int)) ++ f)
theorem v19 (f : List ((Int × Int) × Int × Int)) (Q : List ((Int × Int) × Int × Int) → Prop) : V19 f Q = vcFunc (S0 [] []) f19_ct.own f19_ct.fresh no_an Try.f19 (bodyOf Try.f19) f19_ct.A f19_ct.C f19_ct.R f () Q := by kernel_rfl

def V38 (a : List Int) (b : List Int) (Q : Bool → Prop) : Prop := List.length a ≤ (9223372036854775807 : Nat) → List.length b ≤ (9223372036854775807 : Nat) → cnd ((↑(List.length a) : Int) != (↑(List.length b) : Int)) (Q false) (∃ (I : Int → Prop), ∃ (μ : Int → Nat), I (0 : Int) ∧ ∀ (x : Int), I x → List.length a ≤ (9223372036854775807 : Nat) → cnd (decide (x < (↑(List.length a) : Int))) ((0 : Int) ≤ x ∧ x < (↑(List.length a) : Int) ∧ (0 : Int) ≤ x ∧ x < (↑(List.length b) : Int) ∧ cnd (List.getD a (Int.toNat x) (0 : Int) != List.getD b (Int.toNat x) (0 : Int)) (Q false) (I (IntKind.wrap IntKind.i64 (x + (1 : Int))) ∧ μ (IntKind.wrap IntKind.i64 (x + (1 : Int))) < μ x)) (Q true))
theorem v38 (a : List Int) (b : List Int) (Q : Bool → Prop) : V38 a b Q = vcFunc (S0 [] []) f38_ct.own f38_ct.fresh one_an Try.f38 (bodyOf Try.f38) f38_ct.A f38_ct.C f38_ct.R (a, b, ()) () Q := by kernel_rfl

def V71 (a : List ((Int × Int) × Int × Int)) (b : List ((Int × Int) × Int × Int)) (Q : Bool → Prop) : Prop := List.length a ≤ (9223372036854775807 : Nat) → List.length b ≤ (9223372036854775807 : Nat) → cnd ((↑(List.length a) : Int) != (↑(List.length b) : Int)) (Q false) (∃ (I : Int → Prop), ∃ (μ : Int → Nat), I (0 : Int) ∧ ∀ (x : Int), I x → List.length a ≤ (9223372036854775807 : Nat) → cnd (decide (x < (↑(List.length a) : Int))) ((0 : Int) ≤ x ∧ x < (↑(List.length a) : Int) ∧ (0 : Int) ≤ x ∧ x < (↑(List.length b) : Int) ∧ cnd (!(Prod.fst (Prod.fst (List.getD a (Int.toNat x) (((0 : Int), (0 : Int)), (0 : Int), (0 : Int)))) == Prod.fst (Prod.fst (List.getD b (Int.toNat x) (((0 : Int), (0 : Int)), (0 : Int), (0 : Int)))) && (Prod.snd (Prod.fst (List.getD a (Int.toNat x) (((0 : Int), (0 : Int)), (0 : Int), (0 : Int)))) == Prod.snd (Prod.fst (List.getD b (Int.toNat x) (((0 : Int), (0 : Int)), (0 : Int), (0 : Int)))) && (Prod.fst (Prod.snd (List.getD a (Int.toNat x) (((0 : Int), (0 : Int)), (0 : Int), (0 : Int)))) == Prod.fst (Prod.snd (List.getD b (Int.toNat x) (((0 : Int), (0 : Int)), (0 : Int), (0 : Int)))) && (Prod.snd (Prod.snd (List.getD a (Int.toNat x) (((0 : Int), (0 : Int)), (0 : Int), (0 : Int)))) == Prod.snd (Prod.snd (List.getD b (Int.toNat x) (((0 : Int), (0 : Int)), (0 : Int), (0 : Int)))) && true))))) (Q false) (I (IntKind.wrap IntKind.i64 (x + (1 : Int))) ∧ μ (IntKind.wrap IntKind.i64 (x + (1 : Int))) < μ x)) (Q true))
theorem v71 (a : List ((Int × Int) × Int × Int)) (b : List ((Int × Int) × Int × Int)) (Q : Bool → Prop) : V71 a b Q = vcFunc (S0 [] []) f71_ct.own f71_ct.fresh one_an Try.f71 (bodyOf Try.f71) f71_ct.A f71_ct.C f71_ct.R (a, b, ()) () Q := by kernel_rfl

def V70 (a : List Int × Int × List (Int × Int)) (b : List Int × Int × List (Int × Int)) (Q : Bool → Prop) : Prop := f38_wp (Prod.fst a, Prod.fst b, ()) () fun (r : Bool) ↦ cnd (!r) (Q false) (cnd (Prod.fst (Prod.snd a) != Prod.fst (Prod.snd b)) (Q false) (List.length (Prod.snd (Prod.snd a)) ≤ (9223372036854775807 : Nat) → List.length (Prod.snd (Prod.snd b)) ≤ (9223372036854775807 : Nat) → cnd ((↑(List.length (Prod.snd (Prod.snd a))) : Int) != (↑(List.length (Prod.snd (Prod.snd b))) : Int)) (Q false) (∃ (I : Int → Prop), ∃ (μ : Int → Nat), I (0 : Int) ∧ ∀ (x : Int), I x → List.length (Prod.snd (Prod.snd a)) ≤ (9223372036854775807 : Nat) → cnd (decide (x < (↑(List.length (Prod.snd (Prod.snd a))) : Int))) ((0 : Int) ≤ x ∧ x < (↑(List.length (Prod.snd (Prod.snd a))) : Int) ∧ (0 : Int) ≤ x ∧ x < (↑(List.length (Prod.snd (Prod.snd b))) : Int) ∧ cnd (!(Prod.fst (List.getD (Prod.snd (Prod.snd a)) (Int.toNat x) ((0 : Int), (0 : Int))) == Prod.fst (List.getD (Prod.snd (Prod.snd b)) (Int.toNat x) ((0 : Int), (0 : Int))) && (Prod.snd (List.getD (Prod.snd (Prod.snd a)) (Int.toNat x) ((0 : Int), (0 : Int))) == Prod.snd (List.getD (Prod.snd (Prod.snd b)) (Int.toNat x) ((0 : Int), (0 : Int))) && true))) (Q false) (I (IntKind.wrap IntKind.i64 (x + (1 : Int))) ∧ μ (IntKind.wrap IntKind.i64 (x + (1 : Int))) < μ x)) (Q true))))
theorem v70 (a : List Int × Int × List (Int × Int)) (b : List Int × Int × List (Int × Int)) (Q : Bool → Prop) : V70 a b Q = vcFunc (S0 [(38, f38_ct)] []) f70_ct.own f70_ct.fresh one_an Try.f70 (bodyOf Try.f70) f70_ct.A f70_ct.C f70_ct.R (a, b, ()) () Q := by kernel_rfl

def V23 (a : List Int × Int × List (Int × Int)) (b : List Int × Int × List (Int × Int)) (f : List ((Int × Int) × Int × Int)) (g : List ((Int × Int) × Int × Int)) (Q : Bool → Prop) : Prop := f70_wp ((Prod.fst a, Prod.fst (Prod.snd a), Prod.snd (Prod.snd a)), (Prod.fst b, Prod.fst (Prod.snd b), Prod.snd (Prod.snd b)), ()) () fun (r : Bool) ↦ cnd r (f71_wp (f, g, ()) () fun (r : Bool) ↦ Q r) (Q false)
theorem v23 (a : List Int × Int × List (Int × Int)) (b : List Int × Int × List (Int × Int)) (f : List ((Int × Int) × Int × Int)) (g : List ((Int × Int) × Int × Int)) (Q : Bool → Prop) : V23 a b f g Q = vcFunc (S0 [(70, f70_ct), (71, f71_ct)] []) f23_ct.own f23_ct.fresh no_an Try.f23 (bodyOf Try.f23) f23_ct.A f23_ct.C f23_ct.R (a, b, f, g, ()) () Q := by kernel_rfl

def V28 (a : List (List Int)) (b : List (List Int)) (Q : Bool → Prop) : Prop := List.length a ≤ (9223372036854775807 : Nat) → List.length b ≤ (9223372036854775807 : Nat) → cnd ((↑(List.length a) : Int) != (↑(List.length b) : Int)) (Q false) (∃ (I : Int → Prop), ∃ (μ : Int → Nat), I (0 : Int) ∧ ∀ (x : Int), I x → List.length a ≤ (9223372036854775807 : Nat) → cnd (decide (x < (↑(List.length a) : Int))) ((0 : Int) ≤ x ∧ x < (↑(List.length a) : Int) ∧ (0 : Int) ≤ x ∧ x < (↑(List.length b) : Int) ∧ ∃ (r : Bool), (f38_wp (List.getD a (Int.toNat x) ([] : List Int), List.getD b (Int.toNat x) ([] : List Int), ()) () fun (r' : Bool) ↦ r' = r) ∧ cnd (!r) (Q false) (I (IntKind.wrap IntKind.i64 (x + (1 : Int))) ∧ μ (IntKind.wrap IntKind.i64 (x + (1 : Int))) < μ x)) (Q true))
theorem v28 (a : List (List Int)) (b : List (List Int)) (Q : Bool → Prop) : V28 a b Q = vcFunc (S0 [(38, f38_ct)] []) f28_ct.own f28_ct.fresh one_an Try.f28 (bodyOf Try.f28) f28_ct.A f28_ct.C f28_ct.R (a, b, ()) () Q := by kernel_rfl

def V35 (s : List Int × Int × List (Int × Int)) (f : List ((Int × Int) × Int × Int)) (p : Int) (Q : Int × Int × Unit → Prop) : Prop := ∃ (I : Int → Int → Int → Prop), ∃ (μ : Int → Int → Int → Nat), I (0 : Int) (0 : Int) (0 : Int) ∧ ∀ (x x_1 x_2 : Int), I x x_1 x_2 → List.length f ≤ (9223372036854775807 : Nat) → cnd (decide (x < (↑(List.length f) : Int))) (∃ (I_1 : Int → Int → Prop), ∃ (μ_1 : Int → Int → Nat), I_1 (0 : Int) (0 : Int) ∧ ∀ (x_3 x_4 : Int), I_1 x_3 x_4 → List.length f ≤ (9223372036854775807 : Nat) → cnd (decide (x_3 < (↑(List.length f) : Int))) ((0 : Int) ≤ x_3 ∧ x_3 < (↑(List.length f) : Int) ∧ (0 : Int) ≤ x ∧ x < (↑(List.length f) : Int) ∧ cnd (decide (Prod.snd (Prod.fst (List.getD f (Int.toNat x_3) (((0 : Int), (0 : Int)), (0 : Int), (0 : Int)))) ≥ Prod.snd (Prod.fst (List.getD f (Int.toNat x) (((0 : Int), (0 : Int)), (0 : Int), (0 : Int)))))) ((0 : Int) ≤ x_3 ∧ x_3 < (↑(List.length f) : Int) ∧ (0 : Int) ≤ x_3 ∧ x_3 < (↑(List.length f) : Int) ∧ I_1 (IntKind.wrap IntKind.i64 (x_3 + (1 : Int))) (IntKind.wrap IntKind.i64 (x_4 + IntKind.wrap IntKind.i64 (Prod.fst (Prod.snd (List.getD f (Int.toNat x_3) (((0 : Int), (0 : Int)), (0 : Int), (0 : Int)))) * IntKind.wrap IntKind.i64 (Prod.snd (Prod.fst (List.getD f (Int.toNat x_3) (((0 : Int), (0 : Int)), (0 : Int), (0 : Int)))) + Prod.fst (Prod.snd s))))) ∧ μ_1 (IntKind.wrap IntKind.i64 (x_3 + (1 : Int))) (IntKind.wrap IntKind.i64 (x_4 + IntKind.wrap IntKind.i64 (Prod.fst (Prod.snd (List.getD f (Int.toNat x_3) (((0 : Int), (0 : Int)), (0 : Int), (0 : Int)))) * IntKind.wrap IntKind.i64 (Prod.snd (Prod.fst (List.getD f (Int.toNat x_3) (((0 : Int), (0 : Int)), (0 : Int), (0 : Int)))) + Prod.fst (Prod.snd s))))) < μ_1 x_3 x_4) (I_1 (IntKind.wrap IntKind.i64 (x_3 + (1 : Int))) x_4 ∧ μ_1 (IntKind.wrap IntKind.i64 (x_3 + (1 : Int))) x_4 < μ_1 x_3 x_4)) (∃ (I_2 : Int → Int → Prop), ∃ (μ_2 : Int → Int → Nat), I_2 (0 : Int) (0 : Int) ∧ ∀ (x_5 x_6 : Int), I_2 x_5 x_6 → List.length (Prod.fst s) ≤ (9223372036854775807 : Nat) → cnd (decide (x_5 < (↑(List.length (Prod.fst s)) : Int))) ((0 : Int) ≤ x_5 ∧ x_5 < (↑(List.length (Prod.fst s)) : Int) ∧ (0 : Int) ≤ x ∧ x < (↑(List.length f) : Int) ∧ cnd (decide (List.getD (Prod.fst s) (Int.toNat x_5) (0 : Int) ≥ Prod.snd (Prod.fst (List.getD f (Int.toNat x) (((0 : Int), (0 : Int)), (0 : Int), (0 : Int)))))) ((0 : Int) ≤ x_5 ∧ x_5 < (↑(List.length (Prod.fst s)) : Int) ∧ I_2 (IntKind.wrap IntKind.i64 (x_5 + (1 : Int))) (IntKind.wrap IntKind.i64 (x_6 + IntKind.wrap IntKind.i64 (List.getD (Prod.fst s) (Int.toNat x_5) (0 : Int) + Prod.fst (Prod.snd s)))) ∧ μ_2 (IntKind.wrap IntKind.i64 (x_5 + (1 : Int))) (IntKind.wrap IntKind.i64 (x_6 + IntKind.wrap IntKind.i64 (List.getD (Prod.fst s) (Int.toNat x_5) (0 : Int) + Prod.fst (Prod.snd s)))) < μ_2 x_5 x_6) (I_2 (IntKind.wrap IntKind.i64 (x_5 + (1 : Int))) x_6 ∧ μ_2 (IntKind.wrap IntKind.i64 (x_5 + (1 : Int))) x_6 < μ_2 x_5 x_6)) (∃ (I_3 : Int → Int → Prop), ∃ (μ_3 : Int → Int → Nat), I_3 x_6 (0 : Int) ∧ ∀ (x_7 x_8 : Int), I_3 x_7 x_8 → cnd (decide (x_7 < x_4)) (I_3 (IntKind.wrap IntKind.i64 (IntKind.wrap IntKind.i64 (x_7 + p) + Prod.fst (Prod.snd s))) (IntKind.wrap IntKind.i64 (x_8 + (1 : Int))) ∧ μ_3 (IntKind.wrap IntKind.i64 (IntKind.wrap IntKind.i64 (x_7 + p) + Prod.fst (Prod.snd s))) (IntKind.wrap IntKind.i64 (x_8 + (1 : Int))) < μ_3 x_7 x_8) (cnd (decide (x_8 > x_1)) (I (IntKind.wrap IntKind.i64 (x + (1 : Int))) x_8 x ∧ μ (IntKind.wrap IntKind.i64 (x + (1 : Int))) x_8 x < μ x x_1 x_2) (I (IntKind.wrap IntKind.i64 (x + (1 : Int))) x_1 x_2 ∧ μ (IntKind.wrap IntKind.i64 (x + (1 : Int))) x_1 x_2 < μ x x_1 x_2))))) (Q (x_1, x_2, ()))
theorem v35 (s : List Int × Int × List (Int × Int)) (f : List ((Int × Int) × Int × Int)) (p : Int) (Q : Int × Int × Unit → Prop) : V35 s f p Q = vcFunc (S0 [] []) f35_ct.own f35_ct.fresh f35_an Try.f35 (bodyOf Try.f35) f35_ct.A f35_ct.C f35_ct.R (s, f, p, ()) () Q := by kernel_rfl

end Go.Proofs.Fa
set_option linter.unusedVariables false
namespace Go.Proofs.Fa
open Go Go.GX Go.Proofs

theorem p32 {n a b : Int} {Q : Bool → Prop} (h : f32_wp (n, a, b, ()) () Q) : V32 n a b Q := by
  have h : Q (inB a b n) := h
  unfold inB at h
  refine cnd_iff.2 ⟨fun h1 => ?_, fun h1 => ?_⟩
  · have h1 : decide (n ≥ a) = true := h1
    have e : decide (a ≤ n) = true := h1
    rw [e] at h; exact h
  · have h1 : decide (n ≥ a) = false := h1
    have e : decide (a ≤ n) = false := h1
    rw [e] at h; exact h
theorem p16 {s : Store} {f : List Spring} {Q : Bool → Prop} (h : f16_wp (s, f, ()) () Q) : V16 s f Q := by
  have h : Q (decide (8 < s.1.length ∨ 8 < s.2.2.length ∨ 8 < f.length)) := h
  intro _
  refine cnd_iff.2 ⟨fun h1 => ?_, fun h1 _ => cnd_iff.2 ⟨fun h2 => ?_, fun h2 _ => ?_⟩⟩
  · have h1 : (s.1.length : Int) > 8 := of_decide_eq_true h1
    rw [decide_eq_true (.inl (by omega))] at h; exact h
  · have h2 : (s.2.2.length : Int) > 8 := of_decide_eq_true h2
    rw [decide_eq_true (.inr (.inl (by omega)))] at h; exact h
  · have h1 : ¬ (s.1.length : Int) > 8 := of_decide_eq_false h1
    have h2 : ¬ (s.2.2.length : Int) > 8 := of_decide_eq_false h2
    have e : decide (8 < s.1.length ∨ 8 < s.2.2.length ∨ 8 < f.length) = decide ((f.length : Int) > 8) := by
      by_cases h3 : (f.length : Int) > 8
      · rw [decide_eq_true h3, decide_eq_true (.inr (.inr (by omega)))]
      · rw [decide_eq_false h3, decide_eq_false (by omega)]
    rwa [e] at h
theorem p18 {s : Store} {Q : Store → Prop} (h : f18_wp s () Q) : V18 s Q := by
  obtain ⟨⟨h1, h2⟩, h⟩ := h
  exact ⟨by simp; omega, by simp; omega, h⟩
theorem p19 {f : List Spring} {Q : List Spring → Prop} (h : f19_wp f () Q) : V19 f Q := by
  obtain ⟨h1, h⟩ := h
  exact ⟨by simp; omega, h⟩
theorem list_ext' {α : Type} {a b : List α} (d : α) (hl : a.length = b.length) (h : ∀ j, j < a.length → a.getD j d = b.getD j d) : a = b := by
  refine List.ext_getElem hl fun j h1 h2 => ?_
  have := h j h1
  rwa [getD_lt h1, getD_lt h2] at this

theorem same_loop {α : Type} [DecidableEq α] {a b : List α} (d : α) {Q : Bool → Prop} (h : Q (decide (a = b))) {T : Int → Prop → Prop → Prop}
    (ht : ∀ (k : Nat) (P1 P2 : Prop), k < a.length → k < b.length → (a.getD k d ≠ b.getD k d → P1) → (a.getD k d = b.getD k d → P2) → T (k : Int) P1 P2) (h1 : a.length ≤ 9223372036854775807 → b.length ≤ 9223372036854775807 → True) :
    a.length ≤ 9223372036854775807 → b.length ≤ 9223372036854775807 → cnd ((a.length : Int) != (b.length : Int)) (Q false)
      (∃ (I : Int → Prop) (μ : Int → Nat), I 0 ∧ ∀ x, I x → a.length ≤ 9223372036854775807 → cnd (decide (x < (a.length : Int))) (0 ≤ x ∧ x < (a.length : Int) ∧ 0 ≤ x ∧ x < (b.length : Int) ∧ T x (Q false) (I (IntKind.wrap .i64 (x + 1)) ∧ μ (IntKind.wrap .i64 (x + 1)) < μ x)) (Q true)) := by
  intro _ _
  refine cnd_iff.2 ⟨fun hl => ?_, fun hl => ?_⟩
  · have : a ≠ b := by
      intro e; rw [e] at hl; simp at hl
    rw [decide_eq_false this] at h; exact h
  have hl : a.length = b.length := by have := eq_of_bne hl; omega
  refine forUpGL (fun k => ∀ j, j < k → a.getD j d = b.getD j d) (fun j hj => absurd hj (Nat.not_lt_zero _)) (fun k hk hg _ I μ hI hw => ?_) (fun hg => ?_)
  · refine ⟨by omega, by omega, by omega, by omega, ?_⟩
    refine ht k _ _ hk (by omega) (fun hne => ?_) (fun he => ?_)
    · have : a ≠ b := by intro e; rw [e] at hne; exact hne rfl
      rw [decide_eq_false this] at h; exact h
    · rw [hw]
      refine hI fun j hj => ?_
      rcases Nat.lt_succ_iff_lt_or_eq.1 hj with h3 | rfl
      · exact hg j h3
      · exact he
  · rw [decide_eq_true (list_ext' d hl hg)] at h; exact h
theorem p38 {a b : List Int} {Q : Bool → Prop} (h : f38_wp (a, b, ()) () Q) : V38 a b Q :=
  same_loop (0 : Int) h (T := fun x P1 P2 => cnd (a.getD x.toNat 0 != b.getD x.toNat 0) P1 P2) (fun k P1 P2 _ _ g1 g2 => cnd_iff.2 ⟨fun e => g1 (ne_of_bne e), fun e => g2 (eq_of_bne e)⟩) fun _ _ => trivial
theorem p28 {a b : List (List Int)} {Q : Bool → Prop} (h : f28_wp (a, b, ()) () Q) : V28 a b Q :=
  same_loop ([] : List Int) h (T := fun x P1 P2 => ∃ r : Bool, (f38_wp (a.getD x.toNat [], b.getD x.toNat [], ()) () fun r' => r' = r) ∧ cnd (!r) P1 P2) (fun k P1 P2 _ _ g1 g2 => ⟨decide (a.getD k [] = b.getD k []), rfl, cnd_iff.2 ⟨fun e => g1 (by simpa using e), fun e => g2 (by simpa using e)⟩⟩) fun _ _ => trivial
theorem lot_eq (p q : Lot) : (p.1 == q.1 && (p.2 == q.2 && true)) = decide (p = q) := by
  obtain ⟨a, b⟩ := p
  obtain ⟨c, d⟩ := q
  by_cases h1 : a = c <;> by_cases h2 : b = d <;> simp [h1, h2]
theorem spr_eq (p q : Spring) : (p.1.1 == q.1.1 && (p.1.2 == q.1.2 && (p.2.1 == q.2.1 && (p.2.2 == q.2.2 && true)))) = decide (p = q) := by
  obtain ⟨⟨a, b⟩, c, d⟩ := p
  obtain ⟨⟨a', b'⟩, c', d'⟩ := q
  by_cases h1 : a = a' <;> by_cases h2 : b = b' <;> by_cases h3 : c = c' <;> by_cases h4 : d = d' <;> simp [h1, h2, h3, h4]
theorem p71 {a b : List Spring} {Q : Bool → Prop} (h : f71_wp (a, b, ()) () Q) : V71 a b Q :=
  same_loop (((0, 0), 0, 0) : Spring) h (T := fun x P1 P2 => cnd (!((a.getD x.toNat ((0, 0), 0, 0)).1.1 == (b.getD x.toNat ((0, 0), 0, 0)).1.1 && ((a.getD x.toNat ((0, 0), 0, 0)).1.2 == (b.getD x.toNat ((0, 0), 0, 0)).1.2 && ((a.getD x.toNat ((0, 0), 0, 0)).2.1 == (b.getD x.toNat ((0, 0), 0, 0)).2.1 && ((a.getD x.toNat ((0, 0), 0, 0)).2.2 == (b.getD x.toNat ((0, 0), 0, 0)).2.2 && true))))) P1 P2)
    (fun k P1 P2 _ _ g1 g2 => by
      show cnd (!((a.getD k ((0, 0), 0, 0)).1.1 == (b.getD k ((0, 0), 0, 0)).1.1 && ((a.getD k ((0, 0), 0, 0)).1.2 == (b.getD k ((0, 0), 0, 0)).1.2 && ((a.getD k ((0, 0), 0, 0)).2.1 == (b.getD k ((0, 0), 0, 0)).2.1 && ((a.getD k ((0, 0), 0, 0)).2.2 == (b.getD k ((0, 0), 0, 0)).2.2 && true))))) P1 P2
      rw [spr_eq]
      exact cnd_iff.2 ⟨fun e => g1 (by simpa using e), fun e => g2 (by simpa using e)⟩) fun _ _ => trivial
theorem p70 {a b : Store} {Q : Bool → Prop} (h : f70_wp (a, b, ()) () Q) : V70 a b Q := by
  have h : Q (decide (a = b)) := h
  show cnd (!(decide (a.1 = b.1))) (Q false) (cnd (a.2.1 != b.2.1) (Q false) _)
  refine cnd_iff.2 ⟨fun h1 => ?_, fun h1 => cnd_iff.2 ⟨fun h2 => ?_, fun h2 => ?_⟩⟩
  · have h1 : a.1 ≠ b.1 := by simpa using h1
    rw [decide_eq_false (fun e => h1 (by rw [e]))] at h; exact h
  · have h2 := ne_of_bne h2
    rw [decide_eq_false (fun e => h2 (by rw [e]))] at h; exact h
  have e1 : a.1 = b.1 := by simpa using h1
  have e2 : a.2.1 = b.2.1 := eq_of_bne h2
  have e : decide (a = b) = decide (a.2.2 = b.2.2) := by
    rw [Bool.eq_iff_iff, decide_eq_true_eq, decide_eq_true_eq]
    exact ⟨fun h => by rw [h], fun h => Prod.ext e1 (Prod.ext e2 h)⟩
  rw [e] at h
  exact same_loop ((0, 0) : Lot) h (T := fun x P1 P2 => cnd (!((a.2.2.getD x.toNat (0, 0)).1 == (b.2.2.getD x.toNat (0, 0)).1 && ((a.2.2.getD x.toNat (0, 0)).2 == (b.2.2.getD x.toNat (0, 0)).2 && true))) P1 P2)
    (fun k P1 P2 _ _ g1 g2 => by
      show cnd (!((a.2.2.getD k (0, 0)).1 == (b.2.2.getD k (0, 0)).1 && ((a.2.2.getD k (0, 0)).2 == (b.2.2.getD k (0, 0)).2 && true))) P1 P2
      rw [lot_eq]
      exact cnd_iff.2 ⟨fun e => g1 (by simpa using e), fun e => g2 (by simpa using e)⟩) fun _ _ => trivial
theorem p23 {a b : Store} {f g : List Spring} {Q : Bool → Prop} (h : f23_wp (a, b, f, g, ()) () Q) : V23 a b f g Q := by
  have h : Q (decide (a = b ∧ f = g)) := h
  show cnd (decide (a = b)) (Q (decide (f = g))) (Q false)
  refine cnd_iff.2 ⟨fun h1 => ?_, fun h1 => ?_⟩
  · have h1 : a = b := of_decide_eq_true h1
    have e : decide (a = b ∧ f = g) = decide (f = g) := by simp [h1]
    rwa [e] at h
  · have h1 : ¬ a = b := of_decide_eq_false h1
    rw [decide_eq_false (fun e => h1 e.1)] at h; exact h
theorem p22 {s : Store} {f : List Spring} {Q : Int → Prop} (h : f22_wp (s, f, ()) () Q) : V22 s f Q := by
  have h : Q (checkF s f) := h
  unfold checkF at h
  intro _
  refine cnd_iff.2 ⟨fun h1 => ?_, fun h1 _ => cnd_iff.2 ⟨fun h2 => ?_, fun h2 => ?_⟩⟩
  · have h1 : (s.1.length : Int) > 6 := of_decide_eq_true h1
    rw [if_pos (.inl (by omega))] at h; exact h
  · have h2 : (s.2.2.length : Int) > 5 := of_decide_eq_true h2
    rw [if_pos (.inr (by omega))] at h; exact h
  have h1 : ¬ (s.1.length : Int) > 6 := of_decide_eq_false h1
  have h2 : ¬ (s.2.2.length : Int) > 5 := of_decide_eq_false h2
  rw [if_neg (by omega)] at h
  have mem : ∀ {α : Type} {l : List α} {p : α → Bool} (d : α) {k : Nat}, k < l.length → p (l.getD k d) = false → l.all p = false := fun {α l p} d {k} hk hp => by
    rw [List.all_eq_false]; exact ⟨_, getD_mem hk, by rw [hp]; simp⟩
  have allT : ∀ {α : Type} {l : List α} {p : α → Bool} (d : α), (∀ j, j < l.length → p (l.getD j d) = true) → l.all p = true := fun {α l p} d hp => by
    rw [List.all_eq_true]
    intro x hx
    obtain ⟨j, hj, rfl⟩ := List.mem_iff_getElem.1 hx
    have := hp j hj
    rwa [getD_lt hj] at this
  have go : ∀ {p : Nat → Prop} {k : Nat}, (∀ j, j < k → p j) → p k → ∀ j, j < k + 1 → p j := fun {p k} hg hk j hj => by
    rcases Nat.lt_succ_iff_lt_or_eq.1 hj with h3 | rfl
    · exact hg j h3
    · exact hk
  refine forUpGL (fun k => ∀ j, j < k → inB 1 200 (s.1.getD j 0) = true) (fun j hj => absurd hj (Nat.not_lt_zero _)) (fun k hk hg _ I μ hI hw => ?_) (fun hg => ?_)
  · refine ⟨by omega, by omega, ?_⟩
    show cnd (!(inB 1 200 (s.1.getD k 0))) (Q 2) _
    refine cnd_iff.2 ⟨fun h3 => ?_, fun h3 => ?_⟩
    · rw [if_pos (.inl (mem 0 hk (by simpa using h3)))] at h; exact h
    · rw [hw]; exact hI (go hg (by simpa using h3))
  have l1 : s.1.all (inB 1 200) = true := allT 0 hg
  refine forUpGL (fun k => ∀ j, j < k → isLotF (s.2.2.getD j (0, 0)) = true) (fun j hj => absurd hj (Nat.not_lt_zero _)) (fun k hk hg _ I μ hI hw => ?_) (fun hg => ?_)
  · refine ⟨by omega, by omega, ?_⟩
    show cnd (!(inB 1 200 (s.2.2.getD k (0, 0)).1)) (Q 2) (_ ∧ _ ∧ cnd (!(inB 0 200 (s.2.2.getD k (0, 0)).2)) (Q 2) _)
    refine cnd_iff.2 ⟨fun h3 => ?_, fun h3 => ⟨by omega, by omega, cnd_iff.2 ⟨fun h4 => ?_, fun h4 => ?_⟩⟩⟩
    · have h3 : inB 1 200 (s.2.2.getD k (0, 0)).1 = false := by simpa using h3
      rw [if_pos (.inr (.inr (mem (0, 0) hk (by unfold isLotF; rw [h3]; rfl))))] at h; exact h
    · have h3 : inB 1 200 (s.2.2.getD k (0, 0)).1 = true := by simpa using h3
      have h4 : inB 0 200 (s.2.2.getD k (0, 0)).2 = false := by simpa using h4
      rw [if_pos (.inr (.inr (mem (0, 0) hk (by unfold isLotF; rw [h3, h4]; rfl))))] at h; exact h
    · have h3 : inB 1 200 (s.2.2.getD k (0, 0)).1 = true := by simpa using h3
      have h4 : inB 0 200 (s.2.2.getD k (0, 0)).2 = true := by simpa using h4
      rw [hw]; exact hI (go hg (by unfold isLotF; rw [h3, h4]; rfl))
  have l2 : s.2.2.all isLotF = true := allT (0, 0) hg
  show cnd (!(inB 0 10 s.2.1)) (Q 2) _
  refine cnd_iff.2 ⟨fun h3 => ?_, fun h3 _ => ?_⟩
  · rw [if_pos (.inr (.inl (by simpa using h3)))] at h; exact h
  have h3 : inB 0 10 s.2.1 = true := by simpa using h3
  rw [if_neg (by rw [l1, l2, h3]; simp)] at h
  show cnd (!(inB 1 4 (f.length : Int))) (Q 4) _
  refine cnd_iff.2 ⟨fun h4 => ?_, fun h4 => ?_⟩
  · rw [if_pos (by simpa using h4)] at h; exact h
  have h4 : inB 1 4 (f.length : Int) = true := by simpa using h4
  rw [if_neg (by rw [h4]; simp)] at h
  refine forUpGL (fun k => ∀ j, j < k → isSprF (f.getD j ((0, 0), 0, 0)) = true) (fun j hj => absurd hj (Nat.not_lt_zero _)) (fun k hk hg _ I μ hI hw => ?_) (fun hg => ?_)
  · have bad : isSprF (f.getD k ((0, 0), 0, 0)) = false → Q 3 := fun hb => by
      rw [if_pos (mem ((0, 0), 0, 0) hk hb)] at h; exact h
    have eS : isSprF (f.getD k ((0, 0), 0, 0)) = (inB 2 (f.getD k ((0, 0), 0, 0)).1.2 (f.getD k ((0, 0), 0, 0)).1.1 && !(decide ((f.getD k ((0, 0), 0, 0)).1.2 > 40)) && inB 0 4 (f.getD k ((0, 0), 0, 0)).2.1 && inB 1 200 (f.getD k ((0, 0), 0, 0)).2.2) := by
      unfold isSprF
      have : (inB 2 40 (f.getD k ((0, 0), 0, 0)).1.1 && inB 2 40 (f.getD k ((0, 0), 0, 0)).1.2 && decide ((f.getD k ((0, 0), 0, 0)).1.1 ≤ (f.getD k ((0, 0), 0, 0)).1.2)) = (inB 2 (f.getD k ((0, 0), 0, 0)).1.2 (f.getD k ((0, 0), 0, 0)).1.1 && !(decide ((f.getD k ((0, 0), 0, 0)).1.2 > 40))) := by
        generalize (f.getD k ((0, 0), 0, 0)).1.1 = a
        generalize (f.getD k ((0, 0), 0, 0)).1.2 = b
        rw [Bool.eq_iff_iff]
        simp only [inB, Bool.and_eq_true, decide_eq_true_eq, Bool.not_eq_true', decide_eq_false_iff_not]
        omega
      rw [this]
    rw [eS] at bad
    have gk : (inB 2 (f.getD k ((0, 0), 0, 0)).1.2 (f.getD k ((0, 0), 0, 0)).1.1 && !(decide ((f.getD k ((0, 0), 0, 0)).1.2 > 40)) && inB 0 4 (f.getD k ((0, 0), 0, 0)).2.1 && inB 1 200 (f.getD k ((0, 0), 0, 0)).2.2) = true → I (k + 1 : Int) ∧ μ (k + 1 : Int) < μ k := fun hh => hI (go hg (by rw [eS]; exact hh))
    refine ⟨by omega, by omega, by omega, by omega, _, rfl, ?_⟩
    show cnd (!(inB 2 (f.getD k ((0, 0), 0, 0)).1.2 (f.getD k ((0, 0), 0, 0)).1.1)) (Q 3) (_ ∧ _ ∧ cnd (decide ((f.getD k ((0, 0), 0, 0)).1.2 > 40)) (Q 3) (_ ∧ _ ∧ ∃ r, (inB 0 4 (f.getD k ((0, 0), 0, 0)).2.1 = r) ∧ cnd (!r) (Q 3) (_ ∧ _ ∧ ∃ r, (inB 1 200 (f.getD k ((0, 0), 0, 0)).2.2 = r) ∧ cnd (!r) (Q 3) _)))
    rw [hw]
    revert bad gk
    generalize inB 2 (f.getD k ((0, 0), 0, 0)).1.2 (f.getD k ((0, 0), 0, 0)).1.1 = a
    generalize decide ((f.getD k ((0, 0), 0, 0)).1.2 > 40) = b
    intro bad gk
    cases a with
    | false => exact bad rfl
    | true =>
      refine ⟨by omega, by omega, ?_⟩
      cases b with
      | true => exact bad rfl
      | false =>
        refine ⟨by omega, by omega, _, rfl, ?_⟩
        revert bad gk
        generalize inB 0 4 (f.getD k ((0, 0), 0, 0)).2.1 = c
        intro bad gk
        cases c with
        | false => exact bad rfl
        | true =>
          refine ⟨by omega, by omega, _, rfl, ?_⟩
          revert bad gk
          generalize inB 1 200 (f.getD k ((0, 0), 0, 0)).2.2 = d
          intro bad gk
          cases d with
          | false => exact bad rfl
          | true => exact gk rfl
  · rw [if_neg (by rw [allT ((0, 0), 0, 0) hg]; simp)] at h; exact h
theorem F5.fok {f : FansT} (h : F5 f) : FOK f := all4_mono (fun x g => ⟨g.1, by omega⟩) h
end Go.Proofs.Fa
set_option linter.unusedVariables false
set_option maxRecDepth 20000
namespace Go.Proofs.Fa
open Go Go.GX Go.Proofs

theorem Bins0.cons {b : BinT} {r : List BinT} (h : Bins0 (b :: r)) : BOK b ∧ (∀ s, F5 s → GX.Fa.fitsB b s = true → 0 ≤ GX.Fa.lossV b s) ∧ Bins0 r :=
  ⟨(h.b.cons).1, h.n b (by simp), (h.b.cons).2, fun c hc => h.n c (by simp [hc]), by have := h.k; simp at this; omega⟩
theorem Bins0.drop {bs : List BinT} (h : Bins0 bs) (k : Nat) : Bins0 (bs.drop k) :=
  ⟨h.b.drop k, fun b hb => h.n b (List.mem_of_mem_drop hb), by have := h.k; rw [List.length_drop]; omega⟩
end Go.Proofs.Fa
set_option linter.unusedVariables false
namespace Go.Proofs.Fa
open Go Go.GX Go.Proofs

end Go.Proofs.Fa
set_option linter.unusedVariables false
namespace Go.Proofs.Fa
open Go Go.GX Go.Proofs

theorem dot_const (s : FansT) (e : Int) : GX.Fa.dot s (tup4 fun _ => e) = sumF s * e := by
  show s.1 * e + s.2.1 * e + s.2.2.1 * e + s.2.2.2 * e = (s.1 + s.2.1 + s.2.2.1 + s.2.2.2) * e
  rw [Int.add_mul, Int.add_mul, Int.add_mul]
theorem isNo_sum {s : FansT} (h : all4 (fun x => 0 ≤ x ∧ x ≤ 4) s) : (GX.Fa.isNo s = true ∧ sumF s = 0) ∨ (GX.Fa.isNo s = false ∧ 1 ≤ sumF s) := by
  obtain ⟨⟨a1, a2⟩, ⟨b1, b2⟩, ⟨c1, c2⟩, ⟨d1, d2⟩⟩ := h
  by_cases g : sumF s = 0
  · refine .inl ⟨?_, g⟩
    unfold sumF at g
    simp only [GX.Fa.isNo, Bool.and_eq_true, beq_iff_eq]
    exact ⟨by omega, by omega, by omega, by omega⟩
  · refine .inr ⟨?_, ?_⟩
    · rw [Bool.eq_false_iff]
      intro hh
      simp only [GX.Fa.isNo, Bool.and_eq_true, beq_iff_eq] at hh
      unfold sumF at g
      omega
    · unfold sumF at g ⊢; omega
theorem leavesR_ok {ls : List Int} {seam : Int} {c : FansT} {each first : Int} (hn : ls.length ≤ 100) (hl : ∀ l, l ∈ ls → bnd 400 l) (hs : bnd 400 seam) (hc : all4 (bnd 400) c) (he : bnd 1000 each) (hf : bnd 1000 first) (h0 : 0 ≤ each) (h1 : 0 ≤ each + first) : Bins0 (leavesR ls seam c each first) := by
  refine ⟨⟨by simp only [leavesR, List.length_map]; omega, fun b hb => ?_⟩, fun b hb s hs5 _ => ?_, by simpa [leavesR] using hn⟩
  · simp only [leavesR, List.mem_map] at hb
    obtain ⟨p, hp, rfl⟩ := hb
    have hp := hl p hp
    refine ⟨all4_tup fun i hi => ?_, all4_tup fun i hi => ?_, ?_, ?_⟩
    · have := all4_at hc hi
      exact ⟨by have := this.1; have := hs.1; omega, by have := this.2; have := hs.2; omega⟩
    · exact ⟨by have := he.1; omega, by have := he.2; omega⟩
    · exact ⟨by show -1000000 ≤ p + seam; have := hp.1; have := hs.1; omega, by show p + seam ≤ 1000000; have := hp.2; have := hs.2; omega⟩
    · exact ⟨by show -1000000 ≤ first; have := hf.1; omega, by show first ≤ 1000000; have := hf.2; omega⟩
  · simp only [leavesR, List.mem_map] at hb
    obtain ⟨p, hp, rfl⟩ := hb
    show 0 ≤ GX.Fa.dot s (tup4 fun _ => each) + (if GX.Fa.isNo s then 0 else first)
    rw [dot_const]
    rcases isNo_sum hs5 with ⟨g1, g2⟩ | ⟨g1, g2⟩
    · rw [g1, g2, if_pos rfl]; omega
    · rw [g1, if_neg (by simp)]
      have := Int.mul_le_mul_of_nonneg_right g2 h0
      omega
theorem lotsR_ok {ls : List Lot} {f : List Spring} {c : FansT} (hn : ls.length ≤ 100) (hl : ∀ l, l ∈ ls → bnd 400 l.1 ∧ bnd 400 l.2) (hsp : ∀ s, s ∈ f → bnd 400 s.2.2) (hc : all4 (bnd 400) c) (h0 : all4 (fun x => 0 ≤ x) c) : Bins0 (lotsR ls f c) := by
  refine ⟨⟨by simp only [lotsR, List.length_map]; omega, fun b hb => ?_⟩, fun b hb s hs5 _ => ?_, by simpa [lotsR] using hn⟩
  · simp only [lotsR, List.mem_map] at hb
    obtain ⟨l, hl', rfl⟩ := hb
    have hl := hl l hl'
    refine ⟨all4_tup fun i hi => ?_, all4_tup fun i hi => ?_, ?_, ⟨by show -1000000 ≤ (0 : Int); omega, by show (0 : Int) ≤ 1000000; omega⟩⟩
    · have := all4_at hc hi
      split
      · split
        · exact ⟨by omega, by omega⟩
        · exact ⟨by have := this.1; omega, by have := this.2; omega⟩
      · exact ⟨by omega, by omega⟩
    · split
      · rename_i hlt
        split
        · exact ⟨by omega, by omega⟩
        · have h1 := all4_at hc hi
          have h2 := hsp _ (getD_mem (d := ((0, 0), 0, 0)) hlt)
          have h3 : bnd 800 (l.1 - (f.getD i ((0, 0), 0, 0)).2.2) := ⟨by have := hl.1.1; have := h2.2; omega, by have := hl.1.2; have := h2.1; omega⟩
          have h4 := bnd_mul (by omega) h1 h3
          exact ⟨by have := h4.1; omega, by have := h4.2; omega⟩
      · exact ⟨by omega, by omega⟩
    · exact ⟨by show -1000000 ≤ l.2; have := hl.2.1; omega, by show l.2 ≤ 1000000; have := hl.2.2; omega⟩
  · simp only [lotsR, List.mem_map] at hb
    obtain ⟨l, hl', rfl⟩ := hb
    have key : all4 (fun x => 0 ≤ x) (lotR f c l).2.1 := all4_tup fun i hi => by
      split
      · split
        · omega
        · rename_i hgt
          exact Int.mul_nonneg (all4_at h0 hi) (by omega)
      · omega
    have : 0 ≤ GX.Fa.dot s (lotR f c l).2.1 := by
      unfold GX.Fa.dot
      have g1 := Int.mul_nonneg hs5.1.1 key.1
      have g2 := Int.mul_nonneg hs5.2.1.1 key.2.1
      have g3 := Int.mul_nonneg hs5.2.2.1.1 key.2.2.1
      have g4 := Int.mul_nonneg hs5.2.2.2.1 key.2.2.2
      omega
    show 0 ≤ GX.Fa.dot s (lotR f c l).2.1 + (if GX.Fa.isNo s then 0 else 0)
    rw [ite_self]; omega
theorem cnt400 {c : FansT} (h : all4 (fun x => 0 ≤ x ∧ x ≤ 40) c) : all4 (bnd 400) c := all4_mono (fun x h => ⟨by omega, by omega⟩) h
theorem cnt0 {c : FansT} (h : all4 (fun x => 0 ≤ x ∧ x ≤ 40) c) : all4 (fun x => 0 ≤ x) c := all4_mono (fun x h => h.1) h
theorem VOK.lv4 {s : Store} {f : List Spring} (v : VOK s f) : ∀ l, l ∈ s.1 → bnd 400 l := fun l hl => by have := v.lv l hl; exact ⟨by omega, by omega⟩
theorem VOK.sm4 {s : Store} {f : List Spring} (v : VOK s f) : bnd 400 s.2.1 := by have := v.sm; exact ⟨by omega, by omega⟩
theorem VOK.lt4 {s : Store} {f : List Spring} (v : VOK s f) : ∀ l, l ∈ s.2.2 → bnd 400 l.1 ∧ bnd 400 l.2 := fun l hl => by have := v.lt l hl; exact ⟨⟨by omega, by omega⟩, ⟨by omega, by omega⟩⟩
theorem VOK.sp4 {s : Store} {f : List Spring} (v : VOK s f) : ∀ s, s ∈ f → bnd 400 s.2.2 := fun x hx => by have := v.sp x hx; exact ⟨by omega, by omega⟩
theorem VOK.lvR {s : Store} {f : List Spring} (v : VOK s f) {c : FansT} (hc : all4 (fun x => 0 ≤ x ∧ x ≤ 40) c) : Bins0 (lvR s c 0 0) :=
  leavesR_ok (by have := v.n6; omega) v.lv4 v.sm4 (cnt400 hc) ⟨by omega, by omega⟩ ⟨by omega, by omega⟩ (by omega) (by omega)
theorem VOK.ltR {s : Store} {f : List Spring} (v : VOK s f) {c : FansT} (hc : all4 (fun x => 0 ≤ x ∧ x ≤ 40) c) : Bins0 (ltR s f c) :=
  lotsR_ok (by have := v.n5; omega) v.lt4 v.sp4 (cnt400 hc) (cnt0 hc)
end Go.Proofs.Fa
set_option linter.unusedVariables false
set_option maxRecDepth 100000
namespace Go.Proofs.Fa
open Go Go.GX Go.Proofs

end Go.Proofs.Fa
set_option linter.unusedVariables false
namespace Go.Proofs.Fa
open Go Go.GX Go.Proofs

theorem le4.F5 {s f : FansT} (h : le4 s f) (hf : F5 f) : F5 s ∧ F5 (GX.Fa.less f s) := by
  obtain ⟨⟨a1, a2⟩, ⟨b1, b2⟩, ⟨c1, c2⟩, ⟨d1, d2⟩⟩ := h
  obtain ⟨⟨a3, a4⟩, ⟨b3, b4⟩, ⟨c3, c4⟩, ⟨d3, d4⟩⟩ := hf
  refine ⟨⟨⟨by omega, by omega⟩, ⟨by omega, by omega⟩, ⟨by omega, by omega⟩, ⟨by omega, by omega⟩⟩, ⟨⟨?_, ?_⟩, ⟨?_, ?_⟩, ⟨?_, ?_⟩, ⟨?_, ?_⟩⟩⟩ <;> simp only [GX.Fa.less] <;> omega
end Go.Proofs.Fa
set_option linter.unusedVariables false
namespace Go.Proofs.Fa
open Go Go.GX Go.Proofs

theorem cH_at {f : List Spring} {i : Nat} (hi : i < 4) : at4 (cH f) i = if i < f.length then (f.getD i ((0, 0), 0, 0)).1.2 else 0 := at4_tup _ hi
theorem want_at {f : List Spring} {i : Nat} (hi : i < 4) : at4 (wantF f) i = if i < f.length then (f.getD i ((0, 0), 0, 0)).2.1 else 0 := at4_tup _ hi
theorem needS_tail {f : List Spring} {c : FansT} {seam ck : Int} : ∀ {i : Nat}, f.length ≤ i → i ≤ 4 → needS c (wantF f) seam ck i = needS c (wantF f) seam ck f.length
  | 0, h, _ => by rw [show f.length = 0 by omega]
  | i + 1, h, h4 => by
    by_cases e : f.length = i + 1
    · rw [e]
    · rw [← needS_tail (i := i) (by omega) (by omega)]
      have e0 : at4 (wantF f) i = 0 := by rw [want_at (by omega), if_neg (by omega)]
      simp only [needS, e0, Int.zero_mul, ite_self, Int.add_zero]
theorem p35 {s : Store} {f : List Spring} {p : Int} {Q : Int × Int × Unit → Prop} (h : f35_wp (s, f, p, ()) () Q) : V35 s f p Q := by
  obtain ⟨⟨hc, hp⟩, h⟩ := h
  have v : VOK s f := vok_of hc
  have hp : 1 ≤ p ∧ p ≤ 200 := inB_iff.1 hp
  have h : Q ((boundS s f p f.length).1, (boundS s f p f.length).2, ()) := h
  have hn6 := v.n6
  have hf4 := v.f4
  have hs := v.sm
  refine forUp2L (σ := Int) (τ := Int) (n := f.length) (fun k => (boundS s f p k).1) (fun k => (boundS s f p k).2) rfl rfl (fun k hk I μ hI hw => ?_) h
  have hk4 : k < 4 := by omega
  have ek : (f.getD k ((0, 0), 0, 0)).1.2 = at4 (cH f) k := by rw [cH_at hk4, if_pos hk]
  refine forUpL (σ := Int) (n := f.length) (needS (cH f) (wantF f) s.2.1 (at4 (cH f) k)) rfl (fun i hi I1 μ1 hI1 hw1 => ?_) ?_
  · have hi4 : i < 4 := by omega
    have ei : (f.getD i ((0, 0), 0, 0)).1.2 = at4 (cH f) i := by rw [cH_at hi4, if_pos hi]
    have wi : (f.getD i ((0, 0), 0, 0)).2.1 = at4 (wantF f) i := by rw [want_at hi4, if_pos hi]
    refine ⟨by omega, by omega, by omega, by omega, ?_⟩
    rw [hw1]
    show cnd (decide ((f.getD i ((0, 0), 0, 0)).1.2 ≥ (f.getD k ((0, 0), 0, 0)).1.2)) (_ ∧ _ ∧ _ ∧ _ ∧ I1 _ (IntKind.wrap .i64 (_ + IntKind.wrap .i64 ((f.getD i ((0, 0), 0, 0)).2.1 * IntKind.wrap .i64 ((f.getD i ((0, 0), 0, 0)).1.2 + s.2.1)))) ∧ μ1 _ (IntKind.wrap .i64 (_ + IntKind.wrap .i64 ((f.getD i ((0, 0), 0, 0)).2.1 * IntKind.wrap .i64 ((f.getD i ((0, 0), 0, 0)).1.2 + s.2.1)))) < _) _
    rw [ei, wi, ek]
    have b1 := needS_bnd (ck := at4 (cH f) k) v.cH v.want4 hs (k := i) (by omega)
    have g1 : 0 ≤ at4 (cH f) i ∧ at4 (cH f) i ≤ 40 := all4_at v.cH hi4
    have g2 : 0 ≤ at4 (wantF f) i ∧ at4 (wantF f) i ≤ 4 := all4_at v.want4 hi4
    have h3 : 0 ≤ at4 (wantF f) i * (at4 (cH f) i + s.2.1) := Int.mul_nonneg g2.1 (by omega)
    have h4 : at4 (wantF f) i * (at4 (cH f) i + s.2.1) ≤ 4 * 50 := Int.mul_le_mul g2.2 (by omega) (by omega) (by omega)
    rw [wrapS (x := at4 (cH f) i + s.2.1) (by omega) (by omega), wrapS (x := at4 (wantF f) i * (at4 (cH f) i + s.2.1)) (by omega) (by omega), wrapS (x := needS _ _ _ _ i + _) (by omega) (by omega)]
    simp only [needS] at hI1
    refine cnd_iff.2 ⟨fun h5 => ⟨by omega, by omega, by omega, by omega, ?_⟩, fun h5 => ?_⟩
    · rw [if_pos (of_decide_eq_true h5)] at hI1; exact hI1
    · rw [if_neg (of_decide_eq_false h5), Int.add_zero] at hI1; exact hI1
  have bN := needS_bnd (ck := at4 (cH f) k) v.cH v.want4 hs (k := 4) (by omega)
  rw [← needS_tail hf4 (Nat.le_refl 4)]
  refine forUpL (σ := Int) (n := s.1.length) (fun j => hasS (s.1.take j) s.2.1 (at4 (cH f) k)) (by simp [hasS]) (fun j hj I2 μ2 hI2 hw2 => ?_) ?_
  · refine ⟨by omega, by omega, by omega, by omega, ?_⟩
    rw [hw2]
    show cnd (decide (s.1.getD j 0 ≥ (f.getD k ((0, 0), 0, 0)).1.2)) (_ ∧ _ ∧ I2 _ (IntKind.wrap .i64 (_ + IntKind.wrap .i64 (s.1.getD j 0 + s.2.1))) ∧ μ2 _ (IntKind.wrap .i64 (_ + IntKind.wrap .i64 (s.1.getD j 0 + s.2.1))) < _) _
    rw [ek]
    have bH := hasS_bnd (ck := at4 (cH f) k) v.lv hs (k := j) (by omega)
    have hg := v.lv _ (getD_mem (d := 0) hj)
    simp only [hasS_succ hj] at hI2
    rw [wrapS (x := s.1.getD j 0 + s.2.1) (by omega) (by omega), wrapS (by omega) (by omega)]
    refine cnd_iff.2 ⟨fun h5 => ⟨by omega, by omega, ?_⟩, fun h5 => ?_⟩
    · rw [if_pos (of_decide_eq_true h5)] at hI2; exact hI2
    · rw [if_neg (of_decide_eq_false h5)] at hI2; exact hI2
  have bH := hasS_bnd (ck := at4 (cH f) k) v.lv hs (k := s.1.length) (by omega)
  rw [List.take_length] at bH ⊢
  obtain ⟨need, hneed⟩ : ∃ x, x = needS (cH f) (wantF f) s.2.1 (at4 (cH f) k) 4 := ⟨_, rfl⟩
  obtain ⟨has, hhas⟩ : ∃ x, x = hasS s.1 s.2.1 (at4 (cH f) k) := ⟨_, rfl⟩
  rw [← hneed] at bN ⊢
  rw [← hhas] at bH ⊢
  obtain ⟨d, hd⟩ : ∃ d, d = p + s.2.1 := ⟨_, rfl⟩
  refine ⟨fun x n => 0 ≤ n ∧ x = has + n * d ∧ (n = 0 ∨ has + (n - 1) * d < need), fun x _ => (need - x).toNat, ⟨Int.le_refl _, by rw [Int.zero_mul, Int.add_zero], .inl rfl⟩, ?_⟩
  rintro x n ⟨hn0, hx, hlt⟩
  have hnd : n ≤ n * d := by
    have := Int.mul_le_mul_of_nonneg_left (show 1 ≤ d by omega) hn0
    omega
  have hsub : (n - 1) * d = n * d - d := by rw [Int.sub_mul, Int.one_mul]
  have hx2 : n * d ≤ 1100 := by
    rcases hlt with rfl | hlt
    · rw [Int.zero_mul]; omega
    · omega
  refine cnd_iff.2 ⟨fun g1 => ?_, fun g1 => ?_⟩
  · have g1 : x < need := of_decide_eq_true g1
    rw [wrapS (x := x + p) (by omega) (by omega), wrapS (x := x + p + s.2.1) (by omega) (by omega), wrapS (x := n + 1) (by omega) (by omega)]
    refine ⟨⟨by omega, ?_, .inr ?_⟩, by dsimp only; omega⟩
    · rw [Int.add_mul, Int.one_mul]; omega
    · rw [show n + 1 - 1 = n by omega, ← hx]; exact g1
  · have g1 : ¬ x < need := of_decide_eq_false g1
    have hm : missB s f k = need - has := by unfold missB; rw [hneed, hhas]
    have eB : boundN s f p k = n := by
      unfold boundN
      rw [hm, ← hd]
      have h0 : 0 ≤ mxI 0 (need - has) := by unfold mxI; split <;> omega
      rw [Int.tdiv_eq_ediv_of_nonneg (by omega)]
      have hle : mxI 0 (need - has) ≤ n * d := by unfold mxI; split <;> omega
      have hgt : n * d < mxI 0 (need - has) + d := by
        rcases hlt with rfl | hlt
        · rw [Int.zero_mul]; omega
        · unfold mxI; split <;> omega
      have a1 : n ≤ (mxI 0 (need - has) + d - 1) / d := Int.le_ediv_of_mul_le (by omega) (by omega)
      have a2 : (mxI 0 (need - has) + d - 1) / d < n + 1 := Int.ediv_lt_of_lt_mul (by omega) (by rw [Int.add_mul, Int.one_mul]; omega)
      omega
    rw [hw]
    simp only [boundS_succ, boundStep] at hI
    rw [eB] at hI
    refine cnd_iff.2 ⟨fun h5 => ?_, fun h5 => ?_⟩
    · rw [if_pos (of_decide_eq_true h5)] at hI; exact hI
    · rw [if_neg (of_decide_eq_false h5)] at hI; exact hI

end Go.Proofs.Fa
set_option maxRecDepth 100000
namespace Go.Proofs.Fa
open Go Go.GX Go.Proofs
variable [Inhabited BaseD]
theorem ok32 : CallsOK Try.prog (assoc glT) 32 f32_ct :=
  callsOK_mkM [] st_ok mp_ok it_ok mk_ok in_ok AllOK.nil no_an Try.func32 (by kernel_rfl) (by kernel_rfl) f32_ct fun ⟨n, a, b, _⟩ _ Q h => (v32 n a b Q).mp (p32 h)
theorem ok22 : CallsOK Try.prog (assoc glT) 22 f22_ct :=
  callsOK_mkM [] st_ok mp_ok it_ok mk_ok in_ok (AllOK.cons ok32 AllOK.nil) f22_an Try.func22 (by kernel_rfl) (by kernel_rfl) f22_ct fun ⟨s, f, _⟩ _ Q h => (v22 s f Q).mp (p22 h)
theorem ok16 : CallsOK Try.prog (assoc glT) 16 f16_ct :=
  callsOK_mkM [] st_ok mp_ok it_ok mk_ok in_ok AllOK.nil no_an Try.func16 (by kernel_rfl) (by kernel_rfl) f16_ct fun ⟨s, f, _⟩ _ Q h => (v16 s f Q).mp (p16 h)
theorem ok18 : CallsOK Try.prog (assoc glT) 18 f18_ct :=
  callsOK_mkM [] st_ok mp_ok it_ok mk_ok in_ok AllOK.nil no_an Try.func18 (by kernel_rfl) (by kernel_rfl) f18_ct fun s _ Q h => (v18 s Q).mp (p18 h)
theorem ok19 : CallsOK Try.prog (assoc glT) 19 f19_ct :=
  callsOK_mkM [] st_ok mp_ok it_ok mk_ok in_ok AllOK.nil no_an Try.func19 (by kernel_rfl) (by kernel_rfl) f19_ct fun f _ Q h => (v19 f Q).mp (p19 h)
theorem ok38 : CallsOK Try.prog (assoc glT) 38 f38_ct :=
  callsOK_mkM [] st_ok mp_ok it_ok mk_ok in_ok AllOK.nil one_an Try.func38 (by kernel_rfl) (by kernel_rfl) f38_ct fun ⟨a, b, _⟩ _ Q h => (v38 a b Q).mp (p38 h)
theorem ok71 : CallsOK Try.prog (assoc glT) 71 f71_ct :=
  callsOK_mkM [] st_ok mp_ok it_ok mk_ok in_ok AllOK.nil one_an Try.func71 (by kernel_rfl) (by kernel_rfl) f71_ct fun ⟨a, b, _⟩ _ Q h => (v71 a b Q).mp (p71 h)
theorem ok70 : CallsOK Try.prog (assoc glT) 70 f70_ct :=
  callsOK_mkM [] st_ok mp_ok it_ok mk_ok in_ok (AllOK.cons ok38 AllOK.nil) one_an Try.func70 (by kernel_rfl) (by kernel_rfl) f70_ct fun ⟨a, b, _⟩ _ Q h => (v70 a b Q).mp (p70 h)
theorem ok23 : CallsOK Try.prog (assoc glT) 23 f23_ct :=
  callsOK_mkM [] st_ok mp_ok it_ok mk_ok in_ok (AllOK.cons ok70 (AllOK.cons ok71 AllOK.nil)) no_an Try.func23 (by kernel_rfl) (by kernel_rfl) f23_ct fun ⟨a, b, f, g, _⟩ _ Q h => (v23 a b f g Q).mp (p23 h)
theorem ok28 : CallsOK Try.prog (assoc glT) 28 f28_ct :=
  callsOK_mkM [] st_ok mp_ok it_ok mk_ok in_ok (AllOK.cons ok38 AllOK.nil) one_an Try.func28 (by kernel_rfl) (by kernel_rfl) f28_ct fun ⟨a, b, _⟩ _ Q h => (v28 a b Q).mp (p28 h)
theorem ok35 : CallsOK Try.prog (assoc glT) 35 f35_ct :=
  callsOK_mkM [] st_ok mp_ok it_ok mk_ok in_ok AllOK.nil f35_an Try.func35 (by kernel_rfl) (by kernel_rfl) f35_ct fun ⟨s, f, p, _⟩ _ Q h => (v35 s f p Q).mp (p35 h)
end Go.Proofs.Fa
namespace Go.Proofs.Fa
open Go Go.GX Go.Proofs

def f55_wp : Int × Int × Unit → Unit → (Int × Int → Prop) → Prop := fun a _ Q => Q (a.1, a.2.1)
def f55_ct : Ct := ⟨arg2 k3 k3, .unit, k69, f55_wp, false, false⟩

def stD : Store := ([30, 28, 34], 2, [(35, 40), (25, 40)])
def spD : List Spring := [((14, 16), 2, 20), ((10, 10), 3, 30)]
def f56_wp : Unit → Unit → (Store → Prop) → Prop := fun _ _ Q => Q stD
def f56_ct : Ct := ⟨.unit, .unit, k25, f56_wp, false, false⟩
def f57_wp : Unit → Unit → (List Spring → Prop) → Prop := fun _ _ Q => Q spD
def f57_ct : Ct := ⟨.unit, .unit, k26, f57_wp, false, true⟩
def f17_wp : Unit → Unit → (Bool → Prop) → Prop := fun _ _ Q => Q true
def f17_ct : Ct := ⟨.unit, .unit, .bool, f17_wp, false, false⟩
def fL2_wp : Store × List Spring × Unit → Unit → (Bool → Prop) → Prop := fun _ _ Q => Q true
def fL2_ct : Ct := ⟨arg2 k25 k26, .unit, .bool, fL2_wp, false, false⟩
def f3_ct : Ct := fL2_ct
def f4_ct : Ct := fL2_ct
def fL3_wp : Store × List Spring × Int × Unit → Unit → (Bool → Prop) → Prop := fun _ _ Q => Q true
def fL3_ct : Ct := ⟨arg3 k25 k26 k3, .unit, .bool, fL3_wp, false, false⟩
def f6_ct : Ct := fL3_ct
end Go.Proofs.Fa
set_option linter.unusedVariables false
set_option maxRecDepth 100000
namespace Go.Proofs.Fa
open Go Go.GX Go.Proofs

def V55 (a : Int) (b : Int) (Q : Int × Int → Prop) : Prop := Q (a, b)
theorem v55 (a : Int) (b : Int) (Q : Int × Int → Prop) : V55 a b Q = vcFunc (S0 [] []) f55_ct.own f55_ct.fresh no_an Try.f55 (bodyOf Try.f55) f55_ct.A f55_ct.C f55_ct.R (a, b, ()) () Q := by kernel_rfl

def V56 (Q : List Int × Int × List (Int × Int) → Prop) : Prop := Q ((30 : Int) :: (28 : Int) :: (34 : Int) :: ([] : List Int), (2 : Int), ((35 : Int), (40 : Int)) :: ((25 : Int), (40 : Int)) :: ([] : List (Int × Int)))
theorem v56 (Q : List Int × Int × List (Int × Int) → Prop) : V56 Q = vcFunc (S0 [] []) f56_ct.own f56_ct.fresh no_an Try.f56 (bodyOf Try.f56) f56_ct.A f56_ct.C f56_ct.R () () Q := by kernel_rfl

def V57 (Q : List ((Int × Int) × Int × Int) → Prop) : Prop := f55_wp ((14 : Int), (16 : Int), ()) () fun (r : Int × Int) ↦ f55_wp ((10 : Int), (10 : Int), ()) () fun (r_1 : Int × Int) ↦ Q (((Prod.fst r, Prod.snd r), (2 : Int), (20 : Int)) :: ((Prod.fst r_1, Prod.snd r_1), (3 : Int), (30 : Int)) :: ([] : List ((Int × Int) × Int × Int)))
theorem v57 (Q : List ((Int × Int) × Int × Int) → Prop) : V57 Q = vcFunc (S0 [(55, f55_ct)] [104]) f57_ct.own f57_ct.fresh no_an Try.f57 (bodyOf Try.f57) f57_ct.A f57_ct.C f57_ct.R () () Q := by kernel_rfl

def V17 (Q : Bool → Prop) : Prop := f56_wp () () fun (r : List Int × Int × List (Int × Int)) ↦ f57_wp () () fun (r_1 : List ((Int × Int) × Int × Int)) ↦ f21_wp ((Prod.fst r, Prod.fst (Prod.snd r), Prod.snd (Prod.snd r)), r_1, ()) () fun (r : List (List Int) × Int × Unit) ↦ f56_wp () () fun (r_2 : List Int × Int × List (Int × Int)) ↦ f57_wp () () fun (r_3 : List ((Int × Int) × Int × Int)) ↦ f29_wp ((Prod.fst r_2, Prod.fst (Prod.snd r_2), Prod.snd (Prod.snd r_2)), r_3, ()) () fun (r_4 : List (List Int) × Int × Unit) ↦ f56_wp () () fun (r_5 : List Int × Int × List (Int × Int)) ↦ f57_wp () () fun (r_6 : List ((Int × Int) × Int × Int)) ↦ f39_wp ((Prod.fst r_5, Prod.fst (Prod.snd r_5), Prod.snd (Prod.snd r_5)), r_6, ()) () fun (r_7 : Int × Int × Int × Unit) ↦ f57_wp () () fun (r_8 : List ((Int × Int) × Int × Int)) ↦ (0 : Int) ≤ (0 : Int) ∧ (0 : Int) < (↑(List.length r_8) : Int) ∧ f56_wp () () fun (r_9 : List Int × Int × List (Int × Int)) ↦ f50_wp ((Prod.fst r_9, Prod.fst (Prod.snd r_9), Prod.snd (Prod.snd r_9)), List.set r_8 (Int.toNat (0 : Int)) ((Prod.fst (Prod.fst (List.getD r_8 (Int.toNat (0 : Int)) (((0 : Int), (0 : Int)), (0 : Int), (0 : Int)))), Prod.snd (Prod.fst (List.getD r_8 (Int.toNat (0 : Int)) (((0 : Int), (0 : Int)), (0 : Int), (0 : Int))))), (3 : Int), Prod.snd (Prod.snd (List.getD r_8 (Int.toNat (0 : Int)) (((0 : Int), (0 : Int)), (0 : Int), (0 : Int))))), ()) () fun (r_10 : List Int × Int × Unit) ↦ f56_wp () () fun (r_11 : List Int × Int × List (Int × Int)) ↦ (0 : Int) ≤ (0 : Int) ∧ (0 : Int) ≤ (2 : Int) ∧ (2 : Int) ≤ (↑(List.length (Prod.fst r_11)) : Int) ∧ ∃ (r_12 : List ((Int × Int) × Int × Int)), (f57_wp () () fun (r' : List ((Int × Int) × Int × Int)) ↦ r' = r_12) ∧ ∃ (r_13 : Int × Int × Unit), (f31_wp ((List.drop (Int.toNat (0 : Int)) (List.take (Int.toNat (2 : Int)) (Prod.fst r_11)), Prod.fst (Prod.snd r_11), Prod.snd (Prod.snd r_11)), r_12, (40 : Int), ()) () fun (r' : Int × Int × Unit) ↦ r' = r_13) ∧ ∃ (r_14 : List ((Int × Int) × Int × Int)), (f57_wp () () fun (r' : List ((Int × Int) × Int × Int)) ↦ r' = r_14) ∧ ∃ (r_15 : Int × Int × Int × Unit), (f34_wp ((List.drop (Int.toNat (0 : Int)) (List.take (Int.toNat (2 : Int)) (Prod.fst r_11)), Prod.fst (Prod.snd r_11), Prod.snd (Prod.snd r_11)), r_14, (40 : Int), ()) () fun (r' : Int × Int × Int × Unit) ↦ r' = r_15) ∧ f56_wp () () fun (r_16 : List Int × Int × List (Int × Int)) ↦ f57_wp () () fun (r_17 : List ((Int × Int) × Int × Int)) ↦ f36_wp ((Prod.fst r_16, Prod.fst (Prod.snd r_16), Prod.snd (Prod.snd r_16)), r_17, ((0 : Int) :: ([] : List Int)) :: ((0 : Int) :: ([] : List Int)) :: ((1 : Int) :: (1 : Int) :: (1 : Int) :: ([] : List Int)) :: ([] : List (List Int)), ()) () fun (r_18 : List Int × Int × Unit) ↦ f56_wp () () fun (r_19 : List Int × Int × List (Int × Int)) ↦ f57_wp () () fun (r_20 : List ((Int × Int) × Int × Int)) ↦ f41_wp ((Prod.fst r_19, Prod.fst (Prod.snd r_19), Prod.snd (Prod.snd r_19)), r_20, (0 : Int), ()) () fun (r_21 : Int × Int × Unit) ↦ cnd (Prod.fst (Prod.snd r) != (0 : Int)) (Q false) (cnd (Prod.fst (Prod.snd r_4) != (0 : Int)) (Q false) (cnd (Prod.fst (Prod.snd (Prod.snd r_7)) != (0 : Int)) (Q false) (cnd (Prod.fst (Prod.snd r_10) != (0 : Int)) (Q false) (cnd (Prod.fst (Prod.snd r_13) != (0 : Int)) (Q false) (cnd (Prod.fst (Prod.snd (Prod.snd r_15)) != (0 : Int)) (Q false) (cnd (Prod.fst (Prod.snd r_18) != (0 : Int)) (Q false) (cnd (Prod.fst (Prod.snd r_21) != (0 : Int)) (Q false) (f28_wp (Prod.fst r, ((0 : Int) :: ([] : List Int)) :: ((0 : Int) :: ([] : List Int)) :: ((1 : Int) :: (1 : Int) :: (1 : Int) :: ([] : List Int)) :: ([] : List (List Int)), ()) () fun (r : Bool) ↦ cnd r (f28_wp (Prod.fst r_4, ((1 : Int) :: (1 : Int) :: (1 : Int) :: ([] : List Int)) :: ((0 : Int) :: (0 : Int) :: ([] : List Int)) :: ([] : List (List Int)), ()) () fun (r : Bool) ↦ cnd r (cnd (Prod.fst r_7 == (4 : Int)) (cnd (Prod.fst (Prod.snd r_7) == (310 : Int)) (f38_wp (Prod.fst r_10, (3 : Int) :: (2 : Int) :: ([] : List Int), ()) () fun (r : Bool) ↦ cnd r (cnd (Prod.fst r_13 == (1 : Int)) (cnd (Prod.fst r_15 == (1 : Int)) (cnd (Prod.fst (Prod.snd r_15) == (1 : Int)) (f38_wp (Prod.fst r_18, (12 : Int) :: (10 : Int) :: (0 : Int) :: ([] : List Int), ()) () fun (r : Bool) ↦ cnd r (Q (Prod.fst r_21 == (20 : Int))) (Q false)) (Q false)) (Q false)) (Q false)) (Q false)) (Q false)) (Q false)) (Q false)) (Q false)))))))))
theorem v17 (Q : Bool → Prop) : V17 Q = vcFunc (S0 [(56, f56_ct), (57, f57_ct), (21, f21_ct), (29, f29_ct), (39, f39_ct), (50, f50_ct), (31, f31_ct), (34, f34_ct), (36, f36_ct), (41, f41_ct), (28, f28_ct), (38, f38_ct)] []) f17_ct.own f17_ct.fresh no_an Try.f17 (bodyOf Try.f17) f17_ct.A f17_ct.C f17_ct.R () () Q := by kernel_rfl

def V3 (s : List Int × Int × List (Int × Int)) (f : List ((Int × Int) × Int × Int)) (Q : Bool → Prop) : Prop := f16_wp ((Prod.fst s, Prod.fst (Prod.snd s), Prod.snd (Prod.snd s)), f, ()) () fun (r : Bool) ↦ cnd r (f17_wp () () fun (r : Bool) ↦ Q r) (f18_wp (Prod.fst s, Prod.fst (Prod.snd s), Prod.snd (Prod.snd s)) () fun (r : List Int × Int × List (Int × Int)) ↦ f19_wp f () fun (r_1 : List ((Int × Int) × Int × Int)) ↦ f20_wp ((Prod.fst r, Prod.fst (Prod.snd r), Prod.snd (Prod.snd r)), r_1, ()) () fun (r_2 : Int) ↦ f21_wp ((Prod.fst r, Prod.fst (Prod.snd r), Prod.snd (Prod.snd r)), r_1, ()) () fun (r_3 : List (List Int) × Int × Unit) ↦ f22_wp ((Prod.fst s, Prod.fst (Prod.snd s), Prod.snd (Prod.snd s)), f, ()) () fun (r_4 : Int) ↦ f23_wp ((Prod.fst r, Prod.fst (Prod.snd r), Prod.snd (Prod.snd r)), (Prod.fst s, Prod.fst (Prod.snd s), Prod.snd (Prod.snd s)), r_1, f, ()) () fun (r : Bool) ↦ cnd (!r) (Q false) (cnd (r_2 != r_4) (Q false) (cnd (r_4 == (0 : Int)) (∃ (r : Int × Int × Int × Int), (f26_wp (f, true, ()) () fun (r' : Int × Int × Int × Int) ↦ r' = r) ∧ ∃ (r_5 : List ((Int × Int × Int × Int) × (Int × Int × Int × Int) × Int × Int)), (f25_wp (Prod.fst s, Prod.fst (Prod.snd s), (Prod.fst r, Prod.fst (Prod.snd r), Prod.fst (Prod.snd (Prod.snd r)), Prod.snd (Prod.snd (Prod.snd r))), (0 : Int), (1 : Int), ()) () fun (r' : List ((Int × Int × Int × Int) × (Int × Int × Int × Int) × Int × Int)) ↦ r' = r_5) ∧ ∃ (r : Int × Int × Int × Int), (f27_wp f () fun (r' : Int × Int × Int × Int) ↦ r' = r) ∧ ∃ (r_6 : List (List Int) × Bool × Unit), (f24_wp (r_5, (Prod.fst r, Prod.fst (Prod.snd r), Prod.fst (Prod.snd (Prod.snd r)), Prod.snd (Prod.snd (Prod.snd r))), ()) () fun (r' : List (List Int) × Bool × Unit) ↦ r' = r_6) ∧ cnd (Prod.fst (Prod.snd r_6)) (cnd (Prod.fst (Prod.snd r_3) == (0 : Int)) (f28_wp (Prod.fst r_3, Prod.fst r_6, ()) () fun (r : Bool) ↦ cnd r (f17_wp () () fun (r : Bool) ↦ Q r) (Q false)) (Q false)) (cnd (Prod.fst (Prod.snd r_3) == (9 : Int)) (List.length (Prod.fst r_3) ≤ (9223372036854775807 : Nat) → cnd ((↑(List.length (Prod.fst r_3)) : Int) == (0 : Int)) (f17_wp () () fun (r : Bool) ↦ Q r) (Q false)) (Q false))) (cnd (Prod.fst (Prod.snd r_3) == r_4) (List.length (Prod.fst r_3) ≤ (9223372036854775807 : Nat) → cnd ((↑(List.length (Prod.fst r_3)) : Int) == (0 : Int)) (f17_wp () () fun (r : Bool) ↦ Q r) (Q false)) (Q false)))))
theorem v3 (s : List Int × Int × List (Int × Int)) (f : List ((Int × Int) × Int × Int)) (Q : Bool → Prop) : V3 s f Q = vcFunc (S0 [(16, f16_ct), (17, f17_ct), (18, f18_ct), (19, f19_ct), (20, f20_ct), (21, f21_ct), (22, f22_ct), (23, f23_ct), (26, f26_ct), (25, f25_ct), (27, f27_ct), (24, f24_ct), (28, f28_ct)] []) f3_ct.own f3_ct.fresh no_an Try.f3 (bodyOf Try.f3) f3_ct.A f3_ct.C f3_ct.R (s, f, ()) () Q := by kernel_rfl

def V4 (s : List Int × Int × List (Int × Int)) (f : List ((Int × Int) × Int × Int)) (Q : Bool → Prop) : Prop := f16_wp ((Prod.fst s, Prod.fst (Prod.snd s), Prod.snd (Prod.snd s)), f, ()) () fun (r : Bool) ↦ cnd r (f17_wp () () fun (r : Bool) ↦ Q r) (f18_wp (Prod.fst s, Prod.fst (Prod.snd s), Prod.snd (Prod.snd s)) () fun (r : List Int × Int × List (Int × Int)) ↦ f19_wp f () fun (r_1 : List ((Int × Int) × Int × Int)) ↦ f29_wp ((Prod.fst r, Prod.fst (Prod.snd r), Prod.snd (Prod.snd r)), r_1, ()) () fun (r_2 : List (List Int) × Int × Unit) ↦ f22_wp ((Prod.fst s, Prod.fst (Prod.snd s), Prod.snd (Prod.snd s)), f, ()) () fun (r_3 : Int) ↦ f23_wp ((Prod.fst r, Prod.fst (Prod.snd r), Prod.snd (Prod.snd r)), (Prod.fst s, Prod.fst (Prod.snd s), Prod.snd (Prod.snd s)), r_1, f, ()) () fun (r : Bool) ↦ cnd (!r) (Q false) (cnd (r_3 == (0 : Int)) (∃ (r : Int × Int × Int × Int), (f26_wp (f, true, ()) () fun (r' : Int × Int × Int × Int) ↦ r' = r) ∧ ∃ (r_4 : List ((Int × Int × Int × Int) × (Int × Int × Int × Int) × Int × Int)), (f30_wp (Prod.snd (Prod.snd s), f, (Prod.fst r, Prod.fst (Prod.snd r), Prod.fst (Prod.snd (Prod.snd r)), Prod.snd (Prod.snd (Prod.snd r))), ()) () fun (r' : List ((Int × Int × Int × Int) × (Int × Int × Int × Int) × Int × Int)) ↦ r' = r_4) ∧ ∃ (r : Int × Int × Int × Int), (f27_wp f () fun (r' : Int × Int × Int × Int) ↦ r' = r) ∧ ∃ (r_5 : List (List Int) × Bool × Unit), (f24_wp (r_4, (Prod.fst r, Prod.fst (Prod.snd r), Prod.fst (Prod.snd (Prod.snd r)), Prod.snd (Prod.snd (Prod.snd r))), ()) () fun (r' : List (List Int) × Bool × Unit) ↦ r' = r_5) ∧ cnd (Prod.fst (Prod.snd r_5)) (cnd (Prod.fst (Prod.snd r_2) == (0 : Int)) (f28_wp (Prod.fst r_2, Prod.fst r_5, ()) () fun (r : Bool) ↦ cnd r (f17_wp () () fun (r : Bool) ↦ Q r) (Q false)) (Q false)) (cnd (Prod.fst (Prod.snd r_2) == (9 : Int)) (List.length (Prod.fst r_2) ≤ (9223372036854775807 : Nat) → cnd ((↑(List.length (Prod.fst r_2)) : Int) == (0 : Int)) (f17_wp () () fun (r : Bool) ↦ Q r) (Q false)) (Q false))) (cnd (Prod.fst (Prod.snd r_2) == r_3) (List.length (Prod.fst r_2) ≤ (9223372036854775807 : Nat) → cnd ((↑(List.length (Prod.fst r_2)) : Int) == (0 : Int)) (f17_wp () () fun (r : Bool) ↦ Q r) (Q false)) (Q false))))
theorem v4 (s : List Int × Int × List (Int × Int)) (f : List ((Int × Int) × Int × Int)) (Q : Bool → Prop) : V4 s f Q = vcFunc (S0 [(16, f16_ct), (17, f17_ct), (18, f18_ct), (19, f19_ct), (29, f29_ct), (22, f22_ct), (23, f23_ct), (26, f26_ct), (30, f30_ct), (27, f27_ct), (24, f24_ct), (28, f28_ct)] []) f4_ct.own f4_ct.fresh no_an Try.f4 (bodyOf Try.f4) f4_ct.A f4_ct.C f4_ct.R (s, f, ()) () Q := by kernel_rfl

def V6 (s : List Int × Int × List (Int × Int)) (f : List ((Int × Int) × Int × Int)) (p : Int) (Q : Bool → Prop) : Prop := f16_wp ((Prod.fst s, Prod.fst (Prod.snd s), Prod.snd (Prod.snd s)), f, ()) () fun (r : Bool) ↦ cnd r (f17_wp () () fun (r : Bool) ↦ Q r) (f18_wp (Prod.fst s, Prod.fst (Prod.snd s), Prod.snd (Prod.snd s)) () fun (r : List Int × Int × List (Int × Int)) ↦ f19_wp f () fun (r_1 : List ((Int × Int) × Int × Int)) ↦ f34_wp ((Prod.fst r, Prod.fst (Prod.snd r), Prod.snd (Prod.snd r)), r_1, p, ()) () fun (r_2 : Int × Int × Int × Unit) ↦ f23_wp ((Prod.fst r, Prod.fst (Prod.snd r), Prod.snd (Prod.snd r)), (Prod.fst s, Prod.fst (Prod.snd s), Prod.snd (Prod.snd s)), r_1, f, ()) () fun (r : Bool) ↦ cnd (!r) (Q false) (f22_wp ((Prod.fst s, Prod.fst (Prod.snd s), Prod.snd (Prod.snd s)), f, ()) () fun (r : Int) ↦ cnd (r == (0 : Int)) (f32_wp (p, (1 : Int), (200 : Int), ()) () fun (r_3 : Bool) ↦ cnd (!r_3) (cnd (Prod.fst (Prod.snd (Prod.snd r_2)) == (7 : Int)) (cnd (Prod.fst r_2 == (0 : Int)) (cnd (Prod.fst (Prod.snd r_2) == (0 : Int)) (f17_wp () () fun (r : Bool) ↦ Q r) (Q false)) (Q false)) (Q false)) (cnd (r != (0 : Int)) (cnd (Prod.fst (Prod.snd (Prod.snd r_2)) == r) (cnd (Prod.fst r_2 == (0 : Int)) (cnd (Prod.fst (Prod.snd r_2) == (0 : Int)) (f17_wp () () fun (r : Bool) ↦ Q r) (Q false)) (Q false)) (Q false)) (f35_wp ((Prod.fst s, Prod.fst (Prod.snd s), Prod.snd (Prod.snd s)), f, p, ()) () fun (r : Int × Int × Unit) ↦ cnd (Prod.fst (Prod.snd (Prod.snd r_2)) == (0 : Int)) (cnd (Prod.fst r_2 == Prod.fst r) (cnd (Prod.fst (Prod.snd r_2) == Prod.fst (Prod.snd r)) (f17_wp () () fun (r : Bool) ↦ Q r) (Q false)) (Q false)) (Q false)))) (cnd (r != (0 : Int)) (cnd (Prod.fst (Prod.snd (Prod.snd r_2)) == r) (cnd (Prod.fst r_2 == (0 : Int)) (cnd (Prod.fst (Prod.snd r_2) == (0 : Int)) (f17_wp () () fun (r : Bool) ↦ Q r) (Q false)) (Q false)) (Q false)) (f35_wp ((Prod.fst s, Prod.fst (Prod.snd s), Prod.snd (Prod.snd s)), f, p, ()) () fun (r : Int × Int × Unit) ↦ cnd (Prod.fst (Prod.snd (Prod.snd r_2)) == (0 : Int)) (cnd (Prod.fst r_2 == Prod.fst r) (cnd (Prod.fst (Prod.snd r_2) == Prod.fst (Prod.snd r)) (f17_wp () () fun (r : Bool) ↦ Q r) (Q false)) (Q false)) (Q false)))))
theorem v6 (s : List Int × Int × List (Int × Int)) (f : List ((Int × Int) × Int × Int)) (p : Int) (Q : Bool → Prop) : V6 s f p Q = vcFunc (S0 [(16, f16_ct), (17, f17_ct), (18, f18_ct), (19, f19_ct), (34, f34_ct), (23, f23_ct), (22, f22_ct), (32, f32_ct), (35, f35_ct)] []) f6_ct.own f6_ct.fresh no_an Try.f6 (bodyOf Try.f6) f6_ct.A f6_ct.C f6_ct.R (s, f, p, ()) () Q := by kernel_rfl

end Go.Proofs.Fa
set_option linter.unusedVariables false
set_option maxRecDepth 100000
namespace Go.Proofs.Fa
open Go Go.GX Go.Proofs

theorem p55 {a b : Int} {Q : Int × Int → Prop} (h : f55_wp (a, b, ()) () Q) : V55 a b Q := h
theorem p56 {Q : Store → Prop} (h : f56_wp () () Q) : V56 Q := h
theorem p57 {Q : List Spring → Prop} (h : f57_wp () () Q) : V57 Q := h
def stL : Store := ([30, 28], 2, [(35, 40), (25, 40)])
def spT : List Spring := [((14, 16), 3, 20), ((10, 10), 3, 30)]
theorem d21 : resLeaves stD spD = ([[0], [0], [1, 1, 1]], 0) := by decide +kernel
theorem d29 : resLots stD spD = ([[1, 1, 1], [0, 0]], 0) := by decide +kernel
theorem d39 : resLoss stD spD = (4, 310, 0) := by decide +kernel
theorem d50 : resMost stD spT = ([3, 2], 0) := by decide +kernel
theorem d31 : resNew stL spD 40 = (1, 0) := by decide +kernel
theorem d34 : resBound stL spD 40 = (1, 1, 0) := by decide +kernel
theorem d36 : resRest stD spD [[0], [0], [1, 1, 1]] = ([12, 10, 0], 0) := by decide +kernel
theorem d41 : resRise stD spD 0 = (20, 0) := by decide +kernel
theorem p17 {Q : Bool → Prop} (h : f17_wp () () Q) : V17 Q := by
  have h : Q true := h
  refine ⟨by decide, by decide, by decide, by decide, by decide, _, rfl, _, rfl, _, rfl, _, rfl, ?_⟩
  show cnd ((resLeaves stD spD).2 != 0) (Q false) (cnd ((resLots stD spD).2 != 0) (Q false) (cnd ((resLoss stD spD).2.2 != 0) (Q false) (cnd ((resMost stD spT).2 != 0) (Q false) (cnd ((resNew stL spD 40).2 != 0) (Q false) (cnd ((resBound stL spD 40).2.2 != 0) (Q false) (cnd ((resRest stD spD [[0], [0], [1, 1, 1]]).2 != 0) (Q false) (cnd ((resRise stD spD 0).2 != 0) _
    (cnd (decide ((resLeaves stD spD).1 = [[0], [0], [1, 1, 1]])) (cnd (decide ((resLots stD spD).1 = [[1, 1, 1], [0, 0]])) (cnd ((resLoss stD spD).1 == 4) (cnd ((resLoss stD spD).2.1 == 310) (cnd (decide ((resMost stD spT).1 = [3, 2])) (cnd ((resNew stL spD 40).1 == 1) (cnd ((resBound stL spD 40).1 == 1) (cnd ((resBound stL spD 40).2.1 == 1) (cnd (decide ((resRest stD spD [[0], [0], [1, 1, 1]]).1 = [12, 10, 0])) (Q ((resRise stD spD 0).1 == 20)) (Q false)) (Q false)) (Q false)) (Q false)) (Q false)) (Q false)) (Q false)) (Q false)) (Q false)))))))))
  rw [d21, d29, d39, d50, d31, d34, d36, d41]
  exact h
theorem known {Q : Bool → Prop} (h : Q true) : f17_wp () () fun r => Q r := h
theorem beqT {a b : Int} (h : a = b) : (a == b) = true := by simp [h]
theorem cndE {a b : Int} {p q : Prop} (h : a = b) (hp : p) : cnd (a == b) p q := by rw [beqT h]; exact hp
theorem cndN {a b : Int} {p q : Prop} (h : a = b) (hq : q) : cnd (a != b) p q := by rw [bne, beqT h]; exact hq
theorem cndNe {a b : Int} {p q : Prop} (h : a ≠ b) (hp : p) : cnd (a != b) p q := by
  have : (a != b) = true := by simp [h]
  rw [this]; exact hp
theorem cndEe {a b : Int} {p q : Prop} (h : a ≠ b) (hq : q) : cnd (a == b) p q := by
  have : (a == b) = false := by simp [h]
  rw [this]; exact hq
theorem large_iff {s : Store} {f : List Spring} {Q : Bool → Prop} {T : Prop} (h : Q true) (hT : s.1.length ≤ 8 → s.2.2.length ≤ 8 → f.length ≤ 8 → T) : cnd (decide (8 < s.1.length ∨ 8 < s.2.2.length ∨ 8 < f.length)) (f17_wp () () fun r => Q r) T :=
  cnd_iff.2 ⟨fun _ => known h, fun h1 => by
    have h1 := of_decide_eq_false h1
    exact hT (by omega) (by omega) (by omega)⟩
theorem same_iff {s : Store} {f : List Spring} {p q : Prop} (h : q) : cnd (!(decide (s = s ∧ f = f))) p q := by
  rw [decide_eq_true ⟨rfl, rfl⟩]; exact h
theorem p6 {s : Store} {f : List Spring} {p : Int} {Q : Bool → Prop} (h : fL3_wp (s, f, p, ()) () Q) : V6 s f p Q := by
  have h : Q true := h
  refine large_iff (s := s) (f := f) h fun n1 n2 n3 => ⟨⟨n1, n2⟩, n3, ?_⟩
  show cnd (!(decide (s = s ∧ f = f))) _ (cnd (checkF s f == 0) (cnd (!(inB 1 200 p)) (cnd ((resBound s f p).2.2 == 7) (cnd ((resBound s f p).1 == 0) (cnd ((resBound s f p).2.1 == 0) _ _) _) _) (cnd (checkF s f != 0) _ (_ ∧ cnd ((resBound s f p).2.2 == 0) (cnd ((resBound s f p).1 == (boundF s f p).1) (cnd ((resBound s f p).2.1 == (boundF s f p).2) _ _) _) _)))
    (cnd (checkF s f != 0) (cnd ((resBound s f p).2.2 == checkF s f) (cnd ((resBound s f p).1 == 0) (cnd ((resBound s f p).2.1 == 0) _ _) _) _) _))
  refine same_iff ?_
  by_cases hc : checkF s f = 0
  · refine cndE hc (cnd_iff.2 ⟨fun hp => ?_, fun hp => ?_⟩)
    · have hp : inB 1 200 p = false := by simpa using hp
      have e : resBound s f p = (0, 0, 7) := by unfold resBound; rw [if_neg (by simp [hc]), if_pos hp]
      rw [e]
      exact cndE rfl (cndE rfl (cndE rfl (known h)))
    · have hp : inB 1 200 p = true := by simpa using hp
      have e : resBound s f p = ((boundF s f p).1, (boundF s f p).2, 0) := by unfold resBound; rw [if_neg (by simp [hc]), if_neg (by simp [hp])]
      rw [e]
      exact cndN hc ⟨⟨hc, hp⟩, cndE rfl (cndE rfl (cndE rfl (known h)))⟩
  · have e : resBound s f p = (0, 0, checkF s f) := by unfold resBound; rw [if_pos hc]
    rw [e]
    exact cndEe hc (cndNe hc (cndE rfl (cndE rfl (cndE rfl (known h)))))
end Go.Proofs.Fa
set_option maxRecDepth 100000
set_option maxHeartbeats 0
namespace Go.Proofs.Fa
open Go Go.GX Go.Proofs
variable [Inhabited BaseD]
theorem ok55 : CallsOK Try.prog (assoc glT) 55 f55_ct :=
  callsOK_mkM [] st_ok mp_ok it_ok mk_ok in_ok AllOK.nil no_an Try.func55 (by kernel_rfl) (by kernel_rfl) f55_ct fun ⟨a, b, _⟩ _ Q h => (v55 a b Q).mp (p55 h)
theorem ok56 : CallsOK Try.prog (assoc glT) 56 f56_ct :=
  callsOK_mkM [] st_ok mp_ok it_ok mk_ok in_ok AllOK.nil no_an Try.func56 (by kernel_rfl) (by kernel_rfl) f56_ct fun _ _ Q h => (v56  Q).mp (p56 h)
theorem ok57 : CallsOK Try.prog (assoc glT) 57 f57_ct :=
  callsOK_mkM [104] st_ok mp_ok it_ok mk_ok in_ok (AllOK.cons ok55 AllOK.nil) no_an Try.func57 (by kernel_rfl) (by kernel_rfl) f57_ct fun _ _ Q h => (v57  Q).mp (p57 h)
theorem ok17 : CallsOK Try.prog (assoc glT) 17 f17_ct :=
  callsOK_mkM [] st_ok mp_ok it_ok mk_ok in_ok (AllOK.cons ok56 (AllOK.cons ok57 (AllOK.cons ok21 (AllOK.cons ok29 (AllOK.cons ok39 (AllOK.cons ok50 (AllOK.cons ok31 (AllOK.cons ok34 (AllOK.cons ok36 (AllOK.cons ok41 (AllOK.cons ok28 (AllOK.cons ok38 AllOK.nil)))))))))))) no_an Try.func17 (by kernel_rfl) (by kernel_rfl) f17_ct fun _ _ Q h => (v17  Q).mp (p17 h)
theorem ok6 : CallsOK Try.prog (assoc glT) 6 f6_ct :=
  callsOK_mkM [] st_ok mp_ok it_ok mk_ok in_ok (AllOK.cons ok16 (AllOK.cons ok17 (AllOK.cons ok18 (AllOK.cons ok19 (AllOK.cons ok34 (AllOK.cons ok23 (AllOK.cons ok22 (AllOK.cons ok32 (AllOK.cons ok35 AllOK.nil))))))))) no_an Try.func6 (by kernel_rfl) (by kernel_rfl) f6_ct fun ⟨s, f, p, _⟩ _ Q h => (v6 s f p Q).mp (p6 h)
end Go.Proofs.Fa
