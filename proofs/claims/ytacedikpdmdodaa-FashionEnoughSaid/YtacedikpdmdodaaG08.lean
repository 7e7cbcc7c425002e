/- Part 8 of the texts behind the proof: FaV5, FaP7, FaP8, FaM2, FaP9, FaV6, FaPa, FaPb, FaO3, FaC6, FaV7, FaPc, FaO4. -/
import Derived.Test.YtacedikpdmdodaaG07
import Derived.Test.YtacedikpdmdodaaProg
set_option linter.unusedSimpArgs false
set_option linter.unusedVariables false
set_option linter.unusedSectionVars false
set_option linter.unusedVariables false
set_option maxRecDepth 100000
namespace Go.Proofs.Fa
open Go Go.GX Go.Proofs

def V32 (n : Int) (a : Int) (b : Int) (Q : Bool → Prop) : Prop := cnd (decide (n ≥ a)) (Q (decide (n ≤ b))) (Q false)
theorem v32 (n : Int) (a : Int) (b : Int) (Q : Bool → Prop) : V32 n a b Q = vcFunc (S0 [] []) f32_ct.own f32_ct.fresh no_an Try.f32 (bodyOf Try.f32) f32_ct.A f32_ct.C f32_ct.R (n, a, b, ()) () Q := by kernel_rfl

def V22 (s : List Int × Int × List (Int × Int)) (f : List Spring) (Q : Int → Prop) : Prop := List.length s.1 ≤ (9223372036854775807 : Nat) → cnd (decide ((↑(List.length s.1) : Int) > (6 : Int))) (Q (5 : Int)) (List.length s.2.2 ≤ (9223372036854775807 : Nat) → cnd (decide ((↑(List.length s.2.2) : Int) > (5 : Int))) (Q (5 : Int)) (∃ (I : Int → Prop), ∃ (μ : Int → Nat), I (0 : Int) ∧ ∀ (x : Int), I x → List.length s.1 ≤ (9223372036854775807 : Nat) → cnd (decide (x < (↑(List.length s.1) : Int))) ((0 : Int) ≤ x ∧ x < (↑(List.length s.1) : Int) ∧ f32_wp (List.getD s.1 (Int.toNat x) (0 : Int), (1 : Int), (200 : Int), ()) () fun (r : Bool) ↦ cnd (!r) (Q (2 : Int)) (I (IntKind.wrap IntKind.i64 (x + (1 : Int))) ∧ μ (IntKind.wrap IntKind.i64 (x + (1 : Int))) < μ x)) (∃ (I : Int → Prop), ∃ (μ : Int → Nat), I (0 : Int) ∧ ∀ (x : Int), I x → List.length s.2.2 ≤ (9223372036854775807 : Nat) → cnd (decide (x < (↑(List.length s.2.2) : Int))) ((0 : Int) ≤ x ∧ x < (↑(List.length s.2.2) : Int) ∧ f32_wp (Prod.fst (List.getD s.2.2 (Int.toNat x) ((0 : Int), (0 : Int))), (1 : Int), (200 : Int), ()) () fun (r : Bool) ↦ cnd (!r) (Q (2 : Int)) ((0 : Int) ≤ x ∧ x < (↑(List.length s.2.2) : Int) ∧ f32_wp (Prod.snd (List.getD s.2.2 (Int.toNat x) ((0 : Int), (0 : Int))), (0 : Int), (200 : Int), ()) () fun (r : Bool) ↦ cnd (!r) (Q (2 : Int)) (I (IntKind.wrap IntKind.i64 (x + (1 : Int))) ∧ μ (IntKind.wrap IntKind.i64 (x + (1 : Int))) < μ x))) (f32_wp (s.2.1, (0 : Int), (10 : Int), ()) () fun (r : Bool) ↦ cnd (!r) (Q (2 : Int)) (List.length f ≤ (9223372036854775807 : Nat) → f32_wp ((↑(List.length f) : Int), (1 : Int), (4 : Int), ()) () fun (r : Bool) ↦ cnd (!r) (Q (4 : Int)) (∃ (I : Int → Prop), ∃ (μ : Int → Nat), I (0 : Int) ∧ ∀ (x : Int), I x → List.length f ≤ (9223372036854775807 : Nat) → cnd (decide (x < (↑(List.length f) : Int))) ((0 : Int) ≤ x ∧ x < (↑(List.length f) : Int) ∧ (0 : Int) ≤ x ∧ x < (↑(List.length f) : Int) ∧ ∃ (r : Bool), (f32_wp (Prod.fst (Prod.fst (List.getD f (Int.toNat x) (((0 : Int), (0 : Int)), (0 : Int), (0 : Int)))), (2 : Int), Prod.snd (Prod.fst (List.getD f (Int.toNat x) (((0 : Int), (0 : Int)), (0 : Int), (0 : Int)))), ()) () fun (r' : Bool) ↦ r' = r) ∧ cnd (!r) (Q (3 : Int)) ((0 : Int) ≤ x ∧ x < (↑(List.length f) : Int) ∧ cnd (decide (Prod.snd (Prod.fst (List.getD f (Int.toNat x) (((0 : Int), (0 : Int)), (0 : Int), (0 : Int)))) > (40 : Int))) (Q (3 : Int)) ((0 : Int) ≤ x ∧ x < (↑(List.length f) : Int) ∧ ∃ (r : Bool), (f32_wp (Prod.fst (Prod.snd (List.getD f (Int.toNat x) (((0 : Int), (0 : Int)), (0 : Int), (0 : Int)))), (0 : Int), (4 : Int), ()) () fun (r' : Bool) ↦ r' = r) ∧ cnd (!r) (Q (3 : Int)) ((0 : Int) ≤ x ∧ x < (↑(List.length f) : Int) ∧ ∃ (r : Bool), (f32_wp (Prod.snd (Prod.snd (List.getD f (Int.toNat x) (((0 : Int), (0 : Int)), (0 : Int), (0 : Int)))), (1 : Int), (200 : Int), ()) () fun (r' : Bool) ↦ r' = r) ∧ cnd (!r) (Q (3 : Int)) (I (IntKind.wrap IntKind.i64 (x + (1 : Int))) ∧ μ (IntKind.wrap IntKind.i64 (x + (1 : Int))) < μ x))))) (Q (0 : Int))))))))
theorem v22 (s : List Int × Int × List (Int × Int)) (f : List Spring) (Q : Int → Prop) : V22 s f Q = vcFunc (S0 [(32, f32_ct)] []) f22_ct.own f22_ct.fresh f22_an Try.f22 (bodyOf Try.f22) f22_ct.A f22_ct.C f22_ct.R (s, f, ()) () Q := by kernel_rfl

def V16 (s : List Int × Int × List (Int × Int)) (f : List Spring) (Q : Bool → Prop) : Prop := List.length s.1 ≤ (9223372036854775807 : Nat) → cnd (decide ((↑(List.length s.1) : Int) > (8 : Int))) (Q true) (List.length s.2.2 ≤ (9223372036854775807 : Nat) → cnd (decide ((↑(List.length s.2.2) : Int) > (8 : Int))) (Q true) (List.length f ≤ (9223372036854775807 : Nat) → Q (decide ((↑(List.length f) : Int) > (8 : Int)))))
theorem v16 (s : List Int × Int × List (Int × Int)) (f : List Spring) (Q : Bool → Prop) : V16 s f Q = vcFunc (S0 [] []) f16_ct.own f16_ct.fresh no_an Try.f16 (bodyOf Try.f16) f16_ct.A f16_ct.C f16_ct.R (s, f, ()) () Q := by kernel_rfl

def V18 (s : List Int × Int × List (Int × Int)) (Q : List Int × Int × List (Int × Int) → Prop) : Prop := (List.length ([] : List Int) + List.length s.1) * (8 : Nat) ≤ (140737488355328 : Nat) ∧ (List.length ([] : List (Int × Int)) + List.length s.2.2) * (16 : Nat) ≤ (140737488355328 : Nat) ∧ Q (([] : List Int) ++ s.1, s.2.1, ([] : List (Int × Int)) ++ s.2.2)
theorem v18 (s : List Int × Int × List (Int × Int)) (Q : List Int × Int × List (Int × Int) → Prop) : V18 s Q = vcFunc (S0 [] []) f18_ct.own f18_ct.fresh no_an Try.f18 (bodyOf Try.f18) f18_ct.A f18_ct.C f18_ct.R s () Q := by kernel_rfl

def V19 (f : List Spring) (Q : List Spring → Prop) : Prop := (List.length ([] : List Spring) + List.length f) * (32 : Nat) ≤ (140737488355328 : Nat) ∧ Q (([] : List Spring) ++ f)
theorem v19 (f : List Spring) (Q : List Spring → Prop) : V19 f Q = vcFunc (S0 [] []) f19_ct.own f19_ct.fresh no_an Try.f19 (bodyOf Try.f19) f19_ct.A f19_ct.C f19_ct.R f () Q := by kernel_rfl

def V38 (a : List Int) (b : List Int) (Q : Bool → Prop) : Prop := List.length a ≤ (9223372036854775807 : Nat) → List.length b ≤ (9223372036854775807 : Nat) → cnd ((↑(List.length a) : Int) != (↑(List.length b) : Int)) (Q false) (∃ (I : Int → Prop), ∃ (μ : Int → Nat), I (0 : Int) ∧ ∀ (x : Int), I x → List.length a ≤ (9223372036854775807 : Nat) → cnd (decide (x < (↑(List.length a) : Int))) ((0 : Int) ≤ x ∧ x < (↑(List.length a) : Int) ∧ (0 : Int) ≤ x ∧ x < (↑(List.length b) : Int) ∧ cnd (List.getD a (Int.toNat x) (0 : Int) != List.getD b (Int.toNat x) (0 : Int)) (Q false) (I (IntKind.wrap IntKind.i64 (x + (1 : Int))) ∧ μ (IntKind.wrap IntKind.i64 (x + (1 : Int))) < μ x)) (Q true))
theorem v38 (a : List Int) (b : List Int) (Q : Bool → Prop) : V38 a b Q = vcFunc (S0 [] []) f38_ct.own f38_ct.fresh one_an Try.f38 (bodyOf Try.f38) f38_ct.A f38_ct.C f38_ct.R (a, b, ()) () Q := by kernel_rfl

def V71 (a : List Spring) (b : List Spring) (Q : Bool → Prop) : Prop := List.length a ≤ (9223372036854775807 : Nat) → List.length b ≤ (9223372036854775807 : Nat) → cnd ((↑(List.length a) : Int) != (↑(List.length b) : Int)) (Q false) (∃ (I : Int → Prop), ∃ (μ : Int → Nat), I (0 : Int) ∧ ∀ (x : Int), I x → List.length a ≤ (9223372036854775807 : Nat) → cnd (decide (x < (↑(List.length a) : Int))) ((0 : Int) ≤ x ∧ x < (↑(List.length a) : Int) ∧ (0 : Int) ≤ x ∧ x < (↑(List.length b) : Int) ∧ cnd (!(Prod.fst (Prod.fst (List.getD a (Int.toNat x) (((0 : Int), (0 : Int)), (0 : Int), (0 : Int)))) == Prod.fst (Prod.fst (List.getD b (Int.toNat x) (((0 : Int), (0 : Int)), (0 : Int), (0 : Int)))) && (Prod.snd (Prod.fst (List.getD a (Int.toNat x) (((0 : Int), (0 : Int)), (0 : Int), (0 : Int)))) == Prod.snd (Prod.fst (List.getD b (Int.toNat x) (((0 : Int), (0 : Int)), (0 : Int), (0 : Int)))) && (Prod.fst (Prod.snd (List.getD a (Int.toNat x) (((0 : Int), (0 : Int)), (0 : Int), (0 : Int)))) == Prod.fst (Prod.snd (List.getD b (Int.toNat x) (((0 : Int), (0 : Int)), (0 : Int), (0 : Int)))) && (Prod.snd (Prod.snd (List.getD a (Int.toNat x) (((0 : Int), (0 : Int)), (0 : Int), (0 : Int)))) == Prod.snd (Prod.snd (List.getD b (Int.toNat x) (((0 : Int), (0 : Int)), (0 : Int), (0 : Int)))) && true))))) (Q false) (I (IntKind.wrap IntKind.i64 (x + (1 : Int))) ∧ μ (IntKind.wrap IntKind.i64 (x + (1 : Int))) < μ x)) (Q true))
theorem v71 (a : List Spring) (b : List Spring) (Q : Bool → Prop) : V71 a b Q = vcFunc (S0 [] []) f71_ct.own f71_ct.fresh one_an Try.f71 (bodyOf Try.f71) f71_ct.A f71_ct.C f71_ct.R (a, b, ()) () Q := by kernel_rfl

def V70 (a : List Int × Int × List (Int × Int)) (b : List Int × Int × List (Int × Int)) (Q : Bool → Prop) : Prop := f38_wp (a.1, b.1, ()) () fun (r : Bool) ↦ cnd (!r) (Q false) (cnd (a.2.1 != b.2.1) (Q false) (List.length a.2.2 ≤ (9223372036854775807 : Nat) → List.length b.2.2 ≤ (9223372036854775807 : Nat) → cnd ((↑(List.length a.2.2) : Int) != (↑(List.length b.2.2) : Int)) (Q false) (∃ (I : Int → Prop), ∃ (μ : Int → Nat), I (0 : Int) ∧ ∀ (x : Int), I x → List.length a.2.2 ≤ (9223372036854775807 : Nat) → cnd (decide (x < (↑(List.length a.2.2) : Int))) ((0 : Int) ≤ x ∧ x < (↑(List.length a.2.2) : Int) ∧ (0 : Int) ≤ x ∧ x < (↑(List.length b.2.2) : Int) ∧ cnd (!(Prod.fst (List.getD a.2.2 (Int.toNat x) ((0 : Int), (0 : Int))) == Prod.fst (List.getD b.2.2 (Int.toNat x) ((0 : Int), (0 : Int))) && (Prod.snd (List.getD a.2.2 (Int.toNat x) ((0 : Int), (0 : Int))) == Prod.snd (List.getD b.2.2 (Int.toNat x) ((0 : Int), (0 : Int))) && true))) (Q false) (I (IntKind.wrap IntKind.i64 (x + (1 : Int))) ∧ μ (IntKind.wrap IntKind.i64 (x + (1 : Int))) < μ x)) (Q true))))
theorem v70 (a : List Int × Int × List (Int × Int)) (b : List Int × Int × List (Int × Int)) (Q : Bool → Prop) : V70 a b Q = vcFunc (S0 [(38, f38_ct)] []) f70_ct.own f70_ct.fresh one_an Try.f70 (bodyOf Try.f70) f70_ct.A f70_ct.C f70_ct.R (a, b, ()) () Q := by kernel_rfl

def V23 (a : List Int × Int × List (Int × Int)) (b : List Int × Int × List (Int × Int)) (f : List Spring) (g : List Spring) (Q : Bool → Prop) : Prop := f70_wp ((a.1, a.2.1, a.2.2), (b.1, b.2.1, b.2.2), ()) () fun (r : Bool) ↦ cnd r (f71_wp (f, g, ()) () fun (r : Bool) ↦ Q r) (Q false)
theorem v23 (a : List Int × Int × List (Int × Int)) (b : List Int × Int × List (Int × Int)) (f : List Spring) (g : List Spring) (Q : Bool → Prop) : V23 a b f g Q = vcFunc (S0 [(70, f70_ct), (71, f71_ct)] []) f23_ct.own f23_ct.fresh no_an Try.f23 (bodyOf Try.f23) f23_ct.A f23_ct.C f23_ct.R (a, b, f, g, ()) () Q := by kernel_rfl

def V28 (a : List (List Int)) (b : List (List Int)) (Q : Bool → Prop) : Prop := List.length a ≤ (9223372036854775807 : Nat) → List.length b ≤ (9223372036854775807 : Nat) → cnd ((↑(List.length a) : Int) != (↑(List.length b) : Int)) (Q false) (∃ (I : Int → Prop), ∃ (μ : Int → Nat), I (0 : Int) ∧ ∀ (x : Int), I x → List.length a ≤ (9223372036854775807 : Nat) → cnd (decide (x < (↑(List.length a) : Int))) ((0 : Int) ≤ x ∧ x < (↑(List.length a) : Int) ∧ (0 : Int) ≤ x ∧ x < (↑(List.length b) : Int) ∧ ∃ (r : Bool), (f38_wp (List.getD a (Int.toNat x) ([] : List Int), List.getD b (Int.toNat x) ([] : List Int), ()) () fun (r' : Bool) ↦ r' = r) ∧ cnd (!r) (Q false) (I (IntKind.wrap IntKind.i64 (x + (1 : Int))) ∧ μ (IntKind.wrap IntKind.i64 (x + (1 : Int))) < μ x)) (Q true))
theorem v28 (a : List (List Int)) (b : List (List Int)) (Q : Bool → Prop) : V28 a b Q = vcFunc (S0 [(38, f38_ct)] []) f28_ct.own f28_ct.fresh one_an Try.f28 (bodyOf Try.f28) f28_ct.A f28_ct.C f28_ct.R (a, b, ()) () Q := by kernel_rfl

def V90 (n : Int) (Q : Int × Int × Int × Int → Prop) : Prop := (125 : Int) ≠ (0 : Int) ∧ (25 : Int) ≠ (0 : Int) ∧ (5 : Int) ≠ (0 : Int) ∧ (5 : Int) ≠ (0 : Int) ∧ (5 : Int) ≠ (0 : Int) ∧ (5 : Int) ≠ (0 : Int) ∧ Q (IntKind.wrap IntKind.i64 (Int.tdiv n (125 : Int)), Int.tmod (IntKind.wrap IntKind.i64 (Int.tdiv n (25 : Int))) (5 : Int), Int.tmod (IntKind.wrap IntKind.i64 (Int.tdiv n (5 : Int))) (5 : Int), Int.tmod n (5 : Int))
theorem v90 (n : Int) (Q : Int × Int × Int × Int → Prop) : V90 n Q = vcFunc (S0 [] []) f90_ct.own f90_ct.fresh no_an Try.f90 (bodyOf Try.f90) f90_ct.A f90_ct.C f90_ct.R n () Q := by kernel_rfl

def V73 (f : Int × Int × Int × Int) (Q : Int → Prop) : Prop := Q (IntKind.wrap IntKind.i64 (IntKind.wrap IntKind.i64 (IntKind.wrap IntKind.i64 (IntKind.wrap IntKind.i64 (IntKind.wrap IntKind.i64 (IntKind.wrap IntKind.i64 (f.1 * (5 : Int)) + f.2.1) * (5 : Int)) + f.2.2.1) * (5 : Int)) + f.2.2.2))
theorem v73 (f : Int × Int × Int × Int) (Q : Int → Prop) : V73 f Q = vcFunc (S0 [] []) f73_ct.own f73_ct.fresh no_an Try.f73 (bodyOf Try.f73) f73_ct.A f73_ct.C f73_ct.R f () Q := by kernel_rfl

def V76 (b : FansT × FansT × Int × Int) (f : Int × Int × Int × Int) (Q : Int → Prop) : Prop := ∃ (I : Int → Int → Int → Int → Prop), ∃ (μ : Int → Int → Int → Int → Nat), I (0 : Int) (0 : Int) (0 : Int) (0 : Int) ∧ ∀ (x x_1 x_2 x_3 : Int), I x x_1 x_2 x_3 → cnd (decide (x < (4 : Int))) ((0 : Int) ≤ x ∧ x < (↑(4 : Nat) : Int) ∧ (0 : Int) ≤ x ∧ x < (↑(4 : Nat) : Int) ∧ (0 : Int) ≤ x ∧ x < (↑(4 : Nat) : Int) ∧ (0 : Int) ≤ x ∧ x < (↑(4 : Nat) : Int) ∧ (0 : Int) ≤ x ∧ x < (↑(4 : Nat) : Int) ∧ I (IntKind.wrap IntKind.i64 (x + (1 : Int))) (IntKind.wrap IntKind.i64 (x_1 + IntKind.wrap IntKind.i64 (List.getD (l4 f) (Int.toNat x) f.1 * List.getD (l4 b.1) (Int.toNat x) b.1.1))) (IntKind.wrap IntKind.i64 (x_2 + IntKind.wrap IntKind.i64 (List.getD (l4 f) (Int.toNat x) f.1 * List.getD (l4 b.2.1) (Int.toNat x) b.2.1.1))) (IntKind.wrap IntKind.i64 (x_3 + List.getD (l4 f) (Int.toNat x) f.1)) ∧ μ (IntKind.wrap IntKind.i64 (x + (1 : Int))) (IntKind.wrap IntKind.i64 (x_1 + IntKind.wrap IntKind.i64 (List.getD (l4 f) (Int.toNat x) f.1 * List.getD (l4 b.1) (Int.toNat x) b.1.1))) (IntKind.wrap IntKind.i64 (x_2 + IntKind.wrap IntKind.i64 (List.getD (l4 f) (Int.toNat x) f.1 * List.getD (l4 b.2.1) (Int.toNat x) b.2.1.1))) (IntKind.wrap IntKind.i64 (x_3 + List.getD (l4 f) (Int.toNat x) f.1)) < μ x x_1 x_2 x_3) (cnd (decide (x_1 > b.2.2.1)) (Q (-1 : Int)) (cnd (decide (x_3 > (0 : Int))) (Q (IntKind.wrap IntKind.i64 (x_2 + b.2.2.2))) (Q x_2)))
theorem v76 (b : FansT × FansT × Int × Int) (f : Int × Int × Int × Int) (Q : Int → Prop) : V76 b f Q = vcFunc (S0 [] []) f76_ct.own f76_ct.fresh f76_an Try.f76 (bodyOf Try.f76) f76_ct.A f76_ct.C f76_ct.R (b, f, ()) () Q := by kernel_rfl

def V96 (b : FansT × FansT × Int × Int) (rest : List Int) (f : Int × Int × Int × Int) (Q : Int → Prop) : Prop := ∃ (I : Int → Int → Prop), ∃ (μ : Int → Int → Nat), I (0 : Int) (-1 : Int) ∧ ∀ (x x_1 : Int), I x x_1 → f73_wp (f.1, f.2.1, f.2.2.1, f.2.2.2) () fun (r : Int) ↦ cnd (decide (x ≤ r)) (f90_wp x () fun (r : Int × Int × Int × Int) ↦ ∃ (I_1 : Int → Int × Int × Int × Int → Bool → Prop), ∃ (μ_1 : Int → Int × Int × Int × Int → Bool → Nat), I_1 (0 : Int) ((0 : Int), (0 : Int), (0 : Int), (0 : Int)) true ∧ ∀ (x_2 : Int) (x_3 : Int × Int × Int × Int) (x_4 : Bool), I_1 x_2 x_3 x_4 → cnd (decide (x_2 < (4 : Int))) ((0 : Int) ≤ x_2 ∧ x_2 < (↑(4 : Nat) : Int) ∧ (0 : Int) ≤ x_2 ∧ x_2 < (↑(4 : Nat) : Int) ∧ (0 : Int) ≤ x_2 ∧ x_2 < (↑(4 : Nat) : Int) ∧ cnd x_4 ((0 : Int) ≤ x_2 ∧ x_2 < (↑(4 : Nat) : Int) ∧ I_1 (IntKind.wrap IntKind.i64 (x_2 + (1 : Int))) (List.getD (List.set (l4 x_3) (Int.toNat x_2) (IntKind.wrap IntKind.i64 (List.getD (l4 f) (Int.toNat x_2) f.1 - List.getD (l4 r) (Int.toNat x_2) r.1))) (nat_lit 0) (IntKind.wrap IntKind.i64 (List.getD (l4 f) (Int.toNat x_2) f.1 - List.getD (l4 r) (Int.toNat x_2) r.1)), List.getD (List.set (l4 x_3) (Int.toNat x_2) (IntKind.wrap IntKind.i64 (List.getD (l4 f) (Int.toNat x_2) f.1 - List.getD (l4 r) (Int.toNat x_2) r.1))) (nat_lit 1) (IntKind.wrap IntKind.i64 (List.getD (l4 f) (Int.toNat x_2) f.1 - List.getD (l4 r) (Int.toNat x_2) r.1)), List.getD (List.set (l4 x_3) (Int.toNat x_2) (IntKind.wrap IntKind.i64 (List.getD (l4 f) (Int.toNat x_2) f.1 - List.getD (l4 r) (Int.toNat x_2) r.1))) (nat_lit 2) (IntKind.wrap IntKind.i64 (List.getD (l4 f) (Int.toNat x_2) f.1 - List.getD (l4 r) (Int.toNat x_2) r.1)), List.getD (List.set (l4 x_3) (Int.toNat x_2) (IntKind.wrap IntKind.i64 (List.getD (l4 f) (Int.toNat x_2) f.1 - List.getD (l4 r) (Int.toNat x_2) r.1))) (nat_lit 3) (IntKind.wrap IntKind.i64 (List.getD (l4 f) (Int.toNat x_2) f.1 - List.getD (l4 r) (Int.toNat x_2) r.1))) (decide (List.getD (List.getD (List.set (l4 x_3) (Int.toNat x_2) (IntKind.wrap IntKind.i64 (List.getD (l4 f) (Int.toNat x_2) f.1 - List.getD (l4 r) (Int.toNat x_2) r.1))) (nat_lit 0) (IntKind.wrap IntKind.i64 (List.getD (l4 f) (Int.toNat x_2) f.1 - List.getD (l4 r) (Int.toNat x_2) r.1)) :: List.getD (List.set (l4 x_3) (Int.toNat x_2) (IntKind.wrap IntKind.i64 (List.getD (l4 f) (Int.toNat x_2) f.1 - List.getD (l4 r) (Int.toNat x_2) r.1))) (nat_lit 1) (IntKind.wrap IntKind.i64 (List.getD (l4 f) (Int.toNat x_2) f.1 - List.getD (l4 r) (Int.toNat x_2) r.1)) :: List.getD (List.set (l4 x_3) (Int.toNat x_2) (IntKind.wrap IntKind.i64 (List.getD (l4 f) (Int.toNat x_2) f.1 - List.getD (l4 r) (Int.toNat x_2) r.1))) (nat_lit 2) (IntKind.wrap IntKind.i64 (List.getD (l4 f) (Int.toNat x_2) f.1 - List.getD (l4 r) (Int.toNat x_2) r.1)) :: List.getD (List.set (l4 x_3) (Int.toNat x_2) (IntKind.wrap IntKind.i64 (List.getD (l4 f) (Int.toNat x_2) f.1 - List.getD (l4 r) (Int.toNat x_2) r.1))) (nat_lit 3) (IntKind.wrap IntKind.i64 (List.getD (l4 f) (Int.toNat x_2) f.1 - List.getD (l4 r) (Int.toNat x_2) r.1)) :: ([] : List Int)) (Int.toNat x_2) (List.getD (List.set (l4 x_3) (Int.toNat x_2) (IntKind.wrap IntKind.i64 (List.getD (l4 f) (Int.toNat x_2) f.1 - List.getD (l4 r) (Int.toNat x_2) r.1))) (nat_lit 0) (IntKind.wrap IntKind.i64 (List.getD (l4 f) (Int.toNat x_2) f.1 - List.getD (l4 r) (Int.toNat x_2) r.1))) ≥ (0 : Int))) ∧ μ_1 (IntKind.wrap IntKind.i64 (x_2 + (1 : Int))) (List.getD (List.set (l4 x_3) (Int.toNat x_2) (IntKind.wrap IntKind.i64 (List.getD (l4 f) (Int.toNat x_2) f.1 - List.getD (l4 r) (Int.toNat x_2) r.1))) (nat_lit 0) (IntKind.wrap IntKind.i64 (List.getD (l4 f) (Int.toNat x_2) f.1 - List.getD (l4 r) (Int.toNat x_2) r.1)), List.getD (List.set (l4 x_3) (Int.toNat x_2) (IntKind.wrap IntKind.i64 (List.getD (l4 f) (Int.toNat x_2) f.1 - List.getD (l4 r) (Int.toNat x_2) r.1))) (nat_lit 1) (IntKind.wrap IntKind.i64 (List.getD (l4 f) (Int.toNat x_2) f.1 - List.getD (l4 r) (Int.toNat x_2) r.1)), List.getD (List.set (l4 x_3) (Int.toNat x_2) (IntKind.wrap IntKind.i64 (List.getD (l4 f) (Int.toNat x_2) f.1 - List.getD (l4 r) (Int.toNat x_2) r.1))) (nat_lit 2) (IntKind.wrap IntKind.i64 (List.getD (l4 f) (Int.toNat x_2) f.1 - List.getD (l4 r) (Int.toNat x_2) r.1)), List.getD (List.set (l4 x_3) (Int.toNat x_2) (IntKind.wrap IntKind.i64 (List.getD (l4 f) (Int.toNat x_2) f.1 - List.getD (l4 r) (Int.toNat x_2) r.1))) (nat_lit 3) (IntKind.wrap IntKind.i64 (List.getD (l4 f) (Int.toNat x_2) f.1 - List.getD (l4 r) (Int.toNat x_2) r.1))) (decide (List.getD (List.getD (List.set (l4 x_3) (Int.toNat x_2) (IntKind.wrap IntKind.i64 (List.getD (l4 f) (Int.toNat x_2) f.1 - List.getD (l4 r) (Int.toNat x_2) r.1))) (nat_lit 0) (IntKind.wrap IntKind.i64 (List.getD (l4 f) (Int.toNat x_2) f.1 - List.getD (l4 r) (Int.toNat x_2) r.1)) :: List.getD (List.set (l4 x_3) (Int.toNat x_2) (IntKind.wrap IntKind.i64 (List.getD (l4 f) (Int.toNat x_2) f.1 - List.getD (l4 r) (Int.toNat x_2) r.1))) (nat_lit 1) (IntKind.wrap IntKind.i64 (List.getD (l4 f) (Int.toNat x_2) f.1 - List.getD (l4 r) (Int.toNat x_2) r.1)) :: List.getD (List.set (l4 x_3) (Int.toNat x_2) (IntKind.wrap IntKind.i64 (List.getD (l4 f) (Int.toNat x_2) f.1 - List.getD (l4 r) (Int.toNat x_2) r.1))) (nat_lit 2) (IntKind.wrap IntKind.i64 (List.getD (l4 f) (Int.toNat x_2) f.1 - List.getD (l4 r) (Int.toNat x_2) r.1)) :: List.getD (List.set (l4 x_3) (Int.toNat x_2) (IntKind.wrap IntKind.i64 (List.getD (l4 f) (Int.toNat x_2) f.1 - List.getD (l4 r) (Int.toNat x_2) r.1))) (nat_lit 3) (IntKind.wrap IntKind.i64 (List.getD (l4 f) (Int.toNat x_2) f.1 - List.getD (l4 r) (Int.toNat x_2) r.1)) :: ([] : List Int)) (Int.toNat x_2) (List.getD (List.set (l4 x_3) (Int.toNat x_2) (IntKind.wrap IntKind.i64 (List.getD (l4 f) (Int.toNat x_2) f.1 - List.getD (l4 r) (Int.toNat x_2) r.1))) (nat_lit 0) (IntKind.wrap IntKind.i64 (List.getD (l4 f) (Int.toNat x_2) f.1 - List.getD (l4 r) (Int.toNat x_2) r.1))) ≥ (0 : Int))) < μ_1 x_2 x_3 x_4) (I_1 (IntKind.wrap IntKind.i64 (x_2 + (1 : Int))) (List.getD (List.set (l4 x_3) (Int.toNat x_2) (IntKind.wrap IntKind.i64 (List.getD (l4 f) (Int.toNat x_2) f.1 - List.getD (l4 r) (Int.toNat x_2) r.1))) (nat_lit 0) (IntKind.wrap IntKind.i64 (List.getD (l4 f) (Int.toNat x_2) f.1 - List.getD (l4 r) (Int.toNat x_2) r.1)), List.getD (List.set (l4 x_3) (Int.toNat x_2) (IntKind.wrap IntKind.i64 (List.getD (l4 f) (Int.toNat x_2) f.1 - List.getD (l4 r) (Int.toNat x_2) r.1))) (nat_lit 1) (IntKind.wrap IntKind.i64 (List.getD (l4 f) (Int.toNat x_2) f.1 - List.getD (l4 r) (Int.toNat x_2) r.1)), List.getD (List.set (l4 x_3) (Int.toNat x_2) (IntKind.wrap IntKind.i64 (List.getD (l4 f) (Int.toNat x_2) f.1 - List.getD (l4 r) (Int.toNat x_2) r.1))) (nat_lit 2) (IntKind.wrap IntKind.i64 (List.getD (l4 f) (Int.toNat x_2) f.1 - List.getD (l4 r) (Int.toNat x_2) r.1)), List.getD (List.set (l4 x_3) (Int.toNat x_2) (IntKind.wrap IntKind.i64 (List.getD (l4 f) (Int.toNat x_2) f.1 - List.getD (l4 r) (Int.toNat x_2) r.1))) (nat_lit 3) (IntKind.wrap IntKind.i64 (List.getD (l4 f) (Int.toNat x_2) f.1 - List.getD (l4 r) (Int.toNat x_2) r.1))) false ∧ μ_1 (IntKind.wrap IntKind.i64 (x_2 + (1 : Int))) (List.getD (List.set (l4 x_3) (Int.toNat x_2) (IntKind.wrap IntKind.i64 (List.getD (l4 f) (Int.toNat x_2) f.1 - List.getD (l4 r) (Int.toNat x_2) r.1))) (nat_lit 0) (IntKind.wrap IntKind.i64 (List.getD (l4 f) (Int.toNat x_2) f.1 - List.getD (l4 r) (Int.toNat x_2) r.1)), List.getD (List.set (l4 x_3) (Int.toNat x_2) (IntKind.wrap IntKind.i64 (List.getD (l4 f) (Int.toNat x_2) f.1 - List.getD (l4 r) (Int.toNat x_2) r.1))) (nat_lit 1) (IntKind.wrap IntKind.i64 (List.getD (l4 f) (Int.toNat x_2) f.1 - List.getD (l4 r) (Int.toNat x_2) r.1)), List.getD (List.set (l4 x_3) (Int.toNat x_2) (IntKind.wrap IntKind.i64 (List.getD (l4 f) (Int.toNat x_2) f.1 - List.getD (l4 r) (Int.toNat x_2) r.1))) (nat_lit 2) (IntKind.wrap IntKind.i64 (List.getD (l4 f) (Int.toNat x_2) f.1 - List.getD (l4 r) (Int.toNat x_2) r.1)), List.getD (List.set (l4 x_3) (Int.toNat x_2) (IntKind.wrap IntKind.i64 (List.getD (l4 f) (Int.toNat x_2) f.1 - List.getD (l4 r) (Int.toNat x_2) r.1))) (nat_lit 3) (IntKind.wrap IntKind.i64 (List.getD (l4 f) (Int.toNat x_2) f.1 - List.getD (l4 r) (Int.toNat x_2) r.1))) false < μ_1 x_2 x_3 x_4)) (cnd (!x_4) (I (IntKind.wrap IntKind.i64 (x + (1 : Int))) x_1 ∧ μ (IntKind.wrap IntKind.i64 (x + (1 : Int))) x_1 < μ x x_1) (f73_wp (x_3.1, x_3.2.1, x_3.2.2.1, x_3.2.2.2) () fun (r_1 : Int) ↦ (0 : Int) ≤ r_1 ∧ r_1 < (↑(List.length rest) : Int) ∧ cnd (decide (List.getD rest (Int.toNat r_1) (0 : Int) < (0 : Int))) (I (IntKind.wrap IntKind.i64 (x + (1 : Int))) x_1 ∧ μ (IntKind.wrap IntKind.i64 (x + (1 : Int))) x_1 < μ x x_1) (f76_wp (((b.1.1, b.1.2.1, b.1.2.2.1, b.1.2.2.2), (b.2.1.1, b.2.1.2.1, b.2.1.2.2.1, b.2.1.2.2.2), b.2.2.1, b.2.2.2), (r.1, r.2.1, r.2.2.1, r.2.2.2), ()) () fun (r : Int) ↦ cnd (decide (r ≥ (0 : Int))) (cnd (decide (x_1 < (0 : Int))) (f73_wp (x_3.1, x_3.2.1, x_3.2.2.1, x_3.2.2.2) () fun (r_2 : Int) ↦ (0 : Int) ≤ r_2 ∧ r_2 < (↑(List.length rest) : Int) ∧ I (IntKind.wrap IntKind.i64 (x + (1 : Int))) (IntKind.wrap IntKind.i64 (r + List.getD rest (Int.toNat r_2) (0 : Int))) ∧ μ (IntKind.wrap IntKind.i64 (x + (1 : Int))) (IntKind.wrap IntKind.i64 (r + List.getD rest (Int.toNat r_2) (0 : Int))) < μ x x_1) (f73_wp (x_3.1, x_3.2.1, x_3.2.2.1, x_3.2.2.2) () fun (r_2 : Int) ↦ (0 : Int) ≤ r_2 ∧ r_2 < (↑(List.length rest) : Int) ∧ cnd (decide (IntKind.wrap IntKind.i64 (r + List.getD rest (Int.toNat r_2) (0 : Int)) < x_1)) (f73_wp (x_3.1, x_3.2.1, x_3.2.2.1, x_3.2.2.2) () fun (r_3 : Int) ↦ (0 : Int) ≤ r_3 ∧ r_3 < (↑(List.length rest) : Int) ∧ I (IntKind.wrap IntKind.i64 (x + (1 : Int))) (IntKind.wrap IntKind.i64 (r + List.getD rest (Int.toNat r_3) (0 : Int))) ∧ μ (IntKind.wrap IntKind.i64 (x + (1 : Int))) (IntKind.wrap IntKind.i64 (r + List.getD rest (Int.toNat r_3) (0 : Int))) < μ x x_1) (I (IntKind.wrap IntKind.i64 (x + (1 : Int))) x_1 ∧ μ (IntKind.wrap IntKind.i64 (x + (1 : Int))) x_1 < μ x x_1))) (I (IntKind.wrap IntKind.i64 (x + (1 : Int))) x_1 ∧ μ (IntKind.wrap IntKind.i64 (x + (1 : Int))) x_1 < μ x x_1))))) (Q x_1)
theorem v96 (b : FansT × FansT × Int × Int) (rest : List Int) (f : Int × Int × Int × Int) (Q : Int → Prop) : V96 b rest f Q = vcFunc (S0 [(73, f73_ct), (90, f90_ct), (76, f76_ct)] []) f96_ct.own f96_ct.fresh f96_an Try.f96 (bodyOf Try.f96) f96_ct.A f96_ct.C f96_ct.R (b, rest, f, ()) () Q := by kernel_rfl

def V72 (bs : List BinT) (i : Int) (Q : List Int → Prop) : Prop := (625 : Int) = (625 : Int) ∧ (0 : Int) ≤ (625 : Int) ∧ (625 : Int) * (↑(8 : Nat) : Int) ≤ (140737488355328 : Int) ∧ ∃ (I : Int → List Int → Prop), ∃ (μ : Int → List Int → Nat), I (1 : Int) (List.replicate (Int.toNat (625 : Int)) (0 : Int)) ∧ ∀ (x : Int) (x_1 : List Int), I x x_1 → cnd (decide (x < (625 : Int))) ((0 : Int) ≤ x ∧ x < (↑(List.length x_1) : Int) ∧ I (IntKind.wrap IntKind.i64 (x + (1 : Int))) (List.set x_1 (Int.toNat x) (-1 : Int)) ∧ μ (IntKind.wrap IntKind.i64 (x + (1 : Int))) (List.set x_1 (Int.toNat x) (-1 : Int)) < μ x x_1) (List.length bs ≤ (9223372036854775807 : Nat) → ∃ (I : Int → List Int → Prop), ∃ (μ : Int → List Int → Nat), I (IntKind.wrap IntKind.i64 ((↑(List.length bs) : Int) - (1 : Int))) x_1 ∧ ∀ (x : Int) (x_2 : List Int), I x x_2 → cnd (decide (x ≥ i)) ((625 : Int) = (625 : Int) ∧ (0 : Int) ≤ (625 : Int) ∧ (625 : Int) * (↑(8 : Nat) : Int) ≤ (140737488355328 : Int) ∧ ∃ (I_1 : Int → List Int → Prop), ∃ (μ_1 : Int → List Int → Nat), I_1 (0 : Int) (List.replicate (Int.toNat (625 : Int)) (0 : Int)) ∧ ∀ (x_3 : Int) (x_4 : List Int), I_1 x_3 x_4 → cnd (decide (x_3 < (625 : Int))) ((0 : Int) ≤ x ∧ x < (↑(List.length bs) : Int) ∧ ∃ (r : Int × Int × Int × Int), (f90_wp x_3 () fun (r' : Int × Int × Int × Int) ↦ r' = r) ∧ ∃ (r_1 : Int), (f96_wp (((Prod.fst (Prod.fst (List.getD bs (Int.toNat x) (((0 : Int), (0 : Int), (0 : Int), (0 : Int)), ((0 : Int), (0 : Int), (0 : Int), (0 : Int)), (0 : Int), (0 : Int)))), Prod.fst (Prod.snd (Prod.fst (List.getD bs (Int.toNat x) (((0 : Int), (0 : Int), (0 : Int), (0 : Int)), ((0 : Int), (0 : Int), (0 : Int), (0 : Int)), (0 : Int), (0 : Int))))), Prod.fst (Prod.snd (Prod.snd (Prod.fst (List.getD bs (Int.toNat x) (((0 : Int), (0 : Int), (0 : Int), (0 : Int)), ((0 : Int), (0 : Int), (0 : Int), (0 : Int)), (0 : Int), (0 : Int)))))), Prod.snd (Prod.snd (Prod.snd (Prod.fst (List.getD bs (Int.toNat x) (((0 : Int), (0 : Int), (0 : Int), (0 : Int)), ((0 : Int), (0 : Int), (0 : Int), (0 : Int)), (0 : Int), (0 : Int))))))), (Prod.fst (Prod.fst (Prod.snd (List.getD bs (Int.toNat x) (((0 : Int), (0 : Int), (0 : Int), (0 : Int)), ((0 : Int), (0 : Int), (0 : Int), (0 : Int)), (0 : Int), (0 : Int))))), Prod.fst (Prod.snd (Prod.fst (Prod.snd (List.getD bs (Int.toNat x) (((0 : Int), (0 : Int), (0 : Int), (0 : Int)), ((0 : Int), (0 : Int), (0 : Int), (0 : Int)), (0 : Int), (0 : Int)))))), Prod.fst (Prod.snd (Prod.snd (Prod.fst (Prod.snd (List.getD bs (Int.toNat x) (((0 : Int), (0 : Int), (0 : Int), (0 : Int)), ((0 : Int), (0 : Int), (0 : Int), (0 : Int)), (0 : Int), (0 : Int))))))), Prod.snd (Prod.snd (Prod.snd (Prod.fst (Prod.snd (List.getD bs (Int.toNat x) (((0 : Int), (0 : Int), (0 : Int), (0 : Int)), ((0 : Int), (0 : Int), (0 : Int), (0 : Int)), (0 : Int), (0 : Int)))))))), Prod.fst (Prod.snd (Prod.snd (List.getD bs (Int.toNat x) (((0 : Int), (0 : Int), (0 : Int), (0 : Int)), ((0 : Int), (0 : Int), (0 : Int), (0 : Int)), (0 : Int), (0 : Int))))), Prod.snd (Prod.snd (Prod.snd (List.getD bs (Int.toNat x) (((0 : Int), (0 : Int), (0 : Int), (0 : Int)), ((0 : Int), (0 : Int), (0 : Int), (0 : Int)), (0 : Int), (0 : Int)))))), x_2, (r.1, r.2.1, r.2.2.1, r.2.2.2), ()) () fun (r' : Int) ↦ r' = r_1) ∧ (0 : Int) ≤ x_3 ∧ x_3 < (↑(List.length x_4) : Int) ∧ I_1 (IntKind.wrap IntKind.i64 (x_3 + (1 : Int))) (List.set x_4 (Int.toNat x_3) r_1) ∧ μ_1 (IntKind.wrap IntKind.i64 (x_3 + (1 : Int))) (List.set x_4 (Int.toNat x_3) r_1) < μ_1 x_3 x_4) (I (IntKind.wrap IntKind.i64 (x - (1 : Int))) x_4 ∧ μ (IntKind.wrap IntKind.i64 (x - (1 : Int))) x_4 < μ x x_2)) (Q x_2))
theorem v72 (bs : List BinT) (i : Int) (Q : List Int → Prop) : V72 bs i Q = vcFunc (S0 [(90, f90_ct), (96, f96_ct)] []) f72_ct.own f72_ct.fresh f72_an Try.f72 (bodyOf Try.f72) f72_ct.A f72_ct.C f72_ct.R (bs, i, ()) () Q := by kernel_rfl

def V26 (f : List Spring) (m : Bool) (Q : Int × Int × Int × Int → Prop) : Prop := ∃ (I : Int → Int × Int × Int × Int → Prop), ∃ (μ : Int → Int × Int × Int × Int → Nat), I (0 : Int) ((0 : Int), (0 : Int), (0 : Int), (0 : Int)) ∧ ∀ (x : Int) (x_1 : Int × Int × Int × Int), I x x_1 → List.length f ≤ (9223372036854775807 : Nat) → cnd (decide (x < (↑(List.length f) : Int))) ((0 : Int) ≤ x ∧ x < (↑(List.length f) : Int) ∧ (0 : Int) ≤ x ∧ x < (↑(4 : Nat) : Int) ∧ cnd m ((0 : Int) ≤ x ∧ x < (↑(List.length f) : Int) ∧ (0 : Int) ≤ x ∧ x < (↑(4 : Nat) : Int) ∧ I (IntKind.wrap IntKind.i64 (x + (1 : Int))) (List.getD (List.set (List.getD (List.set (l4 x_1) (Int.toNat x) (Prod.fst (Prod.fst (List.getD f (Int.toNat x) (((0 : Int), (0 : Int)), (0 : Int), (0 : Int)))))) (nat_lit 0) (Prod.fst (Prod.fst (List.getD f (Int.toNat x) (((0 : Int), (0 : Int)), (0 : Int), (0 : Int))))) :: List.getD (List.set (l4 x_1) (Int.toNat x) (Prod.fst (Prod.fst (List.getD f (Int.toNat x) (((0 : Int), (0 : Int)), (0 : Int), (0 : Int)))))) (nat_lit 1) (Prod.fst (Prod.fst (List.getD f (Int.toNat x) (((0 : Int), (0 : Int)), (0 : Int), (0 : Int))))) :: List.getD (List.set (l4 x_1) (Int.toNat x) (Prod.fst (Prod.fst (List.getD f (Int.toNat x) (((0 : Int), (0 : Int)), (0 : Int), (0 : Int)))))) (nat_lit 2) (Prod.fst (Prod.fst (List.getD f (Int.toNat x) (((0 : Int), (0 : Int)), (0 : Int), (0 : Int))))) :: List.getD (List.set (l4 x_1) (Int.toNat x) (Prod.fst (Prod.fst (List.getD f (Int.toNat x) (((0 : Int), (0 : Int)), (0 : Int), (0 : Int)))))) (nat_lit 3) (Prod.fst (Prod.fst (List.getD f (Int.toNat x) (((0 : Int), (0 : Int)), (0 : Int), (0 : Int))))) :: ([] : List Int)) (Int.toNat x) (Prod.snd (Prod.fst (List.getD f (Int.toNat x) (((0 : Int), (0 : Int)), (0 : Int), (0 : Int)))))) (nat_lit 0) (Prod.snd (Prod.fst (List.getD f (Int.toNat x) (((0 : Int), (0 : Int)), (0 : Int), (0 : Int))))), List.getD (List.set (List.getD (List.set (l4 x_1) (Int.toNat x) (Prod.fst (Prod.fst (List.getD f (Int.toNat x) (((0 : Int), (0 : Int)), (0 : Int), (0 : Int)))))) (nat_lit 0) (Prod.fst (Prod.fst (List.getD f (Int.toNat x) (((0 : Int), (0 : Int)), (0 : Int), (0 : Int))))) :: List.getD (List.set (l4 x_1) (Int.toNat x) (Prod.fst (Prod.fst (List.getD f (Int.toNat x) (((0 : Int), (0 : Int)), (0 : Int), (0 : Int)))))) (nat_lit 1) (Prod.fst (Prod.fst (List.getD f (Int.toNat x) (((0 : Int), (0 : Int)), (0 : Int), (0 : Int))))) :: List.getD (List.set (l4 x_1) (Int.toNat x) (Prod.fst (Prod.fst (List.getD f (Int.toNat x) (((0 : Int), (0 : Int)), (0 : Int), (0 : Int)))))) (nat_lit 2) (Prod.fst (Prod.fst (List.getD f (Int.toNat x) (((0 : Int), (0 : Int)), (0 : Int), (0 : Int))))) :: List.getD (List.set (l4 x_1) (Int.toNat x) (Prod.fst (Prod.fst (List.getD f (Int.toNat x) (((0 : Int), (0 : Int)), (0 : Int), (0 : Int)))))) (nat_lit 3) (Prod.fst (Prod.fst (List.getD f (Int.toNat x) (((0 : Int), (0 : Int)), (0 : Int), (0 : Int))))) :: ([] : List Int)) (Int.toNat x) (Prod.snd (Prod.fst (List.getD f (Int.toNat x) (((0 : Int), (0 : Int)), (0 : Int), (0 : Int)))))) (nat_lit 1) (Prod.snd (Prod.fst (List.getD f (Int.toNat x) (((0 : Int), (0 : Int)), (0 : Int), (0 : Int))))), List.getD (List.set (List.getD (List.set (l4 x_1) (Int.toNat x) (Prod.fst (Prod.fst (List.getD f (Int.toNat x) (((0 : Int), (0 : Int)), (0 : Int), (0 : Int)))))) (nat_lit 0) (Prod.fst (Prod.fst (List.getD f (Int.toNat x) (((0 : Int), (0 : Int)), (0 : Int), (0 : Int))))) :: List.getD (List.set (l4 x_1) (Int.toNat x) (Prod.fst (Prod.fst (List.getD f (Int.toNat x) (((0 : Int), (0 : Int)), (0 : Int), (0 : Int)))))) (nat_lit 1) (Prod.fst (Prod.fst (List.getD f (Int.toNat x) (((0 : Int), (0 : Int)), (0 : Int), (0 : Int))))) :: List.getD (List.set (l4 x_1) (Int.toNat x) (Prod.fst (Prod.fst (List.getD f (Int.toNat x) (((0 : Int), (0 : Int)), (0 : Int), (0 : Int)))))) (nat_lit 2) (Prod.fst (Prod.fst (List.getD f (Int.toNat x) (((0 : Int), (0 : Int)), (0 : Int), (0 : Int))))) :: List.getD (List.set (l4 x_1) (Int.toNat x) (Prod.fst (Prod.fst (List.getD f (Int.toNat x) (((0 : Int), (0 : Int)), (0 : Int), (0 : Int)))))) (nat_lit 3) (Prod.fst (Prod.fst (List.getD f (Int.toNat x) (((0 : Int), (0 : Int)), (0 : Int), (0 : Int))))) :: ([] : List Int)) (Int.toNat x) (Prod.snd (Prod.fst (List.getD f (Int.toNat x) (((0 : Int), (0 : Int)), (0 : Int), (0 : Int)))))) (nat_lit 2) (Prod.snd (Prod.fst (List.getD f (Int.toNat x) (((0 : Int), (0 : Int)), (0 : Int), (0 : Int))))), List.getD (List.set (List.getD (List.set (l4 x_1) (Int.toNat x) (Prod.fst (Prod.fst (List.getD f (Int.toNat x) (((0 : Int), (0 : Int)), (0 : Int), (0 : Int)))))) (nat_lit 0) (Prod.fst (Prod.fst (List.getD f (Int.toNat x) (((0 : Int), (0 : Int)), (0 : Int), (0 : Int))))) :: List.getD (List.set (l4 x_1) (Int.toNat x) (Prod.fst (Prod.fst (List.getD f (Int.toNat x) (((0 : Int), (0 : Int)), (0 : Int), (0 : Int)))))) (nat_lit 1) (Prod.fst (Prod.fst (List.getD f (Int.toNat x) (((0 : Int), (0 : Int)), (0 : Int), (0 : Int))))) :: List.getD (List.set (l4 x_1) (Int.toNat x) (Prod.fst (Prod.fst (List.getD f (Int.toNat x) (((0 : Int), (0 : Int)), (0 : Int), (0 : Int)))))) (nat_lit 2) (Prod.fst (Prod.fst (List.getD f (Int.toNat x) (((0 : Int), (0 : Int)), (0 : Int), (0 : Int))))) :: List.getD (List.set (l4 x_1) (Int.toNat x) (Prod.fst (Prod.fst (List.getD f (Int.toNat x) (((0 : Int), (0 : Int)), (0 : Int), (0 : Int)))))) (nat_lit 3) (Prod.fst (Prod.fst (List.getD f (Int.toNat x) (((0 : Int), (0 : Int)), (0 : Int), (0 : Int))))) :: ([] : List Int)) (Int.toNat x) (Prod.snd (Prod.fst (List.getD f (Int.toNat x) (((0 : Int), (0 : Int)), (0 : Int), (0 : Int)))))) (nat_lit 3) (Prod.snd (Prod.fst (List.getD f (Int.toNat x) (((0 : Int), (0 : Int)), (0 : Int), (0 : Int)))))) ∧ μ (IntKind.wrap IntKind.i64 (x + (1 : Int))) (List.getD (List.set (List.getD (List.set (l4 x_1) (Int.toNat x) (Prod.fst (Prod.fst (List.getD f (Int.toNat x) (((0 : Int), (0 : Int)), (0 : Int), (0 : Int)))))) (nat_lit 0) (Prod.fst (Prod.fst (List.getD f (Int.toNat x) (((0 : Int), (0 : Int)), (0 : Int), (0 : Int))))) :: List.getD (List.set (l4 x_1) (Int.toNat x) (Prod.fst (Prod.fst (List.getD f (Int.toNat x) (((0 : Int), (0 : Int)), (0 : Int), (0 : Int)))))) (nat_lit 1) (Prod.fst (Prod.fst (List.getD f (Int.toNat x) (((0 : Int), (0 : Int)), (0 : Int), (0 : Int))))) :: List.getD (List.set (l4 x_1) (Int.toNat x) (Prod.fst (Prod.fst (List.getD f (Int.toNat x) (((0 : Int), (0 : Int)), (0 : Int), (0 : Int)))))) (nat_lit 2) (Prod.fst (Prod.fst (List.getD f (Int.toNat x) (((0 : Int), (0 : Int)), (0 : Int), (0 : Int))))) :: List.getD (List.set (l4 x_1) (Int.toNat x) (Prod.fst (Prod.fst (List.getD f (Int.toNat x) (((0 : Int), (0 : Int)), (0 : Int), (0 : Int)))))) (nat_lit 3) (Prod.fst (Prod.fst (List.getD f (Int.toNat x) (((0 : Int), (0 : Int)), (0 : Int), (0 : Int))))) :: ([] : List Int)) (Int.toNat x) (Prod.snd (Prod.fst (List.getD f (Int.toNat x) (((0 : Int), (0 : Int)), (0 : Int), (0 : Int)))))) (nat_lit 0) (Prod.snd (Prod.fst (List.getD f (Int.toNat x) (((0 : Int), (0 : Int)), (0 : Int), (0 : Int))))), List.getD (List.set (List.getD (List.set (l4 x_1) (Int.toNat x) (Prod.fst (Prod.fst (List.getD f (Int.toNat x) (((0 : Int), (0 : Int)), (0 : Int), (0 : Int)))))) (nat_lit 0) (Prod.fst (Prod.fst (List.getD f (Int.toNat x) (((0 : Int), (0 : Int)), (0 : Int), (0 : Int))))) :: List.getD (List.set (l4 x_1) (Int.toNat x) (Prod.fst (Prod.fst (List.getD f (Int.toNat x) (((0 : Int), (0 : Int)), (0 : Int), (0 : Int)))))) (nat_lit 1) (Prod.fst (Prod.fst (List.getD f (Int.toNat x) (((0 : Int), (0 : Int)), (0 : Int), (0 : Int))))) :: List.getD (List.set (l4 x_1) (Int.toNat x) (Prod.fst (Prod.fst (List.getD f (Int.toNat x) (((0 : Int), (0 : Int)), (0 : Int), (0 : Int)))))) (nat_lit 2) (Prod.fst (Prod.fst (List.getD f (Int.toNat x) (((0 : Int), (0 : Int)), (0 : Int), (0 : Int))))) :: List.getD (List.set (l4 x_1) (Int.toNat x) (Prod.fst (Prod.fst (List.getD f (Int.toNat x) (((0 : Int), (0 : Int)), (0 : Int), (0 : Int)))))) (nat_lit 3) (Prod.fst (Prod.fst (List.getD f (Int.toNat x) (((0 : Int), (0 : Int)), (0 : Int), (0 : Int))))) :: ([] : List Int)) (Int.toNat x) (Prod.snd (Prod.fst (List.getD f (Int.toNat x) (((0 : Int), (0 : Int)), (0 : Int), (0 : Int)))))) (nat_lit 1) (Prod.snd (Prod.fst (List.getD f (Int.toNat x) (((0 : Int), (0 : Int)), (0 : Int), (0 : Int))))), List.getD (List.set (List.getD (List.set (l4 x_1) (Int.toNat x) (Prod.fst (Prod.fst (List.getD f (Int.toNat x) (((0 : Int), (0 : Int)), (0 : Int), (0 : Int)))))) (nat_lit 0) (Prod.fst (Prod.fst (List.getD f (Int.toNat x) (((0 : Int), (0 : Int)), (0 : Int), (0 : Int))))) :: List.getD (List.set (l4 x_1) (Int.toNat x) (Prod.fst (Prod.fst (List.getD f (Int.toNat x) (((0 : Int), (0 : Int)), (0 : Int), (0 : Int)))))) (nat_lit 1) (Prod.fst (Prod.fst (List.getD f (Int.toNat x) (((0 : Int), (0 : Int)), (0 : Int), (0 : Int))))) :: List.getD (List.set (l4 x_1) (Int.toNat x) (Prod.fst (Prod.fst (List.getD f (Int.toNat x) (((0 : Int), (0 : Int)), (0 : Int), (0 : Int)))))) (nat_lit 2) (Prod.fst (Prod.fst (List.getD f (Int.toNat x) (((0 : Int), (0 : Int)), (0 : Int), (0 : Int))))) :: List.getD (List.set (l4 x_1) (Int.toNat x) (Prod.fst (Prod.fst (List.getD f (Int.toNat x) (((0 : Int), (0 : Int)), (0 : Int), (0 : Int)))))) (nat_lit 3) (Prod.fst (Prod.fst (List.getD f (Int.toNat x) (((0 : Int), (0 : Int)), (0 : Int), (0 : Int))))) :: ([] : List Int)) (Int.toNat x) (Prod.snd (Prod.fst (List.getD f (Int.toNat x) (((0 : Int), (0 : Int)), (0 : Int), (0 : Int)))))) (nat_lit 2) (Prod.snd (Prod.fst (List.getD f (Int.toNat x) (((0 : Int), (0 : Int)), (0 : Int), (0 : Int))))), List.getD (List.set (List.getD (List.set (l4 x_1) (Int.toNat x) (Prod.fst (Prod.fst (List.getD f (Int.toNat x) (((0 : Int), (0 : Int)), (0 : Int), (0 : Int)))))) (nat_lit 0) (Prod.fst (Prod.fst (List.getD f (Int.toNat x) (((0 : Int), (0 : Int)), (0 : Int), (0 : Int))))) :: List.getD (List.set (l4 x_1) (Int.toNat x) (Prod.fst (Prod.fst (List.getD f (Int.toNat x) (((0 : Int), (0 : Int)), (0 : Int), (0 : Int)))))) (nat_lit 1) (Prod.fst (Prod.fst (List.getD f (Int.toNat x) (((0 : Int), (0 : Int)), (0 : Int), (0 : Int))))) :: List.getD (List.set (l4 x_1) (Int.toNat x) (Prod.fst (Prod.fst (List.getD f (Int.toNat x) (((0 : Int), (0 : Int)), (0 : Int), (0 : Int)))))) (nat_lit 2) (Prod.fst (Prod.fst (List.getD f (Int.toNat x) (((0 : Int), (0 : Int)), (0 : Int), (0 : Int))))) :: List.getD (List.set (l4 x_1) (Int.toNat x) (Prod.fst (Prod.fst (List.getD f (Int.toNat x) (((0 : Int), (0 : Int)), (0 : Int), (0 : Int)))))) (nat_lit 3) (Prod.fst (Prod.fst (List.getD f (Int.toNat x) (((0 : Int), (0 : Int)), (0 : Int), (0 : Int))))) :: ([] : List Int)) (Int.toNat x) (Prod.snd (Prod.fst (List.getD f (Int.toNat x) (((0 : Int), (0 : Int)), (0 : Int), (0 : Int)))))) (nat_lit 3) (Prod.snd (Prod.fst (List.getD f (Int.toNat x) (((0 : Int), (0 : Int)), (0 : Int), (0 : Int)))))) < μ x x_1) (I (IntKind.wrap IntKind.i64 (x + (1 : Int))) (List.getD (List.set (l4 x_1) (Int.toNat x) (Prod.fst (Prod.fst (List.getD f (Int.toNat x) (((0 : Int), (0 : Int)), (0 : Int), (0 : Int)))))) (nat_lit 0) (Prod.fst (Prod.fst (List.getD f (Int.toNat x) (((0 : Int), (0 : Int)), (0 : Int), (0 : Int))))), List.getD (List.set (l4 x_1) (Int.toNat x) (Prod.fst (Prod.fst (List.getD f (Int.toNat x) (((0 : Int), (0 : Int)), (0 : Int), (0 : Int)))))) (nat_lit 1) (Prod.fst (Prod.fst (List.getD f (Int.toNat x) (((0 : Int), (0 : Int)), (0 : Int), (0 : Int))))), List.getD (List.set (l4 x_1) (Int.toNat x) (Prod.fst (Prod.fst (List.getD f (Int.toNat x) (((0 : Int), (0 : Int)), (0 : Int), (0 : Int)))))) (nat_lit 2) (Prod.fst (Prod.fst (List.getD f (Int.toNat x) (((0 : Int), (0 : Int)), (0 : Int), (0 : Int))))), List.getD (List.set (l4 x_1) (Int.toNat x) (Prod.fst (Prod.fst (List.getD f (Int.toNat x) (((0 : Int), (0 : Int)), (0 : Int), (0 : Int)))))) (nat_lit 3) (Prod.fst (Prod.fst (List.getD f (Int.toNat x) (((0 : Int), (0 : Int)), (0 : Int), (0 : Int)))))) ∧ μ (IntKind.wrap IntKind.i64 (x + (1 : Int))) (List.getD (List.set (l4 x_1) (Int.toNat x) (Prod.fst (Prod.fst (List.getD f (Int.toNat x) (((0 : Int), (0 : Int)), (0 : Int), (0 : Int)))))) (nat_lit 0) (Prod.fst (Prod.fst (List.getD f (Int.toNat x) (((0 : Int), (0 : Int)), (0 : Int), (0 : Int))))), List.getD (List.set (l4 x_1) (Int.toNat x) (Prod.fst (Prod.fst (List.getD f (Int.toNat x) (((0 : Int), (0 : Int)), (0 : Int), (0 : Int)))))) (nat_lit 1) (Prod.fst (Prod.fst (List.getD f (Int.toNat x) (((0 : Int), (0 : Int)), (0 : Int), (0 : Int))))), List.getD (List.set (l4 x_1) (Int.toNat x) (Prod.fst (Prod.fst (List.getD f (Int.toNat x) (((0 : Int), (0 : Int)), (0 : Int), (0 : Int)))))) (nat_lit 2) (Prod.fst (Prod.fst (List.getD f (Int.toNat x) (((0 : Int), (0 : Int)), (0 : Int), (0 : Int))))), List.getD (List.set (l4 x_1) (Int.toNat x) (Prod.fst (Prod.fst (List.getD f (Int.toNat x) (((0 : Int), (0 : Int)), (0 : Int), (0 : Int)))))) (nat_lit 3) (Prod.fst (Prod.fst (List.getD f (Int.toNat x) (((0 : Int), (0 : Int)), (0 : Int), (0 : Int)))))) < μ x x_1)) (Q (x_1.1, x_1.2.1, x_1.2.2.1, x_1.2.2.2))
theorem v26 (f : List Spring) (m : Bool) (Q : Int × Int × Int × Int → Prop) : V26 f m Q = vcFunc (S0 [] []) f26_ct.own f26_ct.fresh f26_an Try.f26 (bodyOf Try.f26) f26_ct.A f26_ct.C f26_ct.R (f, m, ()) () Q := by kernel_rfl

def V27 (f : List Spring) (Q : Int × Int × Int × Int → Prop) : Prop := ∃ (I : Int → Int × Int × Int × Int → Prop), ∃ (μ : Int → Int × Int × Int × Int → Nat), I (0 : Int) ((0 : Int), (0 : Int), (0 : Int), (0 : Int)) ∧ ∀ (x : Int) (x_1 : Int × Int × Int × Int), I x x_1 → List.length f ≤ (9223372036854775807 : Nat) → cnd (decide (x < (↑(List.length f) : Int))) ((0 : Int) ≤ x ∧ x < (↑(List.length f) : Int) ∧ (0 : Int) ≤ x ∧ x < (↑(4 : Nat) : Int) ∧ I (IntKind.wrap IntKind.i64 (x + (1 : Int))) (List.getD (List.set (l4 x_1) (Int.toNat x) (Prod.fst (Prod.snd (List.getD f (Int.toNat x) (((0 : Int), (0 : Int)), (0 : Int), (0 : Int)))))) (nat_lit 0) (Prod.fst (Prod.snd (List.getD f (Int.toNat x) (((0 : Int), (0 : Int)), (0 : Int), (0 : Int))))), List.getD (List.set (l4 x_1) (Int.toNat x) (Prod.fst (Prod.snd (List.getD f (Int.toNat x) (((0 : Int), (0 : Int)), (0 : Int), (0 : Int)))))) (nat_lit 1) (Prod.fst (Prod.snd (List.getD f (Int.toNat x) (((0 : Int), (0 : Int)), (0 : Int), (0 : Int))))), List.getD (List.set (l4 x_1) (Int.toNat x) (Prod.fst (Prod.snd (List.getD f (Int.toNat x) (((0 : Int), (0 : Int)), (0 : Int), (0 : Int)))))) (nat_lit 2) (Prod.fst (Prod.snd (List.getD f (Int.toNat x) (((0 : Int), (0 : Int)), (0 : Int), (0 : Int))))), List.getD (List.set (l4 x_1) (Int.toNat x) (Prod.fst (Prod.snd (List.getD f (Int.toNat x) (((0 : Int), (0 : Int)), (0 : Int), (0 : Int)))))) (nat_lit 3) (Prod.fst (Prod.snd (List.getD f (Int.toNat x) (((0 : Int), (0 : Int)), (0 : Int), (0 : Int)))))) ∧ μ (IntKind.wrap IntKind.i64 (x + (1 : Int))) (List.getD (List.set (l4 x_1) (Int.toNat x) (Prod.fst (Prod.snd (List.getD f (Int.toNat x) (((0 : Int), (0 : Int)), (0 : Int), (0 : Int)))))) (nat_lit 0) (Prod.fst (Prod.snd (List.getD f (Int.toNat x) (((0 : Int), (0 : Int)), (0 : Int), (0 : Int))))), List.getD (List.set (l4 x_1) (Int.toNat x) (Prod.fst (Prod.snd (List.getD f (Int.toNat x) (((0 : Int), (0 : Int)), (0 : Int), (0 : Int)))))) (nat_lit 1) (Prod.fst (Prod.snd (List.getD f (Int.toNat x) (((0 : Int), (0 : Int)), (0 : Int), (0 : Int))))), List.getD (List.set (l4 x_1) (Int.toNat x) (Prod.fst (Prod.snd (List.getD f (Int.toNat x) (((0 : Int), (0 : Int)), (0 : Int), (0 : Int)))))) (nat_lit 2) (Prod.fst (Prod.snd (List.getD f (Int.toNat x) (((0 : Int), (0 : Int)), (0 : Int), (0 : Int))))), List.getD (List.set (l4 x_1) (Int.toNat x) (Prod.fst (Prod.snd (List.getD f (Int.toNat x) (((0 : Int), (0 : Int)), (0 : Int), (0 : Int)))))) (nat_lit 3) (Prod.fst (Prod.snd (List.getD f (Int.toNat x) (((0 : Int), (0 : Int)), (0 : Int), (0 : Int)))))) < μ x x_1) (Q (x_1.1, x_1.2.1, x_1.2.2.1, x_1.2.2.2))
theorem v27 (f : List Spring) (Q : Int × Int × Int × Int → Prop) : V27 f Q = vcFunc (S0 [] []) f27_ct.own f27_ct.fresh f27_an Try.f27 (bodyOf Try.f27) f27_ct.A f27_ct.C f27_ct.R f () Q := by kernel_rfl

def V25 (ls : List Int) (seam : Int) (c : Int × Int × Int × Int) (e : Int) (i : Int) (Q : List BinT → Prop) : Prop := ∃ (I : Int → List BinT → Prop), ∃ (μ : Int → List BinT → Nat), I (0 : Int) ([] : List BinT) ∧ ∀ (x : Int) (x_1 : List BinT), I x x_1 → List.length ls ≤ (9223372036854775807 : Nat) → cnd (decide (x < (↑(List.length ls) : Int))) ((0 : Int) ≤ x ∧ x < (↑(List.length ls) : Int) ∧ ∃ (I_1 : Int → FansT × FansT × Int × Int → Prop), ∃ (μ_1 : Int → FansT × FansT × Int × Int → Nat), I_1 (0 : Int) (((0 : Int), (0 : Int), (0 : Int), (0 : Int)), ((0 : Int), (0 : Int), (0 : Int), (0 : Int)), IntKind.wrap IntKind.i64 (List.getD ls (Int.toNat x) (0 : Int) + seam), i) ∧ ∀ (x_2 : Int) (x_3 : FansT × FansT × Int × Int), I_1 x_2 x_3 → cnd (decide (x_2 < (4 : Int))) ((0 : Int) ≤ x_2 ∧ x_2 < (↑(4 : Nat) : Int) ∧ (0 : Int) ≤ x_2 ∧ x_2 < (↑(4 : Nat) : Int) ∧ (0 : Int) ≤ x_2 ∧ x_2 < (↑(4 : Nat) : Int) ∧ I_1 (IntKind.wrap IntKind.i64 (x_2 + (1 : Int))) ((List.getD (List.set (l4 x_3.1) (Int.toNat x_2) (IntKind.wrap IntKind.i64 (List.getD (l4 c) (Int.toNat x_2) c.1 + seam))) (nat_lit 0) (IntKind.wrap IntKind.i64 (List.getD (l4 c) (Int.toNat x_2) c.1 + seam)), List.getD (List.set (l4 x_3.1) (Int.toNat x_2) (IntKind.wrap IntKind.i64 (List.getD (l4 c) (Int.toNat x_2) c.1 + seam))) (nat_lit 1) (IntKind.wrap IntKind.i64 (List.getD (l4 c) (Int.toNat x_2) c.1 + seam)), List.getD (List.set (l4 x_3.1) (Int.toNat x_2) (IntKind.wrap IntKind.i64 (List.getD (l4 c) (Int.toNat x_2) c.1 + seam))) (nat_lit 2) (IntKind.wrap IntKind.i64 (List.getD (l4 c) (Int.toNat x_2) c.1 + seam)), List.getD (List.set (l4 x_3.1) (Int.toNat x_2) (IntKind.wrap IntKind.i64 (List.getD (l4 c) (Int.toNat x_2) c.1 + seam))) (nat_lit 3) (IntKind.wrap IntKind.i64 (List.getD (l4 c) (Int.toNat x_2) c.1 + seam))), (List.getD (List.set (l4 x_3.2.1) (Int.toNat x_2) e) (nat_lit 0) e, List.getD (List.set (l4 x_3.2.1) (Int.toNat x_2) e) (nat_lit 1) e, List.getD (List.set (l4 x_3.2.1) (Int.toNat x_2) e) (nat_lit 2) e, List.getD (List.set (l4 x_3.2.1) (Int.toNat x_2) e) (nat_lit 3) e), x_3.2.2.1, x_3.2.2.2) ∧ μ_1 (IntKind.wrap IntKind.i64 (x_2 + (1 : Int))) ((List.getD (List.set (l4 x_3.1) (Int.toNat x_2) (IntKind.wrap IntKind.i64 (List.getD (l4 c) (Int.toNat x_2) c.1 + seam))) (nat_lit 0) (IntKind.wrap IntKind.i64 (List.getD (l4 c) (Int.toNat x_2) c.1 + seam)), List.getD (List.set (l4 x_3.1) (Int.toNat x_2) (IntKind.wrap IntKind.i64 (List.getD (l4 c) (Int.toNat x_2) c.1 + seam))) (nat_lit 1) (IntKind.wrap IntKind.i64 (List.getD (l4 c) (Int.toNat x_2) c.1 + seam)), List.getD (List.set (l4 x_3.1) (Int.toNat x_2) (IntKind.wrap IntKind.i64 (List.getD (l4 c) (Int.toNat x_2) c.1 + seam))) (nat_lit 2) (IntKind.wrap IntKind.i64 (List.getD (l4 c) (Int.toNat x_2) c.1 + seam)), List.getD (List.set (l4 x_3.1) (Int.toNat x_2) (IntKind.wrap IntKind.i64 (List.getD (l4 c) (Int.toNat x_2) c.1 + seam))) (nat_lit 3) (IntKind.wrap IntKind.i64 (List.getD (l4 c) (Int.toNat x_2) c.1 + seam))), (List.getD (List.set (l4 x_3.2.1) (Int.toNat x_2) e) (nat_lit 0) e, List.getD (List.set (l4 x_3.2.1) (Int.toNat x_2) e) (nat_lit 1) e, List.getD (List.set (l4 x_3.2.1) (Int.toNat x_2) e) (nat_lit 2) e, List.getD (List.set (l4 x_3.2.1) (Int.toNat x_2) e) (nat_lit 3) e), x_3.2.2.1, x_3.2.2.2) < μ_1 x_2 x_3) ((List.length x_1 + List.length (((x_3.1.1, x_3.1.2.1, x_3.1.2.2.1, x_3.1.2.2.2), (x_3.2.1.1, x_3.2.1.2.1, x_3.2.1.2.2.1, x_3.2.1.2.2.2), x_3.2.2.1, x_3.2.2.2) :: ([] : List BinT))) * (80 : Nat) ≤ (140737488355328 : Nat) ∧ I (IntKind.wrap IntKind.i64 (x + (1 : Int))) (x_1 ++ ((x_3.1.1, x_3.1.2.1, x_3.1.2.2.1, x_3.1.2.2.2), (x_3.2.1.1, x_3.2.1.2.1, x_3.2.1.2.2.1, x_3.2.1.2.2.2), x_3.2.2.1, x_3.2.2.2) :: ([] : List BinT)) ∧ μ (IntKind.wrap IntKind.i64 (x + (1 : Int))) (x_1 ++ ((x_3.1.1, x_3.1.2.1, x_3.1.2.2.1, x_3.1.2.2.2), (x_3.2.1.1, x_3.2.1.2.1, x_3.2.1.2.2.1, x_3.2.1.2.2.2), x_3.2.2.1, x_3.2.2.2) :: ([] : List BinT)) < μ x x_1)) (Q x_1)
theorem v25 (ls : List Int) (seam : Int) (c : Int × Int × Int × Int) (e : Int) (i : Int) (Q : List BinT → Prop) : V25 ls seam c e i Q = vcFunc (S0 [] []) f25_ct.own f25_ct.fresh f25_an Try.f25 (bodyOf Try.f25) f25_ct.A f25_ct.C f25_ct.R (ls, seam, c, e, i, ()) () Q := by kernel_rfl

def V30 (ls : List (Int × Int)) (f : List Spring) (c : Int × Int × Int × Int) (Q : List BinT → Prop) : Prop := ∃ (I : Int → List BinT → Prop), ∃ (μ : Int → List BinT → Nat), I (0 : Int) ([] : List BinT) ∧ ∀ (x : Int) (x_1 : List BinT), I x x_1 → List.length ls ≤ (9223372036854775807 : Nat) → cnd (decide (x < (↑(List.length ls) : Int))) ((0 : Int) ≤ x ∧ x < (↑(List.length ls) : Int) ∧ ∃ (I_1 : Int → FansT × FansT × Int × Int → Prop), ∃ (μ_1 : Int → FansT × FansT × Int × Int → Nat), I_1 (0 : Int) (((0 : Int), (0 : Int), (0 : Int), (0 : Int)), ((0 : Int), (0 : Int), (0 : Int), (0 : Int)), Prod.snd (List.getD ls (Int.toNat x) ((0 : Int), (0 : Int))), (0 : Int)) ∧ ∀ (x_2 : Int) (x_3 : FansT × FansT × Int × Int), I_1 x_2 x_3 → List.length f ≤ (9223372036854775807 : Nat) → cnd (decide (x_2 < (↑(List.length f) : Int))) ((0 : Int) ≤ x_2 ∧ x_2 < (↑(4 : Nat) : Int) ∧ (0 : Int) ≤ x_2 ∧ x_2 < (↑(4 : Nat) : Int) ∧ (0 : Int) ≤ x ∧ x < (↑(List.length ls) : Int) ∧ (0 : Int) ≤ x_2 ∧ x_2 < (↑(List.length f) : Int) ∧ (0 : Int) ≤ x_2 ∧ x_2 < (↑(4 : Nat) : Int) ∧ (0 : Int) ≤ x_2 ∧ x_2 < (↑(4 : Nat) : Int) ∧ (0 : Int) ≤ x_2 ∧ x_2 < (↑(List.length f) : Int) ∧ (0 : Int) ≤ x ∧ x < (↑(List.length ls) : Int) ∧ cnd (decide (Prod.snd (Prod.snd (List.getD f (Int.toNat x_2) (((0 : Int), (0 : Int)), (0 : Int), (0 : Int)))) > Prod.fst (List.getD ls (Int.toNat x) ((0 : Int), (0 : Int))))) ((0 : Int) ≤ x_2 ∧ x_2 < (↑(4 : Nat) : Int) ∧ (0 : Int) ≤ x_2 ∧ x_2 < (↑(4 : Nat) : Int) ∧ I_1 (IntKind.wrap IntKind.i64 (x_2 + (1 : Int))) ((List.getD (List.set (List.getD (List.set (l4 x_3.1) (Int.toNat x_2) (List.getD (l4 c) (Int.toNat x_2) c.1)) (nat_lit 0) (List.getD (l4 c) (Int.toNat x_2) c.1) :: List.getD (List.set (l4 x_3.1) (Int.toNat x_2) (List.getD (l4 c) (Int.toNat x_2) c.1)) (nat_lit 1) (List.getD (l4 c) (Int.toNat x_2) c.1) :: List.getD (List.set (l4 x_3.1) (Int.toNat x_2) (List.getD (l4 c) (Int.toNat x_2) c.1)) (nat_lit 2) (List.getD (l4 c) (Int.toNat x_2) c.1) :: List.getD (List.set (l4 x_3.1) (Int.toNat x_2) (List.getD (l4 c) (Int.toNat x_2) c.1)) (nat_lit 3) (List.getD (l4 c) (Int.toNat x_2) c.1) :: ([] : List Int)) (Int.toNat x_2) (1000 : Int)) (nat_lit 0) (1000 : Int), List.getD (List.set (List.getD (List.set (l4 x_3.1) (Int.toNat x_2) (List.getD (l4 c) (Int.toNat x_2) c.1)) (nat_lit 0) (List.getD (l4 c) (Int.toNat x_2) c.1) :: List.getD (List.set (l4 x_3.1) (Int.toNat x_2) (List.getD (l4 c) (Int.toNat x_2) c.1)) (nat_lit 1) (List.getD (l4 c) (Int.toNat x_2) c.1) :: List.getD (List.set (l4 x_3.1) (Int.toNat x_2) (List.getD (l4 c) (Int.toNat x_2) c.1)) (nat_lit 2) (List.getD (l4 c) (Int.toNat x_2) c.1) :: List.getD (List.set (l4 x_3.1) (Int.toNat x_2) (List.getD (l4 c) (Int.toNat x_2) c.1)) (nat_lit 3) (List.getD (l4 c) (Int.toNat x_2) c.1) :: ([] : List Int)) (Int.toNat x_2) (1000 : Int)) (nat_lit 1) (1000 : Int), List.getD (List.set (List.getD (List.set (l4 x_3.1) (Int.toNat x_2) (List.getD (l4 c) (Int.toNat x_2) c.1)) (nat_lit 0) (List.getD (l4 c) (Int.toNat x_2) c.1) :: List.getD (List.set (l4 x_3.1) (Int.toNat x_2) (List.getD (l4 c) (Int.toNat x_2) c.1)) (nat_lit 1) (List.getD (l4 c) (Int.toNat x_2) c.1) :: List.getD (List.set (l4 x_3.1) (Int.toNat x_2) (List.getD (l4 c) (Int.toNat x_2) c.1)) (nat_lit 2) (List.getD (l4 c) (Int.toNat x_2) c.1) :: List.getD (List.set (l4 x_3.1) (Int.toNat x_2) (List.getD (l4 c) (Int.toNat x_2) c.1)) (nat_lit 3) (List.getD (l4 c) (Int.toNat x_2) c.1) :: ([] : List Int)) (Int.toNat x_2) (1000 : Int)) (nat_lit 2) (1000 : Int), List.getD (List.set (List.getD (List.set (l4 x_3.1) (Int.toNat x_2) (List.getD (l4 c) (Int.toNat x_2) c.1)) (nat_lit 0) (List.getD (l4 c) (Int.toNat x_2) c.1) :: List.getD (List.set (l4 x_3.1) (Int.toNat x_2) (List.getD (l4 c) (Int.toNat x_2) c.1)) (nat_lit 1) (List.getD (l4 c) (Int.toNat x_2) c.1) :: List.getD (List.set (l4 x_3.1) (Int.toNat x_2) (List.getD (l4 c) (Int.toNat x_2) c.1)) (nat_lit 2) (List.getD (l4 c) (Int.toNat x_2) c.1) :: List.getD (List.set (l4 x_3.1) (Int.toNat x_2) (List.getD (l4 c) (Int.toNat x_2) c.1)) (nat_lit 3) (List.getD (l4 c) (Int.toNat x_2) c.1) :: ([] : List Int)) (Int.toNat x_2) (1000 : Int)) (nat_lit 3) (1000 : Int)), (List.getD (List.set (List.getD (List.set (l4 x_3.2.1) (Int.toNat x_2) (IntKind.wrap IntKind.i64 (List.getD (l4 c) (Int.toNat x_2) c.1 * IntKind.wrap IntKind.i64 (Prod.fst (List.getD ls (Int.toNat x) ((0 : Int), (0 : Int))) - Prod.snd (Prod.snd (List.getD f (Int.toNat x_2) (((0 : Int), (0 : Int)), (0 : Int), (0 : Int)))))))) (nat_lit 0) (IntKind.wrap IntKind.i64 (List.getD (l4 c) (Int.toNat x_2) c.1 * IntKind.wrap IntKind.i64 (Prod.fst (List.getD ls (Int.toNat x) ((0 : Int), (0 : Int))) - Prod.snd (Prod.snd (List.getD f (Int.toNat x_2) (((0 : Int), (0 : Int)), (0 : Int), (0 : Int))))))) :: List.getD (List.set (l4 x_3.2.1) (Int.toNat x_2) (IntKind.wrap IntKind.i64 (List.getD (l4 c) (Int.toNat x_2) c.1 * IntKind.wrap IntKind.i64 (Prod.fst (List.getD ls (Int.toNat x) ((0 : Int), (0 : Int))) - Prod.snd (Prod.snd (List.getD f (Int.toNat x_2) (((0 : Int), (0 : Int)), (0 : Int), (0 : Int)))))))) (nat_lit 1) (IntKind.wrap IntKind.i64 (List.getD (l4 c) (Int.toNat x_2) c.1 * IntKind.wrap IntKind.i64 (Prod.fst (List.getD ls (Int.toNat x) ((0 : Int), (0 : Int))) - Prod.snd (Prod.snd (List.getD f (Int.toNat x_2) (((0 : Int), (0 : Int)), (0 : Int), (0 : Int))))))) :: List.getD (List.set (l4 x_3.2.1) (Int.toNat x_2) (IntKind.wrap IntKind.i64 (List.getD (l4 c) (Int.toNat x_2) c.1 * IntKind.wrap IntKind.i64 (Prod.fst (List.getD ls (Int.toNat x) ((0 : Int), (0 : Int))) - Prod.snd (Prod.snd (List.getD f (Int.toNat x_2) (((0 : Int), (0 : Int)), (0 : Int), (0 : Int)))))))) (nat_lit 2) (IntKind.wrap IntKind.i64 (List.getD (l4 c) (Int.toNat x_2) c.1 * IntKind.wrap IntKind.i64 (Prod.fst (List.getD ls (Int.toNat x) ((0 : Int), (0 : Int))) - Prod.snd (Prod.snd (List.getD f (Int.toNat x_2) (((0 : Int), (0 : Int)), (0 : Int), (0 : Int))))))) :: List.getD (List.set (l4 x_3.2.1) (Int.toNat x_2) (IntKind.wrap IntKind.i64 (List.getD (l4 c) (Int.toNat x_2) c.1 * IntKind.wrap IntKind.i64 (Prod.fst (List.getD ls (Int.toNat x) ((0 : Int), (0 : Int))) - Prod.snd (Prod.snd (List.getD f (Int.toNat x_2) (((0 : Int), (0 : Int)), (0 : Int), (0 : Int)))))))) (nat_lit 3) (IntKind.wrap IntKind.i64 (List.getD (l4 c) (Int.toNat x_2) c.1 * IntKind.wrap IntKind.i64 (Prod.fst (List.getD ls (Int.toNat x) ((0 : Int), (0 : Int))) - Prod.snd (Prod.snd (List.getD f (Int.toNat x_2) (((0 : Int), (0 : Int)), (0 : Int), (0 : Int))))))) :: ([] : List Int)) (Int.toNat x_2) (0 : Int)) (nat_lit 0) (0 : Int), List.getD (List.set (List.getD (List.set (l4 x_3.2.1) (Int.toNat x_2) (IntKind.wrap IntKind.i64 (List.getD (l4 c) (Int.toNat x_2) c.1 * IntKind.wrap IntKind.i64 (Prod.fst (List.getD ls (Int.toNat x) ((0 : Int), (0 : Int))) - Prod.snd (Prod.snd (List.getD f (Int.toNat x_2) (((0 : Int), (0 : Int)), (0 : Int), (0 : Int)))))))) (nat_lit 0) (IntKind.wrap IntKind.i64 (List.getD (l4 c) (Int.toNat x_2) c.1 * IntKind.wrap IntKind.i64 (Prod.fst (List.getD ls (Int.toNat x) ((0 : Int), (0 : Int))) - Prod.snd (Prod.snd (List.getD f (Int.toNat x_2) (((0 : Int), (0 : Int)), (0 : Int), (0 : Int))))))) :: List.getD (List.set (l4 x_3.2.1) (Int.toNat x_2) (IntKind.wrap IntKind.i64 (List.getD (l4 c) (Int.toNat x_2) c.1 * IntKind.wrap IntKind.i64 (Prod.fst (List.getD ls (Int.toNat x) ((0 : Int), (0 : Int))) - Prod.snd (Prod.snd (List.getD f (Int.toNat x_2) (((0 : Int), (0 : Int)), (0 : Int), (0 : Int)))))))) (nat_lit 1) (IntKind.wrap IntKind.i64 (List.getD (l4 c) (Int.toNat x_2) c.1 * IntKind.wrap IntKind.i64 (Prod.fst (List.getD ls (Int.toNat x) ((0 : Int), (0 : Int))) - Prod.snd (Prod.snd (List.getD f (Int.toNat x_2) (((0 : Int), (0 : Int)), (0 : Int), (0 : Int))))))) :: List.getD (List.set (l4 x_3.2.1) (Int.toNat x_2) (IntKind.wrap IntKind.i64 (List.getD (l4 c) (Int.toNat x_2) c.1 * IntKind.wrap IntKind.i64 (Prod.fst (List.getD ls (Int.toNat x) ((0 : Int), (0 : Int))) - Prod.snd (Prod.snd (List.getD f (Int.toNat x_2) (((0 : Int), (0 : Int)), (0 : Int), (0 : Int)))))))) (nat_lit 2) (IntKind.wrap IntKind.i64 (List.getD (l4 c) (Int.toNat x_2) c.1 * IntKind.wrap IntKind.i64 (Prod.fst (List.getD ls (Int.toNat x) ((0 : Int), (0 : Int))) - Prod.snd (Prod.snd (List.getD f (Int.toNat x_2) (((0 : Int), (0 : Int)), (0 : Int), (0 : Int))))))) :: List.getD (List.set (l4 x_3.2.1) (Int.toNat x_2) (IntKind.wrap IntKind.i64 (List.getD (l4 c) (Int.toNat x_2) c.1 * IntKind.wrap IntKind.i64 (Prod.fst (List.getD ls (Int.toNat x) ((0 : Int), (0 : Int))) - Prod.snd (Prod.snd (List.getD f (Int.toNat x_2) (((0 : Int), (0 : Int)), (0 : Int), (0 : Int)))))))) (nat_lit 3) (IntKind.wrap IntKind.i64 (List.getD (l4 c) (Int.toNat x_2) c.1 * IntKind.wrap IntKind.i64 (Prod.fst (List.getD ls (Int.toNat x) ((0 : Int), (0 : Int))) - Prod.snd (Prod.snd (List.getD f (Int.toNat x_2) (((0 : Int), (0 : Int)), (0 : Int), (0 : Int))))))) :: ([] : List Int)) (Int.toNat x_2) (0 : Int)) (nat_lit 1) (0 : Int), List.getD (List.set (List.getD (List.set (l4 x_3.2.1) (Int.toNat x_2) (IntKind.wrap IntKind.i64 (List.getD (l4 c) (Int.toNat x_2) c.1 * IntKind.wrap IntKind.i64 (Prod.fst (List.getD ls (Int.toNat x) ((0 : Int), (0 : Int))) - Prod.snd (Prod.snd (List.getD f (Int.toNat x_2) (((0 : Int), (0 : Int)), (0 : Int), (0 : Int)))))))) (nat_lit 0) (IntKind.wrap IntKind.i64 (List.getD (l4 c) (Int.toNat x_2) c.1 * IntKind.wrap IntKind.i64 (Prod.fst (List.getD ls (Int.toNat x) ((0 : Int), (0 : Int))) - Prod.snd (Prod.snd (List.getD f (Int.toNat x_2) (((0 : Int), (0 : Int)), (0 : Int), (0 : Int))))))) :: List.getD (List.set (l4 x_3.2.1) (Int.toNat x_2) (IntKind.wrap IntKind.i64 (List.getD (l4 c) (Int.toNat x_2) c.1 * IntKind.wrap IntKind.i64 (Prod.fst (List.getD ls (Int.toNat x) ((0 : Int), (0 : Int))) - Prod.snd (Prod.snd (List.getD f (Int.toNat x_2) (((0 : Int), (0 : Int)), (0 : Int), (0 : Int)))))))) (nat_lit 1) (IntKind.wrap IntKind.i64 (List.getD (l4 c) (Int.toNat x_2) c.1 * IntKind.wrap IntKind.i64 (Prod.fst (List.getD ls (Int.toNat x) ((0 : Int), (0 : Int))) - Prod.snd (Prod.snd (List.getD f (Int.toNat x_2) (((0 : Int), (0 : Int)), (0 : Int), (0 : Int))))))) :: List.getD (List.set (l4 x_3.2.1) (Int.toNat x_2) (IntKind.wrap IntKind.i64 (List.getD (l4 c) (Int.toNat x_2) c.1 * IntKind.wrap IntKind.i64 (Prod.fst (List.getD ls (Int.toNat x) ((0 : Int), (0 : Int))) - Prod.snd (Prod.snd (List.getD f (Int.toNat x_2) (((0 : Int), (0 : Int)), (0 : Int), (0 : Int)))))))) (nat_lit 2) (IntKind.wrap IntKind.i64 (List.getD (l4 c) (Int.toNat x_2) c.1 * IntKind.wrap IntKind.i64 (Prod.fst (List.getD ls (Int.toNat x) ((0 : Int), (0 : Int))) - Prod.snd (Prod.snd (List.getD f (Int.toNat x_2) (((0 : Int), (0 : Int)), (0 : Int), (0 : Int))))))) :: List.getD (List.set (l4 x_3.2.1) (Int.toNat x_2) (IntKind.wrap IntKind.i64 (List.getD (l4 c) (Int.toNat x_2) c.1 * IntKind.wrap IntKind.i64 (Prod.fst (List.getD ls (Int.toNat x) ((0 : Int), (0 : Int))) - Prod.snd (Prod.snd (List.getD f (Int.toNat x_2) (((0 : Int), (0 : Int)), (0 : Int), (0 : Int)))))))) (nat_lit 3) (IntKind.wrap IntKind.i64 (List.getD (l4 c) (Int.toNat x_2) c.1 * IntKind.wrap IntKind.i64 (Prod.fst (List.getD ls (Int.toNat x) ((0 : Int), (0 : Int))) - Prod.snd (Prod.snd (List.getD f (Int.toNat x_2) (((0 : Int), (0 : Int)), (0 : Int), (0 : Int))))))) :: ([] : List Int)) (Int.toNat x_2) (0 : Int)) (nat_lit 2) (0 : Int), List.getD (List.set (List.getD (List.set (l4 x_3.2.1) (Int.toNat x_2) (IntKind.wrap IntKind.i64 (List.getD (l4 c) (Int.toNat x_2) c.1 * IntKind.wrap IntKind.i64 (Prod.fst (List.getD ls (Int.toNat x) ((0 : Int), (0 : Int))) - Prod.snd (Prod.snd (List.getD f (Int.toNat x_2) (((0 : Int), (0 : Int)), (0 : Int), (0 : Int)))))))) (nat_lit 0) (IntKind.wrap IntKind.i64 (List.getD (l4 c) (Int.toNat x_2) c.1 * IntKind.wrap IntKind.i64 (Prod.fst (List.getD ls (Int.toNat x) ((0 : Int), (0 : Int))) - Prod.snd (Prod.snd (List.getD f (Int.toNat x_2) (((0 : Int), (0 : Int)), (0 : Int), (0 : Int))))))) :: List.getD (List.set (l4 x_3.2.1) (Int.toNat x_2) (IntKind.wrap IntKind.i64 (List.getD (l4 c) (Int.toNat x_2) c.1 * IntKind.wrap IntKind.i64 (Prod.fst (List.getD ls (Int.toNat x) ((0 : Int), (0 : Int))) - Prod.snd (Prod.snd (List.getD f (Int.toNat x_2) (((0 : Int), (0 : Int)), (0 : Int), (0 : Int)))))))) (nat_lit 1) (IntKind.wrap IntKind.i64 (List.getD (l4 c) (Int.toNat x_2) c.1 * IntKind.wrap IntKind.i64 (Prod.fst (List.getD ls (Int.toNat x) ((0 : Int), (0 : Int))) - Prod.snd (Prod.snd (List.getD f (Int.toNat x_2) (((0 : Int), (0 : Int)), (0 : Int), (0 : Int))))))) :: List.getD (List.set (l4 x_3.2.1) (Int.toNat x_2) (IntKind.wrap IntKind.i64 (List.getD (l4 c) (Int.toNat x_2) c.1 * IntKind.wrap IntKind.i64 (Prod.fst (List.getD ls (Int.toNat x) ((0 : Int), (0 : Int))) - Prod.snd (Prod.snd (List.getD f (Int.toNat x_2) (((0 : Int), (0 : Int)), (0 : Int), (0 : Int)))))))) (nat_lit 2) (IntKind.wrap IntKind.i64 (List.getD (l4 c) (Int.toNat x_2) c.1 * IntKind.wrap IntKind.i64 (Prod.fst (List.getD ls (Int.toNat x) ((0 : Int), (0 : Int))) - Prod.snd (Prod.snd (List.getD f (Int.toNat x_2) (((0 : Int), (0 : Int)), (0 : Int), (0 : Int))))))) :: List.getD (List.set (l4 x_3.2.1) (Int.toNat x_2) (IntKind.wrap IntKind.i64 (List.getD (l4 c) (Int.toNat x_2) c.1 * IntKind.wrap IntKind.i64 (Prod.fst (List.getD ls (Int.toNat x) ((0 : Int), (0 : Int))) - Prod.snd (Prod.snd (List.getD f (Int.toNat x_2) (((0 : Int), (0 : Int)), (0 : Int), (0 : Int)))))))) (nat_lit 3) (IntKind.wrap IntKind.i64 (List.getD (l4 c) (Int.toNat x_2) c.1 * IntKind.wrap IntKind.i64 (Prod.fst (List.getD ls (Int.toNat x) ((0 : Int), (0 : Int))) - Prod.snd (Prod.snd (List.getD f (Int.toNat x_2) (((0 : Int), (0 : Int)), (0 : Int), (0 : Int))))))) :: ([] : List Int)) (Int.toNat x_2) (0 : Int)) (nat_lit 3) (0 : Int)), x_3.2.2.1, x_3.2.2.2) ∧ μ_1 (IntKind.wrap IntKind.i64 (x_2 + (1 : Int))) ((List.getD (List.set (List.getD (List.set (l4 x_3.1) (Int.toNat x_2) (List.getD (l4 c) (Int.toNat x_2) c.1)) (nat_lit 0) (List.getD (l4 c) (Int.toNat x_2) c.1) :: List.getD (List.set (l4 x_3.1) (Int.toNat x_2) (List.getD (l4 c) (Int.toNat x_2) c.1)) (nat_lit 1) (List.getD (l4 c) (Int.toNat x_2) c.1) :: List.getD (List.set (l4 x_3.1) (Int.toNat x_2) (List.getD (l4 c) (Int.toNat x_2) c.1)) (nat_lit 2) (List.getD (l4 c) (Int.toNat x_2) c.1) :: List.getD (List.set (l4 x_3.1) (Int.toNat x_2) (List.getD (l4 c) (Int.toNat x_2) c.1)) (nat_lit 3) (List.getD (l4 c) (Int.toNat x_2) c.1) :: ([] : List Int)) (Int.toNat x_2) (1000 : Int)) (nat_lit 0) (1000 : Int), List.getD (List.set (List.getD (List.set (l4 x_3.1) (Int.toNat x_2) (List.getD (l4 c) (Int.toNat x_2) c.1)) (nat_lit 0) (List.getD (l4 c) (Int.toNat x_2) c.1) :: List.getD (List.set (l4 x_3.1) (Int.toNat x_2) (List.getD (l4 c) (Int.toNat x_2) c.1)) (nat_lit 1) (List.getD (l4 c) (Int.toNat x_2) c.1) :: List.getD (List.set (l4 x_3.1) (Int.toNat x_2) (List.getD (l4 c) (Int.toNat x_2) c.1)) (nat_lit 2) (List.getD (l4 c) (Int.toNat x_2) c.1) :: List.getD (List.set (l4 x_3.1) (Int.toNat x_2) (List.getD (l4 c) (Int.toNat x_2) c.1)) (nat_lit 3) (List.getD (l4 c) (Int.toNat x_2) c.1) :: ([] : List Int)) (Int.toNat x_2) (1000 : Int)) (nat_lit 1) (1000 : Int), List.getD (List.set (List.getD (List.set (l4 x_3.1) (Int.toNat x_2) (List.getD (l4 c) (Int.toNat x_2) c.1)) (nat_lit 0) (List.getD (l4 c) (Int.toNat x_2) c.1) :: List.getD (List.set (l4 x_3.1) (Int.toNat x_2) (List.getD (l4 c) (Int.toNat x_2) c.1)) (nat_lit 1) (List.getD (l4 c) (Int.toNat x_2) c.1) :: List.getD (List.set (l4 x_3.1) (Int.toNat x_2) (List.getD (l4 c) (Int.toNat x_2) c.1)) (nat_lit 2) (List.getD (l4 c) (Int.toNat x_2) c.1) :: List.getD (List.set (l4 x_3.1) (Int.toNat x_2) (List.getD (l4 c) (Int.toNat x_2) c.1)) (nat_lit 3) (List.getD (l4 c) (Int.toNat x_2) c.1) :: ([] : List Int)) (Int.toNat x_2) (1000 : Int)) (nat_lit 2) (1000 : Int), List.getD (List.set (List.getD (List.set (l4 x_3.1) (Int.toNat x_2) (List.getD (l4 c) (Int.toNat x_2) c.1)) (nat_lit 0) (List.getD (l4 c) (Int.toNat x_2) c.1) :: List.getD (List.set (l4 x_3.1) (Int.toNat x_2) (List.getD (l4 c) (Int.toNat x_2) c.1)) (nat_lit 1) (List.getD (l4 c) (Int.toNat x_2) c.1) :: List.getD (List.set (l4 x_3.1) (Int.toNat x_2) (List.getD (l4 c) (Int.toNat x_2) c.1)) (nat_lit 2) (List.getD (l4 c) (Int.toNat x_2) c.1) :: List.getD (List.set (l4 x_3.1) (Int.toNat x_2) (List.getD (l4 c) (Int.toNat x_2) c.1)) (nat_lit 3) (List.getD (l4 c) (Int.toNat x_2) c.1) :: ([] : List Int)) (Int.toNat x_2) (1000 : Int)) (nat_lit 3) (1000 : Int)), (List.getD (List.set (List.getD (List.set (l4 x_3.2.1) (Int.toNat x_2) (IntKind.wrap IntKind.i64 (List.getD (l4 c) (Int.toNat x_2) c.1 * IntKind.wrap IntKind.i64 (Prod.fst (List.getD ls (Int.toNat x) ((0 : Int), (0 : Int))) - Prod.snd (Prod.snd (List.getD f (Int.toNat x_2) (((0 : Int), (0 : Int)), (0 : Int), (0 : Int)))))))) (nat_lit 0) (IntKind.wrap IntKind.i64 (List.getD (l4 c) (Int.toNat x_2) c.1 * IntKind.wrap IntKind.i64 (Prod.fst (List.getD ls (Int.toNat x) ((0 : Int), (0 : Int))) - Prod.snd (Prod.snd (List.getD f (Int.toNat x_2) (((0 : Int), (0 : Int)), (0 : Int), (0 : Int))))))) :: List.getD (List.set (l4 x_3.2.1) (Int.toNat x_2) (IntKind.wrap IntKind.i64 (List.getD (l4 c) (Int.toNat x_2) c.1 * IntKind.wrap IntKind.i64 (Prod.fst (List.getD ls (Int.toNat x) ((0 : Int), (0 : Int))) - Prod.snd (Prod.snd (List.getD f (Int.toNat x_2) (((0 : Int), (0 : Int)), (0 : Int), (0 : Int)))))))) (nat_lit 1) (IntKind.wrap IntKind.i64 (List.getD (l4 c) (Int.toNat x_2) c.1 * IntKind.wrap IntKind.i64 (Prod.fst (List.getD ls (Int.toNat x) ((0 : Int), (0 : Int))) - Prod.snd (Prod.snd (List.getD f (Int.toNat x_2) (((0 : Int), (0 : Int)), (0 : Int), (0 : Int))))))) :: List.getD (List.set (l4 x_3.2.1) (Int.toNat x_2) (IntKind.wrap IntKind.i64 (List.getD (l4 c) (Int.toNat x_2) c.1 * IntKind.wrap IntKind.i64 (Prod.fst (List.getD ls (Int.toNat x) ((0 : Int), (0 : Int))) - Prod.snd (Prod.snd (List.getD f (Int.toNat x_2) (((0 : Int), (0 : Int)), (0 : Int), (0 : Int)))))))) (nat_lit 2) (IntKind.wrap IntKind.i64 (List.getD (l4 c) (Int.toNat x_2) c.1 * IntKind.wrap IntKind.i64 (Prod.fst (List.getD ls (Int.toNat x) ((0 : Int), (0 : Int))) - Prod.snd (Prod.snd (List.getD f (Int.toNat x_2) (((0 : Int), (0 : Int)), (0 : Int), (0 : Int))))))) :: List.getD (List.set (l4 x_3.2.1) (Int.toNat x_2) (IntKind.wrap IntKind.i64 (List.getD (l4 c) (Int.toNat x_2) c.1 * IntKind.wrap IntKind.i64 (Prod.fst (List.getD ls (Int.toNat x) ((0 : Int), (0 : Int))) - Prod.snd (Prod.snd (List.getD f (Int.toNat x_2) (((0 : Int), (0 : Int)), (0 : Int), (0 : Int)))))))) (nat_lit 3) (IntKind.wrap IntKind.i64 (List.getD (l4 c) (Int.toNat x_2) c.1 * IntKind.wrap IntKind.i64 (Prod.fst (List.getD ls (Int.toNat x) ((0 : Int), (0 : Int))) - Prod.snd (Prod.snd (List.getD f (Int.toNat x_2) (((0 : Int), (0 : Int)), (0 : Int), (0 : Int))))))) :: ([] : List Int)) (Int.toNat x_2) (0 : Int)) (nat_lit 0) (0 : Int), List.getD (List.set (List.getD (List.set (l4 x_3.2.1) (Int.toNat x_2) (IntKind.wrap IntKind.i64 (List.getD (l4 c) (Int.toNat x_2) c.1 * IntKind.wrap IntKind.i64 (Prod.fst (List.getD ls (Int.toNat x) ((0 : Int), (0 : Int))) - Prod.snd (Prod.snd (List.getD f (Int.toNat x_2) (((0 : Int), (0 : Int)), (0 : Int), (0 : Int)))))))) (nat_lit 0) (IntKind.wrap IntKind.i64 (List.getD (l4 c) (Int.toNat x_2) c.1 * IntKind.wrap IntKind.i64 (Prod.fst (List.getD ls (Int.toNat x) ((0 : Int), (0 : Int))) - Prod.snd (Prod.snd (List.getD f (Int.toNat x_2) (((0 : Int), (0 : Int)), (0 : Int), (0 : Int))))))) :: List.getD (List.set (l4 x_3.2.1) (Int.toNat x_2) (IntKind.wrap IntKind.i64 (List.getD (l4 c) (Int.toNat x_2) c.1 * IntKind.wrap IntKind.i64 (Prod.fst (List.getD ls (Int.toNat x) ((0 : Int), (0 : Int))) - Prod.snd (Prod.snd (List.getD f (Int.toNat x_2) (((0 : Int), (0 : Int)), (0 : Int), (0 : Int)))))))) (nat_lit 1) (IntKind.wrap IntKind.i64 (List.getD (l4 c) (Int.toNat x_2) c.1 * IntKind.wrap IntKind.i64 (Prod.fst (List.getD ls (Int.toNat x) ((0 : Int), (0 : Int))) - Prod.snd (Prod.snd (List.getD f (Int.toNat x_2) (((0 : Int), (0 : Int)), (0 : Int), (0 : Int))))))) :: List.getD (List.set (l4 x_3.2.1) (Int.toNat x_2) (IntKind.wrap IntKind.i64 (List.getD (l4 c) (Int.toNat x_2) c.1 * IntKind.wrap IntKind.i64 (Prod.fst (List.getD ls (Int.toNat x) ((0 : Int), (0 : Int))) - Prod.snd (Prod.snd (List.getD f (Int.toNat x_2) (((0 : Int), (0 : Int)), (0 : Int), (0 : Int)))))))) (nat_lit 2) (IntKind.wrap IntKind.i64 (List.getD (l4 c) (Int.toNat x_2) c.1 * IntKind.wrap IntKind.i64 (Prod.fst (List.getD ls (Int.toNat x) ((0 : Int), (0 : Int))) - Prod.snd (Prod.snd (List.getD f (Int.toNat x_2) (((0 : Int), (0 : Int)), (0 : Int), (0 : Int))))))) :: List.getD (List.set (l4 x_3.2.1) (Int.toNat x_2) (IntKind.wrap IntKind.i64 (List.getD (l4 c) (Int.toNat x_2) c.1 * IntKind.wrap IntKind.i64 (Prod.fst (List.getD ls (Int.toNat x) ((0 : Int), (0 : Int))) - Prod.snd (Prod.snd (List.getD f (Int.toNat x_2) (((0 : Int), (0 : Int)), (0 : Int), (0 : Int)))))))) (nat_lit 3) (IntKind.wrap IntKind.i64 (List.getD (l4 c) (Int.toNat x_2) c.1 * IntKind.wrap IntKind.i64 (Prod.fst (List.getD ls (Int.toNat x) ((0 : Int), (0 : Int))) - Prod.snd (Prod.snd (List.getD f (Int.toNat x_2) (((0 : Int), (0 : Int)), (0 : Int), (0 : Int))))))) :: ([] : List Int)) (Int.toNat x_2) (0 : Int)) (nat_lit 1) (0 : Int), List.getD (List.set (List.getD (List.set (l4 x_3.2.1) (Int.toNat x_2) (IntKind.wrap IntKind.i64 (List.getD (l4 c) (Int.toNat x_2) c.1 * IntKind.wrap IntKind.i64 (Prod.fst (List.getD ls (Int.toNat x) ((0 : Int), (0 : Int))) - Prod.snd (Prod.snd (List.getD f (Int.toNat x_2) (((0 : Int), (0 : Int)), (0 : Int), (0 : Int)))))))) (nat_lit 0) (IntKind.wrap IntKind.i64 (List.getD (l4 c) (Int.toNat x_2) c.1 * IntKind.wrap IntKind.i64 (Prod.fst (List.getD ls (Int.toNat x) ((0 : Int), (0 : Int))) - Prod.snd (Prod.snd (List.getD f (Int.toNat x_2) (((0 : Int), (0 : Int)), (0 : Int), (0 : Int))))))) :: List.getD (List.set (l4 x_3.2.1) (Int.toNat x_2) (IntKind.wrap IntKind.i64 (List.getD (l4 c) (Int.toNat x_2) c.1 * IntKind.wrap IntKind.i64 (Prod.fst (List.getD ls (Int.toNat x) ((0 : Int), (0 : Int))) - Prod.snd (Prod.snd (List.getD f (Int.toNat x_2) (((0 : Int), (0 : Int)), (0 : Int), (0 : Int)))))))) (nat_lit 1) (IntKind.wrap IntKind.i64 (List.getD (l4 c) (Int.toNat x_2) c.1 * IntKind.wrap IntKind.i64 (Prod.fst (List.getD ls (Int.toNat x) ((0 : Int), (0 : Int))) - Prod.snd (Prod.snd (List.getD f (Int.toNat x_2) (((0 : Int), (0 : Int)), (0 : Int), (0 : Int))))))) :: List.getD (List.set (l4 x_3.2.1) (Int.toNat x_2) (IntKind.wrap IntKind.i64 (List.getD (l4 c) (Int.toNat x_2) c.1 * IntKind.wrap IntKind.i64 (Prod.fst (List.getD ls (Int.toNat x) ((0 : Int), (0 : Int))) - Prod.snd (Prod.snd (List.getD f (Int.toNat x_2) (((0 : Int), (0 : Int)), (0 : Int), (0 : Int)))))))) (nat_lit 2) (IntKind.wrap IntKind.i64 (List.getD (l4 c) (Int.toNat x_2) c.1 * IntKind.wrap IntKind.i64 (Prod.fst (List.getD ls (Int.toNat x) ((0 : Int), (0 : Int))) - Prod.snd (Prod.snd (List.getD f (Int.toNat x_2) (((0 : Int), (0 : Int)), (0 : Int), (0 : Int))))))) :: List.getD (List.set (l4 x_3.2.1) (Int.toNat x_2) (IntKind.wrap IntKind.i64 (List.getD (l4 c) (Int.toNat x_2) c.1 * IntKind.wrap IntKind.i64 (Prod.fst (List.getD ls (Int.toNat x) ((0 : Int), (0 : Int))) - Prod.snd (Prod.snd (List.getD f (Int.toNat x_2) (((0 : Int), (0 : Int)), (0 : Int), (0 : Int)))))))) (nat_lit 3) (IntKind.wrap IntKind.i64 (List.getD (l4 c) (Int.toNat x_2) c.1 * IntKind.wrap IntKind.i64 (Prod.fst (List.getD ls (Int.toNat x) ((0 : Int), (0 : Int))) - Prod.snd (Prod.snd (List.getD f (Int.toNat x_2) (((0 : Int), (0 : Int)), (0 : Int), (0 : Int))))))) :: ([] : List Int)) (Int.toNat x_2) (0 : Int)) (nat_lit 2) (0 : Int), List.getD (List.set (List.getD (List.set (l4 x_3.2.1) (Int.toNat x_2) (IntKind.wrap IntKind.i64 (List.getD (l4 c) (Int.toNat x_2) c.1 * IntKind.wrap IntKind.i64 (Prod.fst (List.getD ls (Int.toNat x) ((0 : Int), (0 : Int))) - Prod.snd (Prod.snd (List.getD f (Int.toNat x_2) (((0 : Int), (0 : Int)), (0 : Int), (0 : Int)))))))) (nat_lit 0) (IntKind.wrap IntKind.i64 (List.getD (l4 c) (Int.toNat x_2) c.1 * IntKind.wrap IntKind.i64 (Prod.fst (List.getD ls (Int.toNat x) ((0 : Int), (0 : Int))) - Prod.snd (Prod.snd (List.getD f (Int.toNat x_2) (((0 : Int), (0 : Int)), (0 : Int), (0 : Int))))))) :: List.getD (List.set (l4 x_3.2.1) (Int.toNat x_2) (IntKind.wrap IntKind.i64 (List.getD (l4 c) (Int.toNat x_2) c.1 * IntKind.wrap IntKind.i64 (Prod.fst (List.getD ls (Int.toNat x) ((0 : Int), (0 : Int))) - Prod.snd (Prod.snd (List.getD f (Int.toNat x_2) (((0 : Int), (0 : Int)), (0 : Int), (0 : Int)))))))) (nat_lit 1) (IntKind.wrap IntKind.i64 (List.getD (l4 c) (Int.toNat x_2) c.1 * IntKind.wrap IntKind.i64 (Prod.fst (List.getD ls (Int.toNat x) ((0 : Int), (0 : Int))) - Prod.snd (Prod.snd (List.getD f (Int.toNat x_2) (((0 : Int), (0 : Int)), (0 : Int), (0 : Int))))))) :: List.getD (List.set (l4 x_3.2.1) (Int.toNat x_2) (IntKind.wrap IntKind.i64 (List.getD (l4 c) (Int.toNat x_2) c.1 * IntKind.wrap IntKind.i64 (Prod.fst (List.getD ls (Int.toNat x) ((0 : Int), (0 : Int))) - Prod.snd (Prod.snd (List.getD f (Int.toNat x_2) (((0 : Int), (0 : Int)), (0 : Int), (0 : Int)))))))) (nat_lit 2) (IntKind.wrap IntKind.i64 (List.getD (l4 c) (Int.toNat x_2) c.1 * IntKind.wrap IntKind.i64 (Prod.fst (List.getD ls (Int.toNat x) ((0 : Int), (0 : Int))) - Prod.snd (Prod.snd (List.getD f (Int.toNat x_2) (((0 : Int), (0 : Int)), (0 : Int), (0 : Int))))))) :: List.getD (List.set (l4 x_3.2.1) (Int.toNat x_2) (IntKind.wrap IntKind.i64 (List.getD (l4 c) (Int.toNat x_2) c.1 * IntKind.wrap IntKind.i64 (Prod.fst (List.getD ls (Int.toNat x) ((0 : Int), (0 : Int))) - Prod.snd (Prod.snd (List.getD f (Int.toNat x_2) (((0 : Int), (0 : Int)), (0 : Int), (0 : Int)))))))) (nat_lit 3) (IntKind.wrap IntKind.i64 (List.getD (l4 c) (Int.toNat x_2) c.1 * IntKind.wrap IntKind.i64 (Prod.fst (List.getD ls (Int.toNat x) ((0 : Int), (0 : Int))) - Prod.snd (Prod.snd (List.getD f (Int.toNat x_2) (((0 : Int), (0 : Int)), (0 : Int), (0 : Int))))))) :: ([] : List Int)) (Int.toNat x_2) (0 : Int)) (nat_lit 3) (0 : Int)), x_3.2.2.1, x_3.2.2.2) < μ_1 x_2 x_3) (I_1 (IntKind.wrap IntKind.i64 (x_2 + (1 : Int))) ((List.getD (List.set (l4 x_3.1) (Int.toNat x_2) (List.getD (l4 c) (Int.toNat x_2) c.1)) (nat_lit 0) (List.getD (l4 c) (Int.toNat x_2) c.1), List.getD (List.set (l4 x_3.1) (Int.toNat x_2) (List.getD (l4 c) (Int.toNat x_2) c.1)) (nat_lit 1) (List.getD (l4 c) (Int.toNat x_2) c.1), List.getD (List.set (l4 x_3.1) (Int.toNat x_2) (List.getD (l4 c) (Int.toNat x_2) c.1)) (nat_lit 2) (List.getD (l4 c) (Int.toNat x_2) c.1), List.getD (List.set (l4 x_3.1) (Int.toNat x_2) (List.getD (l4 c) (Int.toNat x_2) c.1)) (nat_lit 3) (List.getD (l4 c) (Int.toNat x_2) c.1)), (List.getD (List.set (l4 x_3.2.1) (Int.toNat x_2) (IntKind.wrap IntKind.i64 (List.getD (l4 c) (Int.toNat x_2) c.1 * IntKind.wrap IntKind.i64 (Prod.fst (List.getD ls (Int.toNat x) ((0 : Int), (0 : Int))) - Prod.snd (Prod.snd (List.getD f (Int.toNat x_2) (((0 : Int), (0 : Int)), (0 : Int), (0 : Int)))))))) (nat_lit 0) (IntKind.wrap IntKind.i64 (List.getD (l4 c) (Int.toNat x_2) c.1 * IntKind.wrap IntKind.i64 (Prod.fst (List.getD ls (Int.toNat x) ((0 : Int), (0 : Int))) - Prod.snd (Prod.snd (List.getD f (Int.toNat x_2) (((0 : Int), (0 : Int)), (0 : Int), (0 : Int))))))), List.getD (List.set (l4 x_3.2.1) (Int.toNat x_2) (IntKind.wrap IntKind.i64 (List.getD (l4 c) (Int.toNat x_2) c.1 * IntKind.wrap IntKind.i64 (Prod.fst (List.getD ls (Int.toNat x) ((0 : Int), (0 : Int))) - Prod.snd (Prod.snd (List.getD f (Int.toNat x_2) (((0 : Int), (0 : Int)), (0 : Int), (0 : Int)))))))) (nat_lit 1) (IntKind.wrap IntKind.i64 (List.getD (l4 c) (Int.toNat x_2) c.1 * IntKind.wrap IntKind.i64 (Prod.fst (List.getD ls (Int.toNat x) ((0 : Int), (0 : Int))) - Prod.snd (Prod.snd (List.getD f (Int.toNat x_2) (((0 : Int), (0 : Int)), (0 : Int), (0 : Int))))))), List.getD (List.set (l4 x_3.2.1) (Int.toNat x_2) (IntKind.wrap IntKind.i64 (List.getD (l4 c) (Int.toNat x_2) c.1 * IntKind.wrap IntKind.i64 (Prod.fst (List.getD ls (Int.toNat x) ((0 : Int), (0 : Int))) - Prod.snd (Prod.snd (List.getD f (Int.toNat x_2) (((0 : Int), (0 : Int)), (0 : Int), (0 : Int)))))))) (nat_lit 2) (IntKind.wrap IntKind.i64 (List.getD (l4 c) (Int.toNat x_2) c.1 * IntKind.wrap IntKind.i64 (Prod.fst (List.getD ls (Int.toNat x) ((0 : Int), (0 : Int))) - Prod.snd (Prod.snd (List.getD f (Int.toNat x_2) (((0 : Int), (0 : Int)), (0 : Int), (0 : Int))))))), List.getD (List.set (l4 x_3.2.1) (Int.toNat x_2) (IntKind.wrap IntKind.i64 (List.getD (l4 c) (Int.toNat x_2) c.1 * IntKind.wrap IntKind.i64 (Prod.fst (List.getD ls (Int.toNat x) ((0 : Int), (0 : Int))) - Prod.snd (Prod.snd (List.getD f (Int.toNat x_2) (((0 : Int), (0 : Int)), (0 : Int), (0 : Int)))))))) (nat_lit 3) (IntKind.wrap IntKind.i64 (List.getD (l4 c) (Int.toNat x_2) c.1 * IntKind.wrap IntKind.i64 (Prod.fst (List.getD ls (Int.toNat x) ((0 : Int), (0 : Int))) - Prod.snd (Prod.snd (List.getD f (Int.toNat x_2) (((0 : Int), (0 : Int)), (0 : Int), (0 : Int)))))))), x_3.2.2.1, x_3.2.2.2) ∧ μ_1 (IntKind.wrap IntKind.i64 (x_2 + (1 : Int))) ((List.getD (List.set (l4 x_3.1) (Int.toNat x_2) (List.getD (l4 c) (Int.toNat x_2) c.1)) (nat_lit 0) (List.getD (l4 c) (Int.toNat x_2) c.1), List.getD (List.set (l4 x_3.1) (Int.toNat x_2) (List.getD (l4 c) (Int.toNat x_2) c.1)) (nat_lit 1) (List.getD (l4 c) (Int.toNat x_2) c.1), List.getD (List.set (l4 x_3.1) (Int.toNat x_2) (List.getD (l4 c) (Int.toNat x_2) c.1)) (nat_lit 2) (List.getD (l4 c) (Int.toNat x_2) c.1), List.getD (List.set (l4 x_3.1) (Int.toNat x_2) (List.getD (l4 c) (Int.toNat x_2) c.1)) (nat_lit 3) (List.getD (l4 c) (Int.toNat x_2) c.1)), (List.getD (List.set (l4 x_3.2.1) (Int.toNat x_2) (IntKind.wrap IntKind.i64 (List.getD (l4 c) (Int.toNat x_2) c.1 * IntKind.wrap IntKind.i64 (Prod.fst (List.getD ls (Int.toNat x) ((0 : Int), (0 : Int))) - Prod.snd (Prod.snd (List.getD f (Int.toNat x_2) (((0 : Int), (0 : Int)), (0 : Int), (0 : Int)))))))) (nat_lit 0) (IntKind.wrap IntKind.i64 (List.getD (l4 c) (Int.toNat x_2) c.1 * IntKind.wrap IntKind.i64 (Prod.fst (List.getD ls (Int.toNat x) ((0 : Int), (0 : Int))) - Prod.snd (Prod.snd (List.getD f (Int.toNat x_2) (((0 : Int), (0 : Int)), (0 : Int), (0 : Int))))))), List.getD (List.set (l4 x_3.2.1) (Int.toNat x_2) (IntKind.wrap IntKind.i64 (List.getD (l4 c) (Int.toNat x_2) c.1 * IntKind.wrap IntKind.i64 (Prod.fst (List.getD ls (Int.toNat x) ((0 : Int), (0 : Int))) - Prod.snd (Prod.snd (List.getD f (Int.toNat x_2) (((0 : Int), (0 : Int)), (0 : Int), (0 : Int)))))))) (nat_lit 1) (IntKind.wrap IntKind.i64 (List.getD (l4 c) (Int.toNat x_2) c.1 * IntKind.wrap IntKind.i64 (Prod.fst (List.getD ls (Int.toNat x) ((0 : Int), (0 : Int))) - Prod.snd (Prod.snd (List.getD f (Int.toNat x_2) (((0 : Int), (0 : Int)), (0 : Int), (0 : Int))))))), List.getD (List.set (l4 x_3.2.1) (Int.toNat x_2) (IntKind.wrap IntKind.i64 (List.getD (l4 c) (Int.toNat x_2) c.1 * IntKind.wrap IntKind.i64 (Prod.fst (List.getD ls (Int.toNat x) ((0 : Int), (0 : Int))) - Prod.snd (Prod.snd (List.getD f (Int.toNat x_2) (((0 : Int), (0 : Int)), (0 : Int), (0 : Int)))))))) (nat_lit 2) (IntKind.wrap IntKind.i64 (List.getD (l4 c) (Int.toNat x_2) c.1 * IntKind.wrap IntKind.i64 (Prod.fst (List.getD ls (Int.toNat x) ((0 : Int), (0 : Int))) - Prod.snd (Prod.snd (List.getD f (Int.toNat x_2) (((0 : Int), (0 : Int)), (0 : Int), (0 : Int))))))), List.getD (List.set (l4 x_3.2.1) (Int.toNat x_2) (IntKind.wrap IntKind.i64 (List.getD (l4 c) (Int.toNat x_2) c.1 * IntKind.wrap IntKind.i64 (Prod.fst (List.getD ls (Int.toNat x) ((0 : Int), (0 : Int))) - Prod.snd (Prod.snd (List.getD f (Int.toNat x_2) (((0 : Int), (0 : Int)), (0 : Int), (0 : Int)))))))) (nat_lit 3) (IntKind.wrap IntKind.i64 (List.getD (l4 c) (Int.toNat x_2) c.1 * IntKind.wrap IntKind.i64 (Prod.fst (List.getD ls (Int.toNat x) ((0 : Int), (0 : Int))) - Prod.snd (Prod.snd (List.getD f (Int.toNat x_2) (((0 : Int), (0 : Int)), (0 : Int), (0 : Int)))))))), x_3.2.2.1, x_3.2.2.2) < μ_1 x_2 x_3)) ((List.length x_1 + List.length (((x_3.1.1, x_3.1.2.1, x_3.1.2.2.1, x_3.1.2.2.2), (x_3.2.1.1, x_3.2.1.2.1, x_3.2.1.2.2.1, x_3.2.1.2.2.2), x_3.2.2.1, x_3.2.2.2) :: ([] : List BinT))) * (80 : Nat) ≤ (140737488355328 : Nat) ∧ I (IntKind.wrap IntKind.i64 (x + (1 : Int))) (x_1 ++ ((x_3.1.1, x_3.1.2.1, x_3.1.2.2.1, x_3.1.2.2.2), (x_3.2.1.1, x_3.2.1.2.1, x_3.2.1.2.2.1, x_3.2.1.2.2.2), x_3.2.2.1, x_3.2.2.2) :: ([] : List BinT)) ∧ μ (IntKind.wrap IntKind.i64 (x + (1 : Int))) (x_1 ++ ((x_3.1.1, x_3.1.2.1, x_3.1.2.2.1, x_3.1.2.2.2), (x_3.2.1.1, x_3.2.1.2.1, x_3.2.1.2.2.1, x_3.2.1.2.2.2), x_3.2.2.1, x_3.2.2.2) :: ([] : List BinT)) < μ x x_1)) (Q x_1)
theorem v30 (ls : List (Int × Int)) (f : List Spring) (c : Int × Int × Int × Int) (Q : List BinT → Prop) : V30 ls f c Q = vcFunc (S0 [] []) f30_ct.own f30_ct.fresh f30_an Try.f30 (bodyOf Try.f30) f30_ct.A f30_ct.C f30_ct.R (ls, f, c, ()) () Q := by kernel_rfl

def V51 (s : List Int × Int × List (Int × Int)) (f : List Spring) (c : Int × Int × Int × Int) (n : Int × Int × Int × Int) (Q : Bool → Prop) : Prop := ∃ (r : List BinT), (f25_wp (s.1, s.2.1, (c.1, c.2.1, c.2.2.1, c.2.2.2), (0 : Int), (0 : Int), ()) () fun (r' : List BinT) ↦ r' = r) ∧ ∃ (r_1 : List Int), (f72_wp (r, (0 : Int), ()) () fun (r' : List Int) ↦ r' = r_1) ∧ ∃ (r : Int), (f73_wp (n.1, n.2.1, n.2.2.1, n.2.2.2) () fun (r' : Int) ↦ r' = r) ∧ (0 : Int) ≤ r ∧ r < (↑(List.length r_1) : Int) ∧ cnd (decide (List.getD r_1 (Int.toNat r) (0 : Int) ≥ (0 : Int))) (∃ (r : List BinT), (f30_wp (s.2.2, f, (c.1, c.2.1, c.2.2.1, c.2.2.2), ()) () fun (r' : List BinT) ↦ r' = r) ∧ ∃ (r_2 : List Int), (f72_wp (r, (0 : Int), ()) () fun (r' : List Int) ↦ r' = r_2) ∧ ∃ (r : Int), (f73_wp (n.1, n.2.1, n.2.2.1, n.2.2.2) () fun (r' : Int) ↦ r' = r) ∧ (0 : Int) ≤ r ∧ r < (↑(List.length r_2) : Int) ∧ Q (decide (List.getD r_2 (Int.toNat r) (0 : Int) ≥ (0 : Int)))) (Q false)
theorem v51 (s : List Int × Int × List (Int × Int)) (f : List Spring) (c : Int × Int × Int × Int) (n : Int × Int × Int × Int) (Q : Bool → Prop) : V51 s f c n Q = vcFunc (S0 [(25, f25_ct), (72, f72_ct), (73, f73_ct), (30, f30_ct)] []) f51_ct.own f51_ct.fresh no_an Try.f51 (bodyOf Try.f51) f51_ct.A f51_ct.C f51_ct.R (s, f, c, n, ()) () Q := by kernel_rfl

def V52 (s : List Int × Int × List (Int × Int)) (f : List Spring) (Q : List Int → Prop) : Prop := f26_wp (f, true, ()) () fun (r : Int × Int × Int × Int) ↦ f27_wp f () fun (r_1 : Int × Int × Int × Int) ↦ ∃ (r_2 : List BinT), (f25_wp (s.1, s.2.1, (r.1, r.2.1, r.2.2.1, r.2.2.2), (0 : Int), (0 : Int), ()) () fun (r' : List BinT) ↦ r' = r_2) ∧ ∃ (r_3 : List Int), (f72_wp (r_2, (0 : Int), ()) () fun (r' : List Int) ↦ r' = r_3) ∧ ∃ (r_4 : List BinT), (f30_wp (s.2.2, f, (r.1, r.2.1, r.2.2.1, r.2.2.2), ()) () fun (r' : List BinT) ↦ r' = r_4) ∧ ∃ (r : List Int), (f72_wp (r_4, (0 : Int), ()) () fun (r' : List Int) ↦ r' = r) ∧ ∃ (I : Int → Int × Int × Int × Int → Prop), ∃ (μ : Int → Int × Int × Int × Int → Nat), I (0 : Int) ((0 : Int), (0 : Int), (0 : Int), (0 : Int)) ∧ ∀ (x : Int) (x_1 : Int × Int × Int × Int), I x x_1 → cnd (decide (x < (625 : Int))) (∃ (r_5 : Int × Int × Int × Int), (f90_wp x () fun (r' : Int × Int × Int × Int) ↦ r' = r_5) ∧ (0 : Int) ≤ x ∧ x < (↑(List.length r_3) : Int) ∧ cnd (decide (List.getD r_3 (Int.toNat x) (0 : Int) ≥ (0 : Int))) ((0 : Int) ≤ x ∧ x < (↑(List.length r) : Int) ∧ ∃ (I_1 : Int → Bool → Int → Prop), ∃ (μ_1 : Int → Bool → Int → Nat), I_1 (0 : Int) (decide (List.getD r (Int.toNat x) (0 : Int) ≥ (0 : Int))) (0 : Int) ∧ ∀ (x_2 : Int) (x_3 : Bool) (x_4 : Int), I_1 x_2 x_3 x_4 → cnd (decide (x_2 < (4 : Int))) (cnd x_3 ((0 : Int) ≤ x_2 ∧ x_2 < (↑(4 : Nat) : Int) ∧ (0 : Int) ≤ x_2 ∧ x_2 < (↑(4 : Nat) : Int) ∧ (0 : Int) ≤ x_2 ∧ x_2 < (↑(4 : Nat) : Int) ∧ (0 : Int) ≤ x_2 ∧ x_2 < (↑(4 : Nat) : Int) ∧ I_1 (IntKind.wrap IntKind.i64 (x_2 + (1 : Int))) (decide (List.getD (l4 r_5) (Int.toNat x_2) r_5.1 ≤ List.getD (l4 r_1) (Int.toNat x_2) r_1.1)) (IntKind.wrap IntKind.i64 (IntKind.wrap IntKind.i64 (x_4 + List.getD (l4 r_5) (Int.toNat x_2) r_5.1) - List.getD (l4 x_1) (Int.toNat x_2) x_1.1)) ∧ μ_1 (IntKind.wrap IntKind.i64 (x_2 + (1 : Int))) (decide (List.getD (l4 r_5) (Int.toNat x_2) r_5.1 ≤ List.getD (l4 r_1) (Int.toNat x_2) r_1.1)) (IntKind.wrap IntKind.i64 (IntKind.wrap IntKind.i64 (x_4 + List.getD (l4 r_5) (Int.toNat x_2) r_5.1) - List.getD (l4 x_1) (Int.toNat x_2) x_1.1)) < μ_1 x_2 x_3 x_4) ((0 : Int) ≤ x_2 ∧ x_2 < (↑(4 : Nat) : Int) ∧ (0 : Int) ≤ x_2 ∧ x_2 < (↑(4 : Nat) : Int) ∧ I_1 (IntKind.wrap IntKind.i64 (x_2 + (1 : Int))) false (IntKind.wrap IntKind.i64 (IntKind.wrap IntKind.i64 (x_4 + List.getD (l4 r_5) (Int.toNat x_2) r_5.1) - List.getD (l4 x_1) (Int.toNat x_2) x_1.1)) ∧ μ_1 (IntKind.wrap IntKind.i64 (x_2 + (1 : Int))) false (IntKind.wrap IntKind.i64 (IntKind.wrap IntKind.i64 (x_4 + List.getD (l4 r_5) (Int.toNat x_2) r_5.1) - List.getD (l4 x_1) (Int.toNat x_2) x_1.1)) < μ_1 x_2 x_3 x_4)) (cnd x_3 (cnd (decide (x_4 ≥ (0 : Int))) (I (IntKind.wrap IntKind.i64 (x + (1 : Int))) (r_5.1, r_5.2.1, r_5.2.2.1, r_5.2.2.2) ∧ μ (IntKind.wrap IntKind.i64 (x + (1 : Int))) (r_5.1, r_5.2.1, r_5.2.2.1, r_5.2.2.2) < μ x x_1) (I (IntKind.wrap IntKind.i64 (x + (1 : Int))) (x_1.1, x_1.2.1, x_1.2.2.1, x_1.2.2.2) ∧ μ (IntKind.wrap IntKind.i64 (x + (1 : Int))) (x_1.1, x_1.2.1, x_1.2.2.1, x_1.2.2.2) < μ x x_1)) (I (IntKind.wrap IntKind.i64 (x + (1 : Int))) (x_1.1, x_1.2.1, x_1.2.2.1, x_1.2.2.2) ∧ μ (IntKind.wrap IntKind.i64 (x + (1 : Int))) (x_1.1, x_1.2.1, x_1.2.2.1, x_1.2.2.2) < μ x x_1))) (∃ (I_1 : Int → Bool → Int → Prop), ∃ (μ_1 : Int → Bool → Int → Nat), I_1 (0 : Int) false (0 : Int) ∧ ∀ (x_2 : Int) (x_3 : Bool) (x_4 : Int), I_1 x_2 x_3 x_4 → cnd (decide (x_2 < (4 : Int))) (cnd x_3 ((0 : Int) ≤ x_2 ∧ x_2 < (↑(4 : Nat) : Int) ∧ (0 : Int) ≤ x_2 ∧ x_2 < (↑(4 : Nat) : Int) ∧ (0 : Int) ≤ x_2 ∧ x_2 < (↑(4 : Nat) : Int) ∧ (0 : Int) ≤ x_2 ∧ x_2 < (↑(4 : Nat) : Int) ∧ I_1 (IntKind.wrap IntKind.i64 (x_2 + (1 : Int))) (decide (List.getD (l4 r_5) (Int.toNat x_2) r_5.1 ≤ List.getD (l4 r_1) (Int.toNat x_2) r_1.1)) (IntKind.wrap IntKind.i64 (IntKind.wrap IntKind.i64 (x_4 + List.getD (l4 r_5) (Int.toNat x_2) r_5.1) - List.getD (l4 x_1) (Int.toNat x_2) x_1.1)) ∧ μ_1 (IntKind.wrap IntKind.i64 (x_2 + (1 : Int))) (decide (List.getD (l4 r_5) (Int.toNat x_2) r_5.1 ≤ List.getD (l4 r_1) (Int.toNat x_2) r_1.1)) (IntKind.wrap IntKind.i64 (IntKind.wrap IntKind.i64 (x_4 + List.getD (l4 r_5) (Int.toNat x_2) r_5.1) - List.getD (l4 x_1) (Int.toNat x_2) x_1.1)) < μ_1 x_2 x_3 x_4) ((0 : Int) ≤ x_2 ∧ x_2 < (↑(4 : Nat) : Int) ∧ (0 : Int) ≤ x_2 ∧ x_2 < (↑(4 : Nat) : Int) ∧ I_1 (IntKind.wrap IntKind.i64 (x_2 + (1 : Int))) false (IntKind.wrap IntKind.i64 (IntKind.wrap IntKind.i64 (x_4 + List.getD (l4 r_5) (Int.toNat x_2) r_5.1) - List.getD (l4 x_1) (Int.toNat x_2) x_1.1)) ∧ μ_1 (IntKind.wrap IntKind.i64 (x_2 + (1 : Int))) false (IntKind.wrap IntKind.i64 (IntKind.wrap IntKind.i64 (x_4 + List.getD (l4 r_5) (Int.toNat x_2) r_5.1) - List.getD (l4 x_1) (Int.toNat x_2) x_1.1)) < μ_1 x_2 x_3 x_4)) (cnd x_3 (cnd (decide (x_4 ≥ (0 : Int))) (I (IntKind.wrap IntKind.i64 (x + (1 : Int))) (r_5.1, r_5.2.1, r_5.2.2.1, r_5.2.2.2) ∧ μ (IntKind.wrap IntKind.i64 (x + (1 : Int))) (r_5.1, r_5.2.1, r_5.2.2.1, r_5.2.2.2) < μ x x_1) (I (IntKind.wrap IntKind.i64 (x + (1 : Int))) (x_1.1, x_1.2.1, x_1.2.2.1, x_1.2.2.2) ∧ μ (IntKind.wrap IntKind.i64 (x + (1 : Int))) (x_1.1, x_1.2.1, x_1.2.2.1, x_1.2.2.2) < μ x x_1)) (I (IntKind.wrap IntKind.i64 (x + (1 : Int))) (x_1.1, x_1.2.1, x_1.2.2.1, x_1.2.2.2) ∧ μ (IntKind.wrap IntKind.i64 (x + (1 : Int))) (x_1.1, x_1.2.1, x_1.2.2.1, x_1.2.2.2) < μ x x_1)))) (List.length f ≤ (9223372036854775807 : Nat) → (0 : Int) ≤ (0 : Int) ∧ (0 : Int) ≤ (↑(List.length f) : Int) ∧ (↑(List.length f) : Int) ≤ (↑(4 : Nat) : Int) ∧ (List.length ([] : List Int) + List.length (List.drop (Int.toNat (0 : Int)) (List.take (Int.toNat (↑(List.length f) : Int)) (l4 x_1)))) * (8 : Nat) ≤ (140737488355328 : Nat) ∧ Q (([] : List Int) ++ List.drop (Int.toNat (0 : Int)) (List.take (Int.toNat (↑(List.length f) : Int)) (l4 x_1))))
theorem v52 (s : List Int × Int × List (Int × Int)) (f : List Spring) (Q : List Int → Prop) : V52 s f Q = vcFunc (S0 [(26, f26_ct), (27, f27_ct), (25, f25_ct), (72, f72_ct), (30, f30_ct), (90, f90_ct)] []) f52_ct.own f52_ct.fresh f52_an Try.f52 (bodyOf Try.f52) f52_ct.A f52_ct.C f52_ct.R (s, f, ()) () Q := by kernel_rfl

end Go.Proofs.Fa
set_option linter.unusedVariables false
namespace Go.Proofs.Fa
open Go Go.GX Go.Proofs

theorem p32 {n a b : Int} {Q : Bool → Prop} (h : f32_wp (n, a, b, ()) () Q) : V32 n a b Q := by
  have h : Q (inB a b n) := h
  unfold inB at h
  refine cnd_iff.2 ⟨fun h1 => ?_, fun h1 => ?_⟩
  · have h1 : decide (n ≥ a) = true := h1
    have e : decide (a ≤ n) = true := h1
    rw [e] at h; exact h
  · have h1 : decide (n ≥ a) = false := h1
    have e : decide (a ≤ n) = false := h1
    rw [e] at h; exact h
theorem p90 {n : Int} {Q : FansT → Prop} (h : f90_wp n () Q) : V90 n Q := by
  obtain ⟨⟨h0, h1⟩, h⟩ := h
  have h : Q (n / 125, n / 25 % 5, n / 5 % 5, n % 5) := h
  have d : ∀ m : Int, 0 < m → Int.tdiv n m = n / m ∧ 0 ≤ n / m ∧ n / m ≤ 625 := fun m hm => by
    refine ⟨Int.tdiv_eq_ediv_of_nonneg h0, Int.ediv_nonneg h0 (by omega), ?_⟩
    have := Int.ediv_le_self m h0; omega
  obtain ⟨a1, a2, a3⟩ := d 125 (by omega)
  obtain ⟨b1, b2, b3⟩ := d 25 (by omega)
  obtain ⟨c1, c2, c3⟩ := d 5 (by omega)
  unfold V90
  simp only [a1, b1, c1]
  have w : ∀ x : Int, 0 ≤ x → x ≤ 625 → IntKind.wrap .i64 x = x := fun x g1 g2 => wrapS (by omega) (by omega)
  rw [w _ a2 a3, w _ b2 b3, w _ c2 c3, Int.tmod_eq_emod_of_nonneg b2, Int.tmod_eq_emod_of_nonneg c2, Int.tmod_eq_emod_of_nonneg h0]
  exact ⟨by decide, by decide, by decide, by decide, by decide, by decide, h⟩
theorem p73 {f : FansT} {Q : Int → Prop} (h : f73_wp f () Q) : V73 f Q := by
  obtain ⟨⟨⟨a1, a2⟩, ⟨b1, b2⟩, ⟨c1, c2⟩, ⟨d1, d2⟩⟩, h⟩ := h
  have h : Q (((f.1 * 5 + f.2.1) * 5 + f.2.2.1) * 5 + f.2.2.2) := h
  unfold V73
  rw [wrapS (x := f.1 * 5) (by omega) (by omega), wrapS (x := f.1 * 5 + f.2.1) (by omega) (by omega), wrapS (x := (f.1 * 5 + f.2.1) * 5) (by omega) (by omega), wrapS (x := (f.1 * 5 + f.2.1) * 5 + f.2.2.1) (by omega) (by omega),
    wrapS (x := ((f.1 * 5 + f.2.1) * 5 + f.2.2.1) * 5) (by omega) (by omega), wrapS (x := ((f.1 * 5 + f.2.1) * 5 + f.2.2.1) * 5 + f.2.2.2) (by omega) (by omega)]
  exact h
theorem p16 {s : Store} {f : List Spring} {Q : Bool → Prop} (h : f16_wp (s, f, ()) () Q) : V16 s f Q := by
  have h : Q (decide (8 < s.1.length ∨ 8 < s.2.2.length ∨ 8 < f.length)) := h
  intro _
  refine cnd_iff.2 ⟨fun h1 => ?_, fun h1 _ => cnd_iff.2 ⟨fun h2 => ?_, fun h2 _ => ?_⟩⟩
  · have h1 : (s.1.length : Int) > 8 := of_decide_eq_true h1
    rw [decide_eq_true (.inl (by omega))] at h; exact h
  · have h2 : (s.2.2.length : Int) > 8 := of_decide_eq_true h2
    rw [decide_eq_true (.inr (.inl (by omega)))] at h; exact h
  · have h1 : ¬ (s.1.length : Int) > 8 := of_decide_eq_false h1
    have h2 : ¬ (s.2.2.length : Int) > 8 := of_decide_eq_false h2
    have e : decide (8 < s.1.length ∨ 8 < s.2.2.length ∨ 8 < f.length) = decide ((f.length : Int) > 8) := by
      by_cases h3 : (f.length : Int) > 8
      · rw [decide_eq_true h3, decide_eq_true (.inr (.inr (by omega)))]
      · rw [decide_eq_false h3, decide_eq_false (by omega)]
    rwa [e] at h
theorem p18 {s : Store} {Q : Store → Prop} (h : f18_wp s () Q) : V18 s Q := by
  obtain ⟨⟨h1, h2⟩, h⟩ := h
  exact ⟨by simp; omega, by simp; omega, h⟩
theorem p19 {f : List Spring} {Q : List Spring → Prop} (h : f19_wp f () Q) : V19 f Q := by
  obtain ⟨h1, h⟩ := h
  exact ⟨by simp; omega, h⟩
theorem list_ext' {α : Type} {a b : List α} (d : α) (hl : a.length = b.length) (h : ∀ j, j < a.length → a.getD j d = b.getD j d) : a = b := by
  refine List.ext_getElem hl fun j h1 h2 => ?_
  have := h j h1
  rwa [getD_lt h1, getD_lt h2] at this

theorem same_loop {α : Type} [DecidableEq α] {a b : List α} (d : α) {Q : Bool → Prop} (h : Q (decide (a = b))) {T : Int → Prop → Prop → Prop}
    (ht : ∀ (k : Nat) (P1 P2 : Prop), k < a.length → k < b.length → (a.getD k d ≠ b.getD k d → P1) → (a.getD k d = b.getD k d → P2) → T (k : Int) P1 P2) (h1 : a.length ≤ 9223372036854775807 → b.length ≤ 9223372036854775807 → True) :
    a.length ≤ 9223372036854775807 → b.length ≤ 9223372036854775807 → cnd ((a.length : Int) != (b.length : Int)) (Q false)
      (∃ (I : Int → Prop) (μ : Int → Nat), I 0 ∧ ∀ x, I x → a.length ≤ 9223372036854775807 → cnd (decide (x < (a.length : Int))) (0 ≤ x ∧ x < (a.length : Int) ∧ 0 ≤ x ∧ x < (b.length : Int) ∧ T x (Q false) (I (IntKind.wrap .i64 (x + 1)) ∧ μ (IntKind.wrap .i64 (x + 1)) < μ x)) (Q true)) := by
  intro _ _
  refine cnd_iff.2 ⟨fun hl => ?_, fun hl => ?_⟩
  · have : a ≠ b := by
      intro e; rw [e] at hl; simp at hl
    rw [decide_eq_false this] at h; exact h
  have hl : a.length = b.length := by have := eq_of_bne hl; omega
  refine forUpGL (fun k => ∀ j, j < k → a.getD j d = b.getD j d) (fun j hj => absurd hj (Nat.not_lt_zero _)) (fun k hk hg _ I μ hI hw => ?_) (fun hg => ?_)
  · refine ⟨by omega, by omega, by omega, by omega, ?_⟩
    refine ht k _ _ hk (by omega) (fun hne => ?_) (fun he => ?_)
    · have : a ≠ b := by intro e; rw [e] at hne; exact hne rfl
      rw [decide_eq_false this] at h; exact h
    · rw [hw]
      refine hI fun j hj => ?_
      rcases Nat.lt_succ_iff_lt_or_eq.1 hj with h3 | rfl
      · exact hg j h3
      · exact he
  · rw [decide_eq_true (list_ext' d hl hg)] at h; exact h
theorem p38 {a b : List Int} {Q : Bool → Prop} (h : f38_wp (a, b, ()) () Q) : V38 a b Q :=
  same_loop (0 : Int) h (T := fun x P1 P2 => cnd (a.getD x.toNat 0 != b.getD x.toNat 0) P1 P2) (fun k P1 P2 _ _ g1 g2 => cnd_iff.2 ⟨fun e => g1 (ne_of_bne e), fun e => g2 (eq_of_bne e)⟩) fun _ _ => trivial
theorem p28 {a b : List (List Int)} {Q : Bool → Prop} (h : f28_wp (a, b, ()) () Q) : V28 a b Q :=
  same_loop ([] : List Int) h (T := fun x P1 P2 => ∃ r : Bool, (f38_wp (a.getD x.toNat [], b.getD x.toNat [], ()) () fun r' => r' = r) ∧ cnd (!r) P1 P2) (fun k P1 P2 _ _ g1 g2 => ⟨decide (a.getD k [] = b.getD k []), rfl, cnd_iff.2 ⟨fun e => g1 (by simpa using e), fun e => g2 (by simpa using e)⟩⟩) fun _ _ => trivial
theorem lot_eq (p q : Lot) : (p.1 == q.1 && (p.2 == q.2 && true)) = decide (p = q) := by
  obtain ⟨a, b⟩ := p
  obtain ⟨c, d⟩ := q
  by_cases h1 : a = c <;> by_cases h2 : b = d <;> simp [h1, h2]
theorem spr_eq (p q : Spring) : (p.1.1 == q.1.1 && (p.1.2 == q.1.2 && (p.2.1 == q.2.1 && (p.2.2 == q.2.2 && true)))) = decide (p = q) := by
  obtain ⟨⟨a, b⟩, c, d⟩ := p
  obtain ⟨⟨a', b'⟩, c', d'⟩ := q
  by_cases h1 : a = a' <;> by_cases h2 : b = b' <;> by_cases h3 : c = c' <;> by_cases h4 : d = d' <;> simp [h1, h2, h3, h4]
theorem p71 {a b : List Spring} {Q : Bool → Prop} (h : f71_wp (a, b, ()) () Q) : V71 a b Q :=
  same_loop (((0, 0), 0, 0) : Spring) h (T := fun x P1 P2 => cnd (!((a.getD x.toNat ((0, 0), 0, 0)).1.1 == (b.getD x.toNat ((0, 0), 0, 0)).1.1 && ((a.getD x.toNat ((0, 0), 0, 0)).1.2 == (b.getD x.toNat ((0, 0), 0, 0)).1.2 && ((a.getD x.toNat ((0, 0), 0, 0)).2.1 == (b.getD x.toNat ((0, 0), 0, 0)).2.1 && ((a.getD x.toNat ((0, 0), 0, 0)).2.2 == (b.getD x.toNat ((0, 0), 0, 0)).2.2 && true))))) P1 P2)
    (fun k P1 P2 _ _ g1 g2 => by
      show cnd (!((a.getD k ((0, 0), 0, 0)).1.1 == (b.getD k ((0, 0), 0, 0)).1.1 && ((a.getD k ((0, 0), 0, 0)).1.2 == (b.getD k ((0, 0), 0, 0)).1.2 && ((a.getD k ((0, 0), 0, 0)).2.1 == (b.getD k ((0, 0), 0, 0)).2.1 && ((a.getD k ((0, 0), 0, 0)).2.2 == (b.getD k ((0, 0), 0, 0)).2.2 && true))))) P1 P2
      rw [spr_eq]
      exact cnd_iff.2 ⟨fun e => g1 (by simpa using e), fun e => g2 (by simpa using e)⟩) fun _ _ => trivial
theorem p70 {a b : Store} {Q : Bool → Prop} (h : f70_wp (a, b, ()) () Q) : V70 a b Q := by
  have h : Q (decide (a = b)) := h
  show cnd (!(decide (a.1 = b.1))) (Q false) (cnd (a.2.1 != b.2.1) (Q false) _)
  refine cnd_iff.2 ⟨fun h1 => ?_, fun h1 => cnd_iff.2 ⟨fun h2 => ?_, fun h2 => ?_⟩⟩
  · have h1 : a.1 ≠ b.1 := by simpa using h1
    rw [decide_eq_false (fun e => h1 (by rw [e]))] at h; exact h
  · have h2 := ne_of_bne h2
    rw [decide_eq_false (fun e => h2 (by rw [e]))] at h; exact h
  have e1 : a.1 = b.1 := by simpa using h1
  have e2 : a.2.1 = b.2.1 := eq_of_bne h2
  have e : decide (a = b) = decide (a.2.2 = b.2.2) := by
    rw [Bool.eq_iff_iff, decide_eq_true_eq, decide_eq_true_eq]
    exact ⟨fun h => by rw [h], fun h => Prod.ext e1 (Prod.ext e2 h)⟩
  rw [e] at h
  exact same_loop ((0, 0) : Lot) h (T := fun x P1 P2 => cnd (!((a.2.2.getD x.toNat (0, 0)).1 == (b.2.2.getD x.toNat (0, 0)).1 && ((a.2.2.getD x.toNat (0, 0)).2 == (b.2.2.getD x.toNat (0, 0)).2 && true))) P1 P2)
    (fun k P1 P2 _ _ g1 g2 => by
      show cnd (!((a.2.2.getD k (0, 0)).1 == (b.2.2.getD k (0, 0)).1 && ((a.2.2.getD k (0, 0)).2 == (b.2.2.getD k (0, 0)).2 && true))) P1 P2
      rw [lot_eq]
      exact cnd_iff.2 ⟨fun e => g1 (by simpa using e), fun e => g2 (by simpa using e)⟩) fun _ _ => trivial
theorem p23 {a b : Store} {f g : List Spring} {Q : Bool → Prop} (h : f23_wp (a, b, f, g, ()) () Q) : V23 a b f g Q := by
  have h : Q (decide (a = b ∧ f = g)) := h
  show cnd (decide (a = b)) (Q (decide (f = g))) (Q false)
  refine cnd_iff.2 ⟨fun h1 => ?_, fun h1 => ?_⟩
  · have h1 : a = b := of_decide_eq_true h1
    have e : decide (a = b ∧ f = g) = decide (f = g) := by simp [h1]
    rwa [e] at h
  · have h1 : ¬ a = b := of_decide_eq_false h1
    rw [decide_eq_false (fun e => h1 e.1)] at h; exact h
theorem p22 {s : Store} {f : List Spring} {Q : Int → Prop} (h : f22_wp (s, f, ()) () Q) : V22 s f Q := by
  have h : Q (checkF s f) := h
  unfold checkF at h
  intro _
  refine cnd_iff.2 ⟨fun h1 => ?_, fun h1 _ => cnd_iff.2 ⟨fun h2 => ?_, fun h2 => ?_⟩⟩
  · have h1 : (s.1.length : Int) > 6 := of_decide_eq_true h1
    rw [if_pos (.inl (by omega))] at h; exact h
  · have h2 : (s.2.2.length : Int) > 5 := of_decide_eq_true h2
    rw [if_pos (.inr (by omega))] at h; exact h
  have h1 : ¬ (s.1.length : Int) > 6 := of_decide_eq_false h1
  have h2 : ¬ (s.2.2.length : Int) > 5 := of_decide_eq_false h2
  rw [if_neg (by omega)] at h
  have mem : ∀ {α : Type} {l : List α} {p : α → Bool} (d : α) {k : Nat}, k < l.length → p (l.getD k d) = false → l.all p = false := fun {α l p} d {k} hk hp => by
    rw [List.all_eq_false]; exact ⟨_, getD_mem hk, by rw [hp]; simp⟩
  have allT : ∀ {α : Type} {l : List α} {p : α → Bool} (d : α), (∀ j, j < l.length → p (l.getD j d) = true) → l.all p = true := fun {α l p} d hp => by
    rw [List.all_eq_true]
    intro x hx
    obtain ⟨j, hj, rfl⟩ := List.mem_iff_getElem.1 hx
    have := hp j hj
    rwa [getD_lt hj] at this
  have go : ∀ {p : Nat → Prop} {k : Nat}, (∀ j, j < k → p j) → p k → ∀ j, j < k + 1 → p j := fun {p k} hg hk j hj => by
    rcases Nat.lt_succ_iff_lt_or_eq.1 hj with h3 | rfl
    · exact hg j h3
    · exact hk
  refine forUpGL (fun k => ∀ j, j < k → inB 1 200 (s.1.getD j 0) = true) (fun j hj => absurd hj (Nat.not_lt_zero _)) (fun k hk hg _ I μ hI hw => ?_) (fun hg => ?_)
  · refine ⟨by omega, by omega, ?_⟩
    show cnd (!(inB 1 200 (s.1.getD k 0))) (Q 2) _
    refine cnd_iff.2 ⟨fun h3 => ?_, fun h3 => ?_⟩
    · rw [if_pos (.inl (mem 0 hk (by simpa using h3)))] at h; exact h
    · rw [hw]; exact hI (go hg (by simpa using h3))
  have l1 : s.1.all (inB 1 200) = true := allT 0 hg
  refine forUpGL (fun k => ∀ j, j < k → isLotF (s.2.2.getD j (0, 0)) = true) (fun j hj => absurd hj (Nat.not_lt_zero _)) (fun k hk hg _ I μ hI hw => ?_) (fun hg => ?_)
  · refine ⟨by omega, by omega, ?_⟩
    show cnd (!(inB 1 200 (s.2.2.getD k (0, 0)).1)) (Q 2) (_ ∧ _ ∧ cnd (!(inB 0 200 (s.2.2.getD k (0, 0)).2)) (Q 2) _)
    refine cnd_iff.2 ⟨fun h3 => ?_, fun h3 => ⟨by omega, by omega, cnd_iff.2 ⟨fun h4 => ?_, fun h4 => ?_⟩⟩⟩
    · have h3 : inB 1 200 (s.2.2.getD k (0, 0)).1 = false := by simpa using h3
      rw [if_pos (.inr (.inr (mem (0, 0) hk (by unfold isLotF; rw [h3]; rfl))))] at h; exact h
    · have h3 : inB 1 200 (s.2.2.getD k (0, 0)).1 = true := by simpa using h3
      have h4 : inB 0 200 (s.2.2.getD k (0, 0)).2 = false := by simpa using h4
      rw [if_pos (.inr (.inr (mem (0, 0) hk (by unfold isLotF; rw [h3, h4]; rfl))))] at h; exact h
    · have h3 : inB 1 200 (s.2.2.getD k (0, 0)).1 = true := by simpa using h3
      have h4 : inB 0 200 (s.2.2.getD k (0, 0)).2 = true := by simpa using h4
      rw [hw]; exact hI (go hg (by unfold isLotF; rw [h3, h4]; rfl))
  have l2 : s.2.2.all isLotF = true := allT (0, 0) hg
  show cnd (!(inB 0 10 s.2.1)) (Q 2) _
  refine cnd_iff.2 ⟨fun h3 => ?_, fun h3 _ => ?_⟩
  · rw [if_pos (.inr (.inl (by simpa using h3)))] at h; exact h
  have h3 : inB 0 10 s.2.1 = true := by simpa using h3
  rw [if_neg (by rw [l1, l2, h3]; simp)] at h
  show cnd (!(inB 1 4 (f.length : Int))) (Q 4) _
  refine cnd_iff.2 ⟨fun h4 => ?_, fun h4 => ?_⟩
  · rw [if_pos (by simpa using h4)] at h; exact h
  have h4 : inB 1 4 (f.length : Int) = true := by simpa using h4
  rw [if_neg (by rw [h4]; simp)] at h
  refine forUpGL (fun k => ∀ j, j < k → isSprF (f.getD j ((0, 0), 0, 0)) = true) (fun j hj => absurd hj (Nat.not_lt_zero _)) (fun k hk hg _ I μ hI hw => ?_) (fun hg => ?_)
  · have bad : isSprF (f.getD k ((0, 0), 0, 0)) = false → Q 3 := fun hb => by
      rw [if_pos (mem ((0, 0), 0, 0) hk hb)] at h; exact h
    have eS : isSprF (f.getD k ((0, 0), 0, 0)) = (inB 2 (f.getD k ((0, 0), 0, 0)).1.2 (f.getD k ((0, 0), 0, 0)).1.1 && !(decide ((f.getD k ((0, 0), 0, 0)).1.2 > 40)) && inB 0 4 (f.getD k ((0, 0), 0, 0)).2.1 && inB 1 200 (f.getD k ((0, 0), 0, 0)).2.2) := by
      unfold isSprF
      have : (inB 2 40 (f.getD k ((0, 0), 0, 0)).1.1 && inB 2 40 (f.getD k ((0, 0), 0, 0)).1.2 && decide ((f.getD k ((0, 0), 0, 0)).1.1 ≤ (f.getD k ((0, 0), 0, 0)).1.2)) = (inB 2 (f.getD k ((0, 0), 0, 0)).1.2 (f.getD k ((0, 0), 0, 0)).1.1 && !(decide ((f.getD k ((0, 0), 0, 0)).1.2 > 40))) := by
        generalize (f.getD k ((0, 0), 0, 0)).1.1 = a
        generalize (f.getD k ((0, 0), 0, 0)).1.2 = b
        rw [Bool.eq_iff_iff]
        simp only [inB, Bool.and_eq_true, decide_eq_true_eq, Bool.not_eq_true', decide_eq_false_iff_not]
        omega
      rw [this]
    rw [eS] at bad
    have gk : (inB 2 (f.getD k ((0, 0), 0, 0)).1.2 (f.getD k ((0, 0), 0, 0)).1.1 && !(decide ((f.getD k ((0, 0), 0, 0)).1.2 > 40)) && inB 0 4 (f.getD k ((0, 0), 0, 0)).2.1 && inB 1 200 (f.getD k ((0, 0), 0, 0)).2.2) = true → I (k + 1 : Int) ∧ μ (k + 1 : Int) < μ k := fun hh => hI (go hg (by rw [eS]; exact hh))
    refine ⟨by omega, by omega, by omega, by omega, _, rfl, ?_⟩
    show cnd (!(inB 2 (f.getD k ((0, 0), 0, 0)).1.2 (f.getD k ((0, 0), 0, 0)).1.1)) (Q 3) (_ ∧ _ ∧ cnd (decide ((f.getD k ((0, 0), 0, 0)).1.2 > 40)) (Q 3) (_ ∧ _ ∧ ∃ r, (inB 0 4 (f.getD k ((0, 0), 0, 0)).2.1 = r) ∧ cnd (!r) (Q 3) (_ ∧ _ ∧ ∃ r, (inB 1 200 (f.getD k ((0, 0), 0, 0)).2.2 = r) ∧ cnd (!r) (Q 3) _)))
    rw [hw]
    revert bad gk
    generalize inB 2 (f.getD k ((0, 0), 0, 0)).1.2 (f.getD k ((0, 0), 0, 0)).1.1 = a
    generalize decide ((f.getD k ((0, 0), 0, 0)).1.2 > 40) = b
    intro bad gk
    cases a with
    | false => exact bad rfl
    | true =>
      refine ⟨by omega, by omega, ?_⟩
      cases b with
      | true => exact bad rfl
      | false =>
        refine ⟨by omega, by omega, _, rfl, ?_⟩
        revert bad gk
        generalize inB 0 4 (f.getD k ((0, 0), 0, 0)).2.1 = c
        intro bad gk
        cases c with
        | false => exact bad rfl
        | true =>
          refine ⟨by omega, by omega, _, rfl, ?_⟩
          revert bad gk
          generalize inB 1 200 (f.getD k ((0, 0), 0, 0)).2.2 = d
          intro bad gk
          cases d with
          | false => exact bad rfl
          | true => exact gk rfl
  · rw [if_neg (by rw [allT ((0, 0), 0, 0) hg]; simp)] at h; exact h
theorem F5.fok {f : FansT} (h : F5 f) : FOK f := all4_mono (fun x g => ⟨g.1, by omega⟩) h
theorem p76 {b : BinT} {f : FansT} {Q : Int → Prop} (h : f76_wp (b, f, ()) () Q) : V76 b f Q := by
  obtain ⟨⟨hb, hf5⟩, h⟩ := h
  have hb : BOK b := hb
  have hf5 : F5 f := hf5
  have hf := hf5.fok
  have h : Q (costF b f) := h
  obtain ⟨⟨a1, a2⟩, ⟨b1, b2⟩, ⟨c1, c2⟩, ⟨d1, d2⟩⟩ := hf5
  have hd := dot_bnd hf hb.l
  have hh := hb.f
  let S : Nat → Int := fun k => match k with | 0 => 0 | 1 => f.1 | 2 => f.1 + f.2.1 | 3 => f.1 + f.2.1 + f.2.2.1 | _ => sumF f
  have hS : ∀ k, k < 4 → IntKind.wrap .i64 (S k + at4L f k) = S (k + 1) := fun k hk => by
    match k, hk with
    | 0, _ => show IntKind.wrap .i64 (0 + f.1) = f.1; rw [wrapS (by omega) (by omega)]; omega
    | 1, _ => exact wrapS (x := f.1 + f.2.1) (by omega) (by omega)
    | 2, _ => exact wrapS (x := f.1 + f.2.1 + f.2.2.1) (by omega) (by omega)
    | 3, _ => exact wrapS (x := f.1 + f.2.1 + f.2.2.1 + f.2.2.2) (by omega) (by omega)
  refine ⟨fun x a l n => ∃ k : Nat, k ≤ 4 ∧ x = k ∧ a = dotS f b.1 k ∧ l = dotS f b.2.1 k ∧ n = S k, fun x _ _ _ => (4 - x).toNat, ⟨0, by omega, rfl, rfl, rfl, rfl⟩, ?_⟩
  rintro x a l n ⟨k, hk, rfl, rfl, rfl, rfl⟩
  refine cnd_iff.2 ⟨fun h1 => ?_, fun h1 => ?_⟩
  · have h1 : (k : Int) < 4 := of_decide_eq_true h1
    have hk : k < 4 := by omega
    have hw : IntKind.wrap .i64 ((k : Int) + 1) = k + 1 := wrapS (by omega) (by omega)
    refine ⟨by omega, by omega, by omega, by omega, by omega, by omega, by omega, by omega, by omega, by omega, ?_⟩
    show (∃ k' : Nat, k' ≤ 4 ∧ IntKind.wrap .i64 ((k : Int) + 1) = k' ∧ IntKind.wrap .i64 (dotS f b.1 k + IntKind.wrap .i64 (at4L f k * at4L b.1 k)) = _ ∧ IntKind.wrap .i64 (dotS f b.2.1 k + IntKind.wrap .i64 (at4L f k * at4L b.2.1 k)) = _ ∧ IntKind.wrap .i64 (S k + at4L f k) = _) ∧ (4 - IntKind.wrap .i64 ((k : Int) + 1)).toNat < (4 - (k : Int)).toNat
    rw [hw, dotS_step hf hb.t hk, dotS_step hf hb.l hk, hS k hk]
    exact ⟨⟨k + 1, by omega, by push_cast; rfl, rfl, rfl, rfl⟩, by omega⟩
  · have h1 : ¬ (k : Int) < 4 := of_decide_eq_false h1
    have : k = 4 := by omega
    subst this
    unfold costF at h
    rw [dotS_four, dotS_four]
    refine cnd_iff.2 ⟨fun h2 => ?_, fun h2 => ?_⟩
    · have h2 : GX.Fa.dot f b.1 > b.2.2.1 := of_decide_eq_true h2
      have e : GX.Fa.fitsB b f = false := decide_eq_false (show ¬ GX.Fa.dot f b.1 ≤ b.2.2.1 by omega)
      rw [e] at h; exact h
    · have h2 : ¬ GX.Fa.dot f b.1 > b.2.2.1 := of_decide_eq_false h2
      have e : GX.Fa.fitsB b f = true := decide_eq_true (show GX.Fa.dot f b.1 ≤ b.2.2.1 by omega)
      rw [e, if_pos rfl] at h
      unfold GX.Fa.lossV at h
      show cnd (decide (sumF f > 0)) _ _
      have eN : GX.Fa.isNo f = decide (¬ sumF f > 0) := by
        rw [Bool.eq_iff_iff]
        simp only [GX.Fa.isNo, Bool.and_eq_true, beq_iff_eq, decide_eq_true_eq]
        have es : sumF f = f.1 + f.2.1 + f.2.2.1 + f.2.2.2 := rfl
        constructor
        · rintro ⟨g1, g2, g3, g4⟩; omega
        · intro g; exact ⟨by omega, by omega, by omega, by omega⟩
      refine cnd_iff.2 ⟨fun h3 => ?_, fun h3 => ?_⟩
      · have h3 : sumF f > 0 := of_decide_eq_true h3
        rw [eN, decide_eq_false (by omega)] at h
        rw [wrapS (by have := hd.1; have := hh.1; omega) (by have := hd.2; have := hh.2; omega)]
        exact h
      · have h3 : ¬ sumF f > 0 := of_decide_eq_false h3
        rw [eN, decide_eq_true (by omega)] at h
        simpa using h
end Go.Proofs.Fa
set_option linter.unusedVariables false
set_option maxRecDepth 20000
namespace Go.Proofs.Fa
open Go Go.GX Go.Proofs

theorem atF_bnd {n : Int} (h0 : 0 ≤ n) (h1 : n < 625) : F5 (atF n) := by
  unfold atF
  refine ⟨⟨?_, ?_⟩, ⟨?_, ?_⟩, ⟨?_, ?_⟩, ⟨?_, ?_⟩⟩ <;> simp only <;> omega
theorem idx_bnd {f : FansT} (h : F5 f) : 0 ≤ idx5 f ∧ idx5 f < 625 := by
  obtain ⟨⟨a1, a2⟩, ⟨b1, b2⟩, ⟨c1, c2⟩, ⟨d1, d2⟩⟩ := h
  unfold idx5; omega
theorem at_idx {f : FansT} (h : F5 f) : atF (idx5 f) = f := by
  obtain ⟨⟨a1, a2⟩, ⟨b1, b2⟩, ⟨c1, c2⟩, ⟨d1, d2⟩⟩ := h
  obtain ⟨a, b, c, d⟩ := f
  simp only at a1 a2 b1 b2 c1 c2 d1 d2
  unfold atF idx5
  simp only [Prod.mk.injEq]
  omega
theorem idx_at {n : Int} (h0 : 0 ≤ n) (h1 : n < 625) : idx5 (atF n) = n := by unfold atF idx5; simp only; omega
theorem less_F5 {f s : FansT} (hf : F5 f) (hs : F5 s) (hg : ge0 (GX.Fa.less f s) = true) : F5 (GX.Fa.less f s) := by
  obtain ⟨⟨a1, a2⟩, ⟨b1, b2⟩, ⟨c1, c2⟩, ⟨d1, d2⟩⟩ := hf
  obtain ⟨⟨e1, e2⟩, ⟨f1, f2⟩, ⟨g1, g2⟩, ⟨h1, h2⟩⟩ := hs
  simp only [ge0, Bool.and_eq_true, decide_eq_true_eq] at hg
  obtain ⟨⟨⟨k1, k2⟩, k3⟩, k4⟩ := hg
  have l1 : (GX.Fa.less f s).1 = f.1 - s.1 := rfl
  have l2 : (GX.Fa.less f s).2.1 = f.2.1 - s.2.1 := rfl
  have l3 : (GX.Fa.less f s).2.2.1 = f.2.2.1 - s.2.2.1 := rfl
  have l4 : (GX.Fa.less f s).2.2.2 = f.2.2.2 - s.2.2.2 := rfl
  exact ⟨⟨k1, by omega⟩, ⟨k2, by omega⟩, ⟨k3, by omega⟩, ⟨k4, by omega⟩⟩
theorem lst_congr {b : BinT} {rest rest' : FansT → Int} {f s : FansT} (hr : ∀ g, F5 g → rest g = rest' g) (hf : F5 f) (hs : F5 s) (best : Int) : lstStep b rest f best s = lstStep b rest' f best s := by
  unfold lstStep
  cases hg : ge0 (GX.Fa.less f s) with
  | false => rfl
  | true => rw [hr _ (less_F5 hf hs hg)]
theorem foldl_congr' {α β : Type} {g g' : β → α → β} {l : List α} (h : ∀ b a, a ∈ l → g b a = g' b a) (b : β) : l.foldl g b = l.foldl g' b := by
  induction l generalizing b with
  | nil => rfl
  | cons a l ih =>
    rw [List.foldl_cons, List.foldl_cons, h b a (by simp), ih fun b a ha => h b a (by simp [ha])]
theorem lstR_congr {b : BinT} {rest rest' : FansT → Int} {f : FansT} (hr : ∀ g, F5 g → rest g = rest' g) (hf : F5 f) : lstR b rest f = lstR b rest' f := by
  refine foldl_congr' (fun best n hn => lst_congr hr hf ?_ best) _
  have := idx_bnd hf
  have hn := List.mem_range.1 hn
  exact atF_bnd (by omega) (by omega)
theorem costF_bnd {b : BinT} {s : FansT} (hb : BOK b) (hs : F5 s) : -5000000000 ≤ costF b s ∧ costF b s ≤ 5000000000 := by
  have := loss_bnd hb hs.fok
  unfold costF
  split
  · exact ⟨this.1, this.2⟩
  · omega
theorem lstStep_bnd {b : BinT} {rest : FansT → Int} {f s : FansT} {B best : Int} (hb : BOK b) (hf : F5 f) (hs : F5 s) (hr : ∀ g, F5 g → rest g ≤ B) (h0 : -1 ≤ best) (h1 : best ≤ B + 5000000000) : -1 ≤ lstStep b rest f best s ∧ lstStep b rest f best s ≤ B + 5000000000 := by
  unfold lstStep
  split
  · exact ⟨h0, h1⟩
  · rename_i hn
    simp only [Bool.or_eq_true, Bool.not_eq_true', decide_eq_true_eq, not_or] at hn
    have hg : ge0 (GX.Fa.less f s) = true := by
      cases hh : ge0 (GX.Fa.less f s) with
      | true => rfl
      | false => exact absurd hh hn.1
    have h2 := hr _ (less_F5 hf hs hg)
    have h3 := costF_bnd hb hs
    split
    · rename_i hc
      simp only [Bool.and_eq_true, decide_eq_true_eq] at hc
      have := hn.2
      omega
    · exact ⟨h0, h1⟩
theorem lstR_bnd {b : BinT} {rest : FansT → Int} {f : FansT} {B : Int} (hb : BOK b) (hf : F5 f) (hr : ∀ g, F5 g → rest g ≤ B) (hB : -1 ≤ B) : ∀ k : Nat, k ≤ 625 → -1 ≤ (List.range k).foldl (fun best (n : Nat) => lstStep b rest f best (atF n)) (-1) ∧ (List.range k).foldl (fun best (n : Nat) => lstStep b rest f best (atF n)) (-1) ≤ B + 5000000000
  | 0, _ => ⟨Int.le_refl _, by simp; omega⟩
  | k + 1, hk => by
    rw [foldl_succ]
    obtain ⟨h1, h2⟩ := lstR_bnd hb hf hr hB k (by omega)
    exact lstStep_bnd hb hf (atF_bnd (by omega) (by omega)) hr h1 h2
theorem Bins0.cons {b : BinT} {r : List BinT} (h : Bins0 (b :: r)) : BOK b ∧ (∀ s, F5 s → GX.Fa.fitsB b s = true → 0 ≤ GX.Fa.lossV b s) ∧ Bins0 r :=
  ⟨(h.b.cons).1, h.n b (by simp), (h.b.cons).2, fun c hc => h.n c (by simp [hc]), by have := h.k; simp at this; omega⟩
theorem Bins0.drop {bs : List BinT} (h : Bins0 bs) (k : Nat) : Bins0 (bs.drop k) :=
  ⟨h.b.drop k, fun b hb => h.n b (List.mem_of_mem_drop hb), by have := h.k; rw [List.length_drop]; omega⟩
theorem tval_bnd : ∀ {bs : List BinT}, Bins0 bs → ∀ f, F5 f → -1 ≤ tval bs f ∧ tval bs f ≤ (bs.length : Int) * 5000000000
  | [], _, f, _ => by
    unfold tval
    split <;> simp
  | b :: r, h, f, hf => by
    obtain ⟨h1, _, h3⟩ := h.cons
    unfold tval lstR
    have := idx_bnd hf
    obtain ⟨g1, g2⟩ := lstR_bnd (B := (r.length : Int) * 5000000000) h1 hf (fun g hg => (tval_bnd h3 g hg).2) (by omega) ((idx5 f).toNat + 1) (by omega)
    refine ⟨g1, ?_⟩
    have e : (((b :: r).length : Nat) : Int) = (r.length : Int) + 1 := by simp
    rw [e]; omega

def okS (f s : FansT) : Nat → Bool
  | 0 => true
  | j + 1 => okS f s j && decide (0 ≤ at4 f j - at4 s j)
theorem okS_four (f s : FansT) : okS f s 4 = ge0 (GX.Fa.less f s) := rfl
theorem forUpLe {σ : Type} {N : Int} {n : Nat} (hN : N = (n : Int)) (hn : n ≤ 1000) (F : Nat → σ) {s0 : σ} (h0 : s0 = F 0) {body : (Int → σ → Prop) → (Int → σ → Nat) → Int → σ → Prop} {T : Int → σ → Prop → Prop → Prop}
    (hT : ∀ x s p q, cnd (decide (x ≤ N)) p q → T x s p q)
    (hb : ∀ k : Nat, k ≤ n → ∀ (I : Int → σ → Prop) (μ : Int → σ → Nat), (I (k + 1 : Int) (F (k + 1)) ∧ μ (k + 1 : Int) (F (k + 1)) < μ k (F k)) → IntKind.wrap .i64 ((k : Int) + 1) = k + 1 → body I μ k (F k))
    {e : Int → σ → Prop} (he : e ((n : Int) + 1) (F (n + 1))) :
    ∃ (I : Int → σ → Prop) (μ : Int → σ → Nat), I 0 s0 ∧ ∀ x s, I x s → T x s (body I μ x s) (e x s) := by
  refine ⟨fun x s => ∃ k : Nat, k ≤ n + 1 ∧ x = k ∧ s = F k, fun x _ => (n + 1 - x).toNat, ⟨0, Nat.zero_le _, rfl, h0⟩, ?_⟩
  rintro x s ⟨k, hk, rfl, rfl⟩
  refine hT _ _ _ _ (cnd_iff.2 ⟨fun h => ?_, fun h => ?_⟩)
  · have h : (k : Int) ≤ N := of_decide_eq_true h
    refine hb k (by omega) _ _ ⟨⟨k + 1, by omega, by push_cast; rfl, rfl⟩, by omega⟩ (wrapS (by omega) (by omega))
  · have h : ¬ (k : Int) ≤ N := of_decide_eq_false h
    have : k = n + 1 := by omega
    subst this
    simpa using he
theorem p96 {b : BinT} {rest : List Int} {f : FansT} {Q : Int → Prop} (h : f96_wp (b, rest, f, ()) () Q) : V96 b rest f Q := by
  obtain ⟨⟨hb, hr, hf⟩, h⟩ := h
  have hb : BOK b := hb
  have hr : bigR rest := hr
  have hf : F5 f := hf
  have hrl : rest.length = 625 := hr.1
  obtain ⟨R, hR⟩ : ∃ R : FansT → Int, R = fun g => rest.getD (idx5 g).toNat 0 := ⟨_, rfl⟩
  have h : Q (lstR b R f) := by rw [hR]; exact h
  have hRb : ∀ g, F5 g → -1 ≤ R g ∧ R g ≤ 1000000000000000 := fun g hg => by
    have := idx_bnd hg
    rw [hR]
    exact hr.2 _ (getD_mem (by omega))
  have hi := idx_bnd hf
  obtain ⟨N, hN⟩ := Int.eq_ofNat_of_zero_le hi.1
  have hNN : (idx5 f).toNat = N := by omega
  unfold lstR at h
  rw [hNN] at h
  refine forUpLe (σ := Int) (N := idx5 f) (n := N) hN (by omega) (fun k => (List.range k).foldl (fun best (n : Nat) => lstStep b R f best (atF n)) (-1)) rfl (T := fun x s p q => f73_wp (f.1, f.2.1, f.2.2.1, f.2.2.2) () fun r => cnd (decide (x ≤ r)) p q) (fun x s p q hc => ⟨hf, hc⟩) (fun k hk I μ hI hw => ?_) h
  obtain ⟨best, hbest⟩ : ∃ best, best = (List.range k).foldl (fun best (n : Nat) => lstStep b R f best (atF n)) (-1) := ⟨_, rfl⟩
  have hbb := lstR_bnd (B := 1000000000000000) hb hf (fun g hg => (hRb g hg).2) (by omega) k (by omega)
  rw [← hbest] at hbb
  simp only [foldl_succ, ← hbest] at hI
  rw [← hbest, hw]
  obtain ⟨s, hs⟩ : ∃ s, s = atF (k : Int) := ⟨_, rfl⟩
  rw [← hs] at hI
  have hs5 : F5 s := by rw [hs]; exact atF_bnd (by omega) (by omega)
  refine ⟨⟨by omega, by omega⟩, ?_⟩
  rw [← hs]
  refine forUp2 (σ := FansT) (τ := Bool) (n := 4) (by omega) (fun j => tup4 fun i => if i < j then at4 f i - at4 s i else 0) (okS f s) rfl rfl (fun j hj I1 μ1 hI1 hw1 => ?_) ?_
  · have e1 : IntKind.wrap .i64 (at4L f j - at4L s j) = at4 f j - at4 s j := by
      rw [at4_L _ hj, at4_L _ hj]
      have g1 : 0 ≤ at4 f j ∧ at4 f j ≤ 4 := all4_at hf hj
      have g2 : 0 ≤ at4 s j ∧ at4 s j ≤ 4 := all4_at hs5 hj
      exact wrapS (by omega) (by omega)
    have e2 := set4_tup (fun i => at4 f i - at4 s i) hj
    have e3 : at4L (tup4 fun i => if i < j + 1 then at4 f i - at4 s i else 0) j = at4 f j - at4 s j := by
      rw [at4_L _ hj, at4_tup _ hj]; simp
    refine ⟨by omega, by omega, by omega, by omega, by omega, by omega, ?_⟩
    rw [hw1]
    show cnd (okS f s j) (0 ≤ (j : Int) ∧ (j : Int) < 4 ∧ I1 _ (set4 _ j (IntKind.wrap .i64 (at4L f j - at4L s j))) (decide (at4L (set4 _ j (IntKind.wrap .i64 (at4L f j - at4L s j))) j ≥ 0)) ∧ μ1 _ (set4 _ j (IntKind.wrap .i64 (at4L f j - at4L s j))) (decide (at4L (set4 _ j (IntKind.wrap .i64 (at4L f j - at4L s j))) j ≥ 0)) < _)
      (I1 _ (set4 _ j (IntKind.wrap .i64 (at4L f j - at4L s j))) false ∧ μ1 _ (set4 _ j (IntKind.wrap .i64 (at4L f j - at4L s j))) false < _)
    rw [e1]
    rw [e2, e3]
    simp only [okS] at hI1
    refine cnd_iff.2 ⟨fun h1 => ⟨by omega, by omega, ?_⟩, fun h1 => ?_⟩
    · rw [h1, Bool.true_and] at hI1
      rw [h1]
      exact hI1
    · rw [h1, Bool.false_and] at hI1
      rw [h1]
      exact hI1
  · show cnd (!(okS f s 4)) (I _ best ∧ μ _ best < μ _ best) _
    rw [okS_four]
    have stop : lstStep b R f best s = best → I (k + 1 : Int) best ∧ μ (k + 1 : Int) best < μ k best := fun e => by rw [e] at hI; exact hI
    refine cnd_iff.2 ⟨fun h1 => stop ?_, fun h1 => ?_⟩
    · unfold lstStep; rw [h1]; rfl
    have hg : ge0 (GX.Fa.less f s) = true := by simpa using h1
    have hl5 := less_F5 hf hs5 hg
    have hli := idx_bnd hl5
    have hRl := hRb _ hl5
    have hRe : R (GX.Fa.less f s) = rest.getD (idx5 (GX.Fa.less f s)).toNat 0 := by rw [hR]
    refine ⟨hl5, hli.1, by show idx5 (GX.Fa.less f s) < (rest.length : Int); omega, ?_⟩
    show cnd (decide (rest.getD (idx5 (GX.Fa.less f s)).toNat 0 < 0)) _ _
    rw [← hRe]
    refine cnd_iff.2 ⟨fun h2 => stop ?_, fun h2 => ⟨⟨hb, hs5⟩, ?_⟩⟩
    · unfold lstStep; rw [hg, h2]; rfl
    show cnd (decide (costF b s ≥ 0)) (cnd (decide (best < 0)) (F5 (GX.Fa.less f s) ∧ 0 ≤ idx5 (GX.Fa.less f s) ∧ idx5 (GX.Fa.less f s) < (rest.length : Int) ∧ I _ (IntKind.wrap .i64 (costF b s + rest.getD (idx5 (GX.Fa.less f s)).toNat 0)) ∧ μ _ (IntKind.wrap .i64 (costF b s + rest.getD (idx5 (GX.Fa.less f s)).toNat 0)) < _)
      (F5 (GX.Fa.less f s) ∧ 0 ≤ idx5 (GX.Fa.less f s) ∧ idx5 (GX.Fa.less f s) < (rest.length : Int) ∧ cnd (decide (IntKind.wrap .i64 (costF b s + rest.getD (idx5 (GX.Fa.less f s)).toNat 0) < best)) (F5 (GX.Fa.less f s) ∧ 0 ≤ idx5 (GX.Fa.less f s) ∧ idx5 (GX.Fa.less f s) < (rest.length : Int) ∧ I _ (IntKind.wrap .i64 (costF b s + rest.getD (idx5 (GX.Fa.less f s)).toNat 0)) ∧ μ _ (IntKind.wrap .i64 (costF b s + rest.getD (idx5 (GX.Fa.less f s)).toNat 0)) < _) _)) _
    have hcb := costF_bnd hb hs5
    rw [← hRe, wrapS (x := costF b s + R (GX.Fa.less f s)) (by omega) (by omega)]
    have e0 : lstStep b R f best s = if decide (0 ≤ costF b s) && (decide (best < 0) || decide (costF b s + R (GX.Fa.less f s) < best)) then costF b s + R (GX.Fa.less f s) else best := by
      unfold lstStep; rw [hg, h2]; rfl
    have upd : lstStep b R f best s = costF b s + R (GX.Fa.less f s) → I (k + 1 : Int) (costF b s + R (GX.Fa.less f s)) ∧ μ (k + 1 : Int) (costF b s + R (GX.Fa.less f s)) < μ k best := fun e => by rw [e] at hI; exact hI
    have bd : idx5 (GX.Fa.less f s) < (rest.length : Int) := by omega
    refine cnd_iff.2 ⟨fun h3 => cnd_iff.2 ⟨fun h4 => ⟨hl5, hli.1, bd, upd ?_⟩, fun h4 => ⟨hl5, hli.1, bd, cnd_iff.2 ⟨fun h5 => ⟨hl5, hli.1, bd, upd ?_⟩, fun h5 => stop ?_⟩⟩⟩, fun h3 => stop ?_⟩
    · have h3 : decide (0 ≤ costF b s) = true := h3
      rw [e0, h3, h4]; rfl
    · have h3 : decide (0 ≤ costF b s) = true := h3
      rw [e0, h3, h4, h5]; rfl
    · have h3 : decide (0 ≤ costF b s) = true := h3
      rw [e0, h3, h4, h5]; rfl
    · have h3 : decide (0 ≤ costF b s) = false := h3
      rw [e0, h3]; rfl
theorem getD_set {l : List Int} {k n : Nat} {v : Int} (hk : k < l.length) : (l.set k v).getD n 0 = if n = k then v else l.getD n 0 := by
  rw [List.getD_eq_getElem?_getD, List.getElem?_set, List.getD_eq_getElem?_getD]
  by_cases h : k = n
  · subst h; simp [hk]
  · simp [h, Ne.symm h]
theorem tabF_length (bs : List BinT) : (tabF bs).length = 625 := by simp [tabF]
theorem tabF_get {bs : List BinT} {n : Nat} (h : n < 625) : (tabF bs).getD n 0 = tval bs (atF n) := by
  unfold tabF
  rw [List.getD_eq_getElem?_getD, List.getElem?_map, List.getElem?_range h]; rfl
theorem tabF_idx {bs : List BinT} {g : FansT} (hg : F5 g) : (tabF bs).getD (idx5 g).toNat 0 = tval bs g := by
  have h := idx_bnd hg
  rw [tabF_get (by omega), show (((idx5 g).toNat : Nat) : Int) = idx5 g by omega, at_idx hg]
theorem tab_big {bs : List BinT} (h : Bins0 bs) : bigR (tabF bs) := by
  refine ⟨tabF_length bs, fun x hx => ?_⟩
  obtain ⟨j, hj, rfl⟩ := List.mem_iff_getElem.1 hx
  rw [tabF_length] at hj
  rw [← getD_lt (d := 0) (by rw [tabF_length]; exact hj), tabF_get hj]
  have := tval_bnd h (atF j) (atF_bnd (by omega) (by omega))
  have := h.k
  omega
theorem p72 {bs : List BinT} {i : Int} {Q : List Int → Prop} (h : f72_wp (bs, i, ()) () Q) : V72 bs i Q := by
  obtain ⟨⟨hb, h0, h1⟩, h⟩ := h
  have hb : Bins0 bs := hb
  have h0 : 0 ≤ i := h0
  have h1 : i ≤ bs.length := h1
  have hk100 := hb.k
  obtain ⟨i0, rfl⟩ := Int.eq_ofNat_of_zero_le h0
  rw [Int.toNat_natCast] at h
  have h : Q (tabF (bs.drop i0)) := h
  have rep : (List.replicate (Int.toNat 625) (0 : Int)).length = 625 := by rw [List.length_replicate]; rfl
  have rget : ∀ n, (List.replicate (Int.toNat 625) (0 : Int)).getD n 0 = 0 := fun n => by
    rw [List.getD_eq_getElem?_getD, List.getElem?_replicate]; split <;> rfl
  refine ⟨rfl, by omega, by omega, fun x l => ∃ k : Nat, (1 ≤ k ∧ k ≤ 625) ∧ x = k ∧ l.length = 625 ∧ ∀ n, n < 625 → l.getD n 0 = if n = 0 then 0 else if n < k then -1 else 0, fun x _ => (625 - x).toNat, ⟨1, by omega, rfl, rep, fun n hn => ?_⟩, ?_⟩
  · rw [rget]
    split
    · rfl
    · split <;> omega
  rintro x l ⟨k, hk, rfl, hl, hget⟩
  refine cnd_iff.2 ⟨fun h2 => ?_, fun h2 hlen => ?_⟩
  · have h2 : (k : Int) < 625 := of_decide_eq_true h2
    have hw : IntKind.wrap .i64 ((k : Int) + 1) = k + 1 := wrapS (by omega) (by omega)
    refine ⟨by omega, by omega, ?_⟩
    rw [hw]
    refine ⟨⟨k + 1, by omega, by push_cast; rfl, by simp [hl], fun n hn => ?_⟩, by show (625 - ((k : Int) + 1)).toNat < (625 - (k : Int)).toNat; omega⟩
    rw [Int.toNat_natCast, getD_set (by omega)]
    split
    · rename_i e; subst e
      rw [if_neg (by omega), if_pos (by omega)]
    · rename_i e
      rw [hget n hn]
      split
      · rfl
      · by_cases h3 : n < k
        · rw [if_pos h3, if_pos (by omega)]
        · rw [if_neg h3, if_neg (by omega)]
  have h2 : ¬ (k : Int) < 625 := of_decide_eq_false h2
  have hk5 : k = 625 := by omega
  subst hk5
  have el : l = tabF [] := by
    refine list_ext' 0 (by rw [hl, tabF_length]) fun n hn => ?_
    rw [hl] at hn
    rw [hget n hn, tabF_get hn]
    unfold tval
    have e : GX.Fa.isNo (atF n) = decide (n = 0) := by
      rw [Bool.eq_iff_iff]
      simp only [GX.Fa.isNo, atF, Bool.and_eq_true, beq_iff_eq, decide_eq_true_eq]
      omega
    rw [e]
    by_cases h3 : n = 0
    · simp [h3]
    · simp [h3, hn]
  subst el
  refine ⟨fun x l => ∃ m : Nat, (i0 ≤ m ∧ m ≤ bs.length) ∧ x = (m : Int) - 1 ∧ l = tabF (bs.drop m), fun x _ => (x + 1).toNat, ⟨bs.length, by omega, wrapS (by omega) (by omega), by rw [List.drop_length]⟩, ?_⟩
  rintro x l ⟨m, hm, rfl, rfl⟩
  refine cnd_iff.2 ⟨fun h3 => ?_, fun h3 => ?_⟩
  · have h3 : (m : Int) - 1 ≥ i0 := of_decide_eq_true h3
    obtain ⟨q, rfl⟩ : ∃ q, m = q + 1 := ⟨m - 1, by omega⟩
    have hq : q < bs.length := by omega
    have ex : ((q + 1 : Nat) : Int) - 1 = q := by push_cast; omega
    obtain ⟨b, hbb⟩ : ∃ b : BinT, b = bs.getD q ((0, 0, 0, 0), (0, 0, 0, 0), 0, 0) := ⟨_, rfl⟩
    have hd : bs.drop q = b :: bs.drop (q + 1) := by rw [List.drop_eq_getElem_cons hq, hbb, getD_lt hq]
    have hB := hb.drop q
    rw [hd] at hB
    obtain ⟨hb1, _, hr1⟩ := hB.cons
    refine ⟨rfl, by omega, by omega, fun x l => ∃ k : Nat, k ≤ 625 ∧ x = k ∧ l.length = 625 ∧ ∀ n, n < k → l.getD n 0 = tval (bs.drop q) (atF n), fun x _ => (625 - x).toNat, ⟨0, by omega, rfl, rep, fun n hn => absurd hn (Nat.not_lt_zero _)⟩, ?_⟩
    rintro x l ⟨k, hk, rfl, hl, hget⟩
    refine cnd_iff.2 ⟨fun h4 => ?_, fun h4 => ?_⟩
    · have h4 : (k : Int) < 625 := of_decide_eq_true h4
      have hw : IntKind.wrap .i64 ((k : Int) + 1) = k + 1 := wrapS (by omega) (by omega)
      have h5 : F5 (atF k) := atF_bnd (by omega) (by omega)
      refine ⟨by omega, by omega, atF k, ⟨⟨by omega, h4⟩, rfl⟩, _, ⟨⟨?_, tab_big hr1, h5⟩, rfl⟩, by omega, by omega, ?_⟩
      · show BOK (bs.getD (((q + 1 : Nat) : Int) - 1).toNat _)
        rw [ex, Int.toNat_natCast, ← hbb]; exact hb1
      · rw [hw]
        refine ⟨⟨k + 1, by omega, by push_cast; rfl, by simp [hl], fun n hn => ?_⟩, by show (625 - ((k : Int) + 1)).toNat < (625 - (k : Int)).toNat; omega⟩
        rw [Int.toNat_natCast, getD_set (by omega)]
        split
        · rename_i e; subst e
          show lstR (bs.getD (((q + 1 : Nat) : Int) - 1).toNat _) _ _ = _
          rw [ex, Int.toNat_natCast, ← hbb, hd]
          show _ = lstR b (tval (bs.drop (q + 1))) (atF n)
          exact lstR_congr (fun g hg => tabF_idx hg) h5
        · exact hget n (by omega)
    · have h4 : ¬ (k : Int) < 625 := of_decide_eq_false h4
      have hk5 : k = 625 := by omega
      subst hk5
      have el : l = tabF (bs.drop q) := list_ext' 0 (by rw [hl, tabF_length]) fun n hn => by rw [hl] at hn; rw [hget n hn, tabF_get hn]
      have hw : IntKind.wrap .i64 (((q + 1 : Nat) : Int) - 1 - 1) = (q : Int) - 1 := by rw [wrapS (by omega) (by omega)]; omega
      rw [hw]
      exact ⟨⟨q, by omega, rfl, el⟩, by show ((q : Int) - 1 + 1).toNat < (((q + 1 : Nat) : Int) - 1 + 1).toNat; omega⟩
  · have h3 : ¬ (m : Int) - 1 ≥ i0 := of_decide_eq_false h3
    have : m = i0 := by omega
    subst this
    exact h
theorem p27 {f : List Spring} {Q : FansT → Prop} (h : f27_wp f () Q) : V27 f Q := by
  obtain ⟨hn, h⟩ := h
  refine forUpL (σ := FansT) (n := f.length) (fun k => tup4 fun i => if i < k then (f.getD i ((0, 0), 0, 0)).2.1 else 0) rfl (fun k hk I μ hI hw => ?_) h
  refine ⟨by omega, by omega, by omega, by omega, ?_⟩
  rw [hw]
  show I _ (set4 (tup4 fun i => if i < k then (f.getD i ((0, 0), 0, 0)).2.1 else 0) k (f.getD k ((0, 0), 0, 0)).2.1) ∧ μ _ (set4 (tup4 fun i => if i < k then (f.getD i ((0, 0), 0, 0)).2.1 else 0) k (f.getD k ((0, 0), 0, 0)).2.1) < _
  rw [set4_tup (fun i => (f.getD i ((0, 0), 0, 0)).2.1) (by omega)]
  exact hI
theorem p26 {f : List Spring} {m : Bool} {Q : FansT → Prop} (h : f26_wp (f, m, ()) () Q) : V26 f m Q := by
  obtain ⟨hn, h⟩ := h
  have hn : f.length ≤ 4 := hn
  have h : Q (if m then cH f else cL f) := h
  obtain ⟨g, hg⟩ : ∃ g : Nat → Int, g = fun i => if m then (f.getD i ((0, 0), 0, 0)).1.2 else (f.getD i ((0, 0), 0, 0)).1.1 := ⟨_, rfl⟩
  refine forUpL (σ := FansT) (n := f.length) (fun k => tup4 fun i => if i < k then g i else 0) rfl (fun k hk I μ hI hw => ?_) ?_
  · have e := set4_tup g (k := k) (by omega)
    refine ⟨by omega, by omega, by omega, by omega, ?_⟩
    rw [hw]
    show cnd m (_ ∧ _ ∧ _ ∧ _ ∧ I _ (set4 (set4 _ k (f.getD k ((0, 0), 0, 0)).1.1) k (f.getD k ((0, 0), 0, 0)).1.2) ∧ μ _ (set4 (set4 _ k (f.getD k ((0, 0), 0, 0)).1.1) k (f.getD k ((0, 0), 0, 0)).1.2) < _) (I _ (set4 _ k (f.getD k ((0, 0), 0, 0)).1.1) ∧ μ _ (set4 _ k (f.getD k ((0, 0), 0, 0)).1.1) < _)
    rw [set4_set4 _ _ _ (by omega)]
    cases m with
    | true =>
      refine ⟨by omega, by omega, by omega, by omega, ?_⟩
      have eg : g k = (f.getD k ((0, 0), 0, 0)).1.2 := by rw [hg]; rfl
      rw [← eg, e]; exact hI
    | false =>
      have eg : g k = (f.getD k ((0, 0), 0, 0)).1.1 := by rw [hg]; rfl
      show I _ (set4 _ k (f.getD k ((0, 0), 0, 0)).1.1) ∧ μ _ (set4 _ k (f.getD k ((0, 0), 0, 0)).1.1) < _
      rw [← eg, e]; exact hI
  · show Q (tup4 fun i => if i < f.length then g i else 0)
    rw [hg]
    cases m with
    | true => exact h
    | false => exact h
theorem p25 {ls : List Int} {seam : Int} {c : FansT} {e i : Int} {Q : List BinT → Prop} (h : f25_wp (ls, seam, c, e, i, ()) () Q) : V25 ls seam c e i Q := by
  obtain ⟨⟨hn, hl, hs, hc⟩, h⟩ := h
  have hn : ls.length ≤ 500 := hn
  have hl : ∀ l, l ∈ ls → bnd 400 l := hl
  have hs : bnd 400 seam := hs
  have hc : all4 (bnd 400) c := hc
  refine forUpL (σ := List BinT) (n := ls.length) (fun k => leavesR (ls.take k) seam c e i) rfl (fun k hk I μ hI hw => ?_) ?_
  · have hg := hl _ (getD_mem (d := 0) hk)
    have e1 : IntKind.wrap .i64 (ls.getD k 0 + seam) = ls.getD k 0 + seam := wrapS (by have := hg.1; have := hs.1; omega) (by have := hg.2; have := hs.2; omega)
    refine ⟨by omega, by omega, ?_⟩
    refine for4 (σ := BinT) (fun m => (tup4 fun j => if j < m then at4 c j + seam else 0, tup4 fun j => if j < m then e else 0, ls.getD k 0 + seam, i)) (by show (_, _, IntKind.wrap .i64 (ls.getD k 0 + seam), i) = _; rw [e1]; rfl) (fun m hm I μ hI hw => ?_) ?_
    · refine ⟨by omega, by omega, by omega, by omega, by omega, by omega, ?_⟩
      rw [hw]
      have hcm := all4_at hc hm
      have e2 : IntKind.wrap .i64 (at4L c m + seam) = at4 c m + seam := by
        rw [at4_L _ hm]
        exact wrapS (by have := hcm.1; have := hs.1; omega) (by have := hcm.2; have := hs.2; omega)
      have e3 := set4_tup (fun j => at4 c j + seam) hm
      have e4 := set4_tup (fun _ => e) hm
      show I _ (set4 _ m (IntKind.wrap .i64 (at4L c m + seam)), set4 _ m e, _, i) ∧ μ _ (set4 _ m (IntKind.wrap .i64 (at4L c m + seam)), set4 _ m e, _, i) < _
      rw [e2]
      simp only at e3 e4 ⊢
      rw [e3, e4]
      exact hI
    · refine ⟨?_, ?_⟩
      · simp only [leavesR, List.length_map, List.length_take, List.length_cons, List.length_nil]
        omega
      · rw [hw]
        have e2 : leavesR (ls.take (k + 1)) seam c e i = _ := take_map_succ _ ls hk 0
        rw [e2] at hI
        exact hI
  · show Q (leavesR (ls.take ls.length) seam c e i)
    rw [List.take_length]
    exact h
theorem p30 {ls : List Lot} {f : List Spring} {c : FansT} {Q : List BinT → Prop} (h : f30_wp (ls, f, c, ()) () Q) : V30 ls f c Q := by
  obtain ⟨⟨hn, hf4, hl, hsp, hc⟩, h⟩ := h
  have hn : ls.length ≤ 500 := hn
  have hf4 : f.length ≤ 4 := hf4
  have hl : ∀ l, l ∈ ls → bnd 400 l.1 ∧ bnd 400 l.2 := hl
  have hsp : ∀ s, s ∈ f → bnd 400 s.2.2 := hsp
  have hc : all4 (bnd 400) c := hc
  refine forUpL (σ := List BinT) (n := ls.length) (fun k => lotsR (ls.take k) f c) rfl (fun k hk I μ hI hw => ?_) ?_
  · obtain ⟨lot, hlot⟩ : ∃ lot, lot = ls.getD k (0, 0) := ⟨_, rfl⟩
    obtain ⟨T, hT⟩ : ∃ T : Nat → Int, T = fun j => if (f.getD j ((0, 0), 0, 0)).2.2 > lot.1 then 1000 else at4 c j := ⟨_, rfl⟩
    obtain ⟨L, hL⟩ : ∃ L : Nat → Int, L = fun j => if (f.getD j ((0, 0), 0, 0)).2.2 > lot.1 then 0 else at4 c j * (lot.1 - (f.getD j ((0, 0), 0, 0)).2.2) := ⟨_, rfl⟩
    have hlt := hl _ (getD_mem (d := (0, 0)) hk)
    rw [← hlot] at hlt
    refine ⟨by omega, by omega, ?_⟩
    refine forUpL (σ := BinT) (n := f.length) (fun m => (tup4 fun j => if j < m then T j else 0, tup4 fun j => if j < m then L j else 0, lot.2, 0)) (by rw [hlot]; rfl) (fun m hm I μ hI hw => ?_) ?_
    · have hm4 : m < 4 := by omega
      have hsm := hsp _ (getD_mem (d := ((0, 0), 0, 0)) hm)
      have hcm := all4_at hc hm4
      obtain ⟨w, hwd⟩ : ∃ w, w = (f.getD m ((0, 0), 0, 0)).2.2 := ⟨_, rfl⟩
      rw [← hwd] at hsm
      have e1 : IntKind.wrap .i64 (at4L c m * IntKind.wrap .i64 (lot.1 - w)) = at4 c m * (lot.1 - w) := by
        rw [at4_L _ hm4]
        have hd : bnd 800 (lot.1 - w) := ⟨by have := hlt.1.1; have := hsm.2; omega, by have := hlt.1.2; have := hsm.1; omega⟩
        rw [wrapS (x := lot.1 - _) (by have := hd.1; omega) (by have := hd.2; omega)]
        have := bnd_mul (by omega) hcm hd
        exact wrapS (by have := this.1; omega) (by have := this.2; omega)
      have eL := set4_tup L hm4
      have eT := set4_tup T hm4
      refine ⟨by omega, by omega, by omega, by omega, by omega, by omega, by omega, by omega, by omega, by omega, by omega, by omega, by omega, by omega, by omega, by omega, ?_⟩
      rw [hw]
      show cnd (decide ((f.getD m ((0, 0), 0, 0)).2.2 > (ls.getD k (0, 0)).1))
        (_ ∧ _ ∧ _ ∧ _ ∧ I _ (set4 (set4 _ m (at4L c m)) m 1000, set4 (set4 _ m (IntKind.wrap .i64 (at4L c m * IntKind.wrap .i64 ((ls.getD k (0, 0)).1 - (f.getD m ((0, 0), 0, 0)).2.2)))) m 0, lot.2, 0) ∧ μ _ (set4 (set4 _ m (at4L c m)) m 1000, set4 (set4 _ m (IntKind.wrap .i64 (at4L c m * IntKind.wrap .i64 ((ls.getD k (0, 0)).1 - (f.getD m ((0, 0), 0, 0)).2.2)))) m 0, lot.2, 0) < _)
        (I _ (set4 _ m (at4L c m), set4 _ m (IntKind.wrap .i64 (at4L c m * IntKind.wrap .i64 ((ls.getD k (0, 0)).1 - (f.getD m ((0, 0), 0, 0)).2.2))), lot.2, 0) ∧ μ _ (set4 _ m (at4L c m), set4 _ m (IntKind.wrap .i64 (at4L c m * IntKind.wrap .i64 ((ls.getD k (0, 0)).1 - (f.getD m ((0, 0), 0, 0)).2.2))), lot.2, 0) < _)
      rw [← hlot, ← hwd, set4_set4 _ _ _ hm4, set4_set4 _ _ _ hm4, e1]
      refine cnd_iff.2 ⟨fun h1 => ⟨by omega, by omega, by omega, by omega, ?_⟩, fun h1 => ?_⟩
      · have t1 : T m = 1000 := by rw [hT, hwd] at *; exact if_pos (of_decide_eq_true h1)
        have l1 : L m = 0 := by rw [hL, hwd] at *; exact if_pos (of_decide_eq_true h1)
        rw [t1] at eT; rw [l1] at eL
        show I _ (set4 _ m _, set4 _ m _, lot.2, 0) ∧ μ _ (set4 _ m _, set4 _ m _, lot.2, 0) < _
        rw [eT, eL]; exact hI
      · have t1 : T m = at4L c m := by rw [at4_L _ hm4]; rw [hT, hwd] at *; exact if_neg (of_decide_eq_false h1)
        have l1 : L m = at4 c m * (lot.1 - w) := by rw [hL, hwd] at *; exact if_neg (of_decide_eq_false h1)
        rw [t1] at eT; rw [l1] at eL
        show I _ (set4 _ m _, set4 _ m _, lot.2, 0) ∧ μ _ (set4 _ m _, set4 _ m _, lot.2, 0) < _
        rw [eT, eL]; exact hI
    · refine ⟨?_, ?_⟩
      · simp only [lotsR, List.length_map, List.length_take, List.length_cons, List.length_nil]
        omega
      · rw [hw]
        have e2 : lotsR (ls.take (k + 1)) f c = _ := take_map_succ _ ls hk (0, 0)
        rw [e2] at hI
        have e3 : lotR f c (ls.getD k (0, 0)) = (tup4 fun j => if j < f.length then T j else 0, tup4 fun j => if j < f.length then L j else 0, lot.2, 0) := by
          rw [hT, hL, ← hlot]; rfl
        rw [e3] at hI
        exact hI
  · show Q (lotsR (ls.take ls.length) f c)
    rw [List.take_length]
    exact h
end Go.Proofs.Fa
set_option linter.unusedVariables false
namespace Go.Proofs.Fa
open Go Go.GX Go.Proofs

theorem cmpI3_self (a : Int) : cmpI3 a a = 0 := by simp [cmpI3]
theorem cmpI3_zero {a b : Int} (h : cmpI3 a b = 0) : a = b := by
  unfold cmpI3 at h
  split at h
  · cases h
  · split at h
    · cases h
    · omega
theorem cmpI3_neg (a b : Int) : cmpI3 b a = - cmpI3 a b := by
  unfold cmpI3
  by_cases h1 : a < b
  · have h2 : ¬ b < a := by omega
    simp [h1, h2]
  · by_cases h2 : b < a
    · simp [h1, h2]
    · simp [h1, h2]
theorem cmpI3_lt {a b : Int} : cmpI3 a b < 0 ↔ a < b := by
  unfold cmpI3
  split
  · simp; assumption
  · split <;> simp <;> omega
theorem cmpL_self : ∀ a : List Int, cmpL a a = 0
  | [] => rfl
  | a :: r => by rw [cmpL, if_neg (by rw [cmpI3_self]; simp)]; exact cmpL_self r
theorem cmpL_zero : ∀ {a b : List Int}, cmpL a b = 0 → a = b
  | [], [], _ => rfl
  | [], _ :: _, h => by cases h
  | _ :: _, [], h => by cases h
  | a :: r, b :: s, h => by
    rw [cmpL] at h
    split at h
    · rename_i hh; exact absurd h hh
    · rename_i hh
      have hh : cmpI3 a b = 0 := by simpa using hh
      rw [cmpI3_zero hh, cmpL_zero h]
theorem cmpL_neg : ∀ a b : List Int, cmpL b a = - cmpL a b
  | [], [] => rfl
  | [], _ :: _ => rfl
  | _ :: _, [] => rfl
  | a :: r, b :: s => by
    rw [cmpL, cmpL, cmpI3_neg a b]
    by_cases h : cmpI3 a b = 0
    · rw [h, if_neg (by simp), if_neg (by simp)]; exact cmpL_neg r s
    · rw [if_pos (by omega), if_pos h]
theorem cmpL_trans : ∀ {a b c : List Int}, cmpL a b < 0 → cmpL b c < 0 → cmpL a c < 0
  | [], [], _, h, _ => by cases h
  | [], _ :: _, [], _, h => by cases h
  | [], _ :: _, _ :: _, _, _ => by show (-1 : Int) < 0; decide
  | _ :: _, [], _, h, _ => by cases h
  | _ :: _, _ :: _, [], _, h => by cases h
  | a :: r, b :: s, c :: t, h1, h2 => by
    rw [cmpL] at h1 h2 ⊢
    by_cases e1 : cmpI3 a b = 0
    · rw [if_neg (by simp [e1])] at h1
      have := cmpI3_zero e1
      subst this
      by_cases e2 : cmpI3 a c = 0
      · rw [if_neg (by simp [e2])] at h2 ⊢
        exact cmpL_trans h1 h2
      · rw [if_pos e2] at h2 ⊢
        exact h2
    · rw [if_pos e1] at h1
      have l1 := cmpI3_lt.1 h1
      by_cases e2 : cmpI3 b c = 0
      · have := cmpI3_zero e2
        subst this
        rw [if_pos e1]; exact h1
      · rw [if_pos e2] at h2
        have l2 := cmpI3_lt.1 h2
        have l3 : cmpI3 a c < 0 := cmpI3_lt.2 (by omega)
        rw [if_pos (by omega)]; exact l3
theorem cmpL_pre : ∀ (b u v : List Int), cmpL (b ++ u) (b ++ v) = cmpL u v
  | [], u, v => rfl
  | a :: b, u, v => by
    rw [List.cons_append, List.cons_append, cmpL, if_neg (by rw [cmpI3_self]; simp)]
    exact cmpL_pre b u v

theorem at4_put {t : FansT} {k : Nat} {u : Int} {i : Nat} (hi : i < 4) : at4 (put4 t k u) i = if i = k then u else at4 t i := by
  unfold put4; rw [at4_tup _ hi]
theorem fan_ext {s t : FansT} (h : ∀ i, i < 4 → at4 s i = at4 t i) : s = t := by
  have h0 := h 0 (by omega)
  have h1 := h 1 (by omega)
  have h2 := h 2 (by omega)
  have h3 := h 3 (by omega)
  exact Prod.ext h0 (Prod.ext h1 (Prod.ext h2 h3))
theorem bump_at {t : FansT} {k : Int} (hk : 0 ≤ k ∧ k ≤ 3) {i : Nat} (hi : i < 4) : at4 (bump t k) i = at4 t i + if (i : Int) = k then 1 else 0 := by
  unfold bump
  rw [at4_put hi]
  by_cases h : i = k.toNat
  · rw [if_pos h, if_pos (by omega), h]
  · rw [if_neg h, if_neg (by omega), Int.add_zero]
theorem num_fold {l : List Int} (hl : in4 l) : ∀ (t : FansT) {i : Nat}, i < 4 → at4 (l.foldl bump t) i = at4 t i + (l.count (i : Int) : Nat) := by
  induction l with
  | nil => intro t i hi; simp
  | cons a l ih =>
    intro t i hi
    rw [List.foldl_cons, ih (fun x hx => hl x (by simp [hx])) _ hi, bump_at (hl a (by simp)) hi, List.count_cons]
    by_cases h : (i : Int) = a
    · subst h; simp; omega
    · have h2 : ¬ a = (i : Int) := fun e => h e.symm
      simp [h, h2]
theorem num_at {l : List Int} (hl : in4 l) {i : Nat} (hi : i < 4) : at4 (numF l) i = (l.count (i : Int) : Nat) := by
  unfold numF
  rw [num_fold hl _ hi]
  have : at4 NO4 i = 0 := by
    match i, hi with
    | 0, _ => rfl
    | 1, _ => rfl
    | 2, _ => rfl
    | 3, _ => rfl
  omega
theorem numF_snoc (l : List Int) (k : Int) : numF (l ++ [k]) = bump (numF l) k := by unfold numF; rw [List.foldl_append]; rfl
theorem sumF_at (f : FansT) : sumF f = at4 f 0 + at4 f 1 + at4 f 2 + at4 f 3 := rfl
theorem num_sum {l : List Int} (hl : in4 l) : sumF (numF l) = (l.length : Nat) := by
  induction l with
  | nil => rfl
  | cons a l ih =>
    have ih := ih fun x hx => hl x (by simp [hx])
    have ha := hl a (by simp)
    have hl2 : in4 l := fun x hx => hl x (by simp [hx])
    rw [sumF_at] at ih ⊢
    rw [num_at hl2 (by omega), num_at hl2 (by omega), num_at hl2 (by omega), num_at hl2 (by omega)] at ih
    rw [num_at hl (by omega), num_at hl (by omega), num_at hl (by omega), num_at hl (by omega)]
    simp only [List.count_cons, List.length_cons]
    have h4 : a = 0 ∨ a = 1 ∨ a = 2 ∨ a = 3 := by omega
    rcases h4 with rfl | rfl | rfl | rfl <;> simp at ih ⊢ <;> omega
theorem asc_split (a : Int) : ∀ {l : List Int}, asc l → (∀ x, x ∈ l → a ≤ x) → ∃ l', l = List.replicate (l.count a) a ++ l' ∧ asc l' ∧ (∀ x, x ∈ l' → a + 1 ≤ x) ∧ (∀ b, b ≠ a → l'.count b = l.count b) ∧ ∀ x, x ∈ l' → x ∈ l
  | [], _, _ => ⟨[], by simp, List.Pairwise.nil, by simp, by simp, by simp⟩
  | x :: r, h, hx => by
    have h0 : (∀ y ∈ r, x ≤ y) ∧ asc r := List.pairwise_cons.1 h
    by_cases e : x = a
    · subst e
      obtain ⟨l', e1, e2, e3, e4, e5⟩ := asc_split x h0.2 (fun y hy => h0.1 y hy)
      refine ⟨l', ?_, e2, e3, fun b hb => ?_, fun y hy => List.mem_cons_of_mem _ (e5 y hy)⟩
      · rw [List.count_cons_self, List.replicate_succ, List.cons_append, ← e1]
      · rw [e4 b hb, List.count_cons_of_ne (Ne.symm hb)]
    · have hx1 := hx x (by simp)
      have hgt : ∀ y ∈ x :: r, a + 1 ≤ y := fun y hy => by
        rcases List.mem_cons.1 hy with rfl | hy
        · omega
        · have := h0.1 y hy; omega
      refine ⟨x :: r, ?_, h, hgt, fun b _ => rfl, fun y hy => hy⟩
      have : (x :: r).count a = 0 := List.count_eq_zero.2 fun hm => by have := hgt a hm; omega
      rw [this]; rfl
theorem listF_num {l : List Int} (ha : asc l) (hl : in4 l) : l = listF (numF l) := by
  obtain ⟨l1, a1, a2, a3, a4, a5⟩ := asc_split 0 ha fun x hx => (hl x hx).1
  obtain ⟨l2, b1, b2, b3, b4, b5⟩ := asc_split 1 a2 a3
  obtain ⟨l3, c1, c2, c3, c4, c5⟩ := asc_split 2 b2 b3
  obtain ⟨l4, d1, d2, d3, d4, d5⟩ := asc_split 3 c2 c3
  have e4 : l4 = [] := by
    cases l4 with
    | nil => rfl
    | cons y r =>
      have g1 := d3 y (by simp)
      have g2 := (hl y (a5 y (b5 y (c5 y (d5 y (by simp)))))).2
      omega
  have n0 : (numF l).1 = (l.count 0 : Nat) := num_at hl (i := 0) (by omega)
  have n1 : (numF l).2.1 = (l.count 1 : Nat) := num_at hl (i := 1) (by omega)
  have n2 : (numF l).2.2.1 = (l.count 2 : Nat) := num_at hl (i := 2) (by omega)
  have n3 : (numF l).2.2.2 = (l.count 3 : Nat) := num_at hl (i := 3) (by omega)
  have q1 : l1.count 1 = l.count 1 := a4 1 (by omega)
  have q2 : l2.count 2 = l.count 2 := (b4 2 (by omega)).trans (a4 2 (by omega))
  have q3 : l3.count 3 = l.count 3 := (c4 3 (by omega)).trans ((b4 3 (by omega)).trans (a4 3 (by omega)))
  unfold listF
  rw [n0, n1, n2, n3]
  simp only [Int.toNat_natCast]
  rw [e4, List.append_nil] at d1
  rw [q1] at b1
  rw [q2] at c1
  rw [q3] at d1
  rw [← d1, List.append_assoc, List.append_assoc, ← c1, ← b1]
  exact a1
theorem listF_in4 (s : FansT) : in4 (listF s) := by
  intro x hx
  simp only [listF, List.mem_append, List.mem_replicate] at hx
  omega
theorem numF_list {s : FansT} (hs : FOK s) : numF (listF s) = s := by
  refine fan_ext fun i hi => ?_
  rw [num_at (listF_in4 s) hi]
  have h := all4_at hs hi
  unfold listF
  simp only [List.count_append, List.count_replicate]
  match i, hi with
  | 0, _ => have h : 0 ≤ s.1 ∧ s.1 ≤ 1000 := h; show _ = s.1; simp; omega
  | 1, _ => have h : 0 ≤ s.2.1 ∧ s.2.1 ≤ 1000 := h; show _ = s.2.1; simp; omega
  | 2, _ => have h : 0 ≤ s.2.2.1 ∧ s.2.2.1 ≤ 1000 := h; show _ = s.2.2.1; simp; omega
  | 3, _ => have h : 0 ≤ s.2.2.2 ∧ s.2.2.2 ≤ 1000 := h; show _ = s.2.2.2; simp; omega
theorem listF_asc (s : FansT) : asc (listF s) := by
  unfold asc listF
  simp only [List.pairwise_append, List.pairwise_replicate, List.mem_append, List.mem_replicate]
  refine ⟨⟨⟨by simp, by simp, ?_⟩, by simp, ?_⟩, by simp, ?_⟩ <;> intro a ha b hb <;> omega

theorem fromL_le {b : List Int} (ha : asc b) (hb : in4 b) : 0 ≤ fromL b ∧ fromL b ≤ 3 ∧ ∀ x, x ∈ b → x ≤ fromL b := by
  unfold fromL
  by_cases h : b.length > 0
  · rw [if_pos h]
    have hm : b.getD (b.length - 1) 0 ∈ b := getD_mem (by omega)
    refine ⟨(hb _ hm).1, (hb _ hm).2, fun x hx => ?_⟩
    obtain ⟨j, hj, rfl⟩ := List.mem_iff_getElem.1 hx
    rw [getD_lt (by omega)]
    by_cases e : j = b.length - 1
    · subst e; exact Int.le_refl _
    · exact (List.pairwise_iff_getElem.1 ha) j (b.length - 1) hj (by omega) (by omega)
  · rw [if_neg h]
    have : b = [] := by cases b with | nil => rfl | cons a r => simp at h
    subst this
    exact ⟨by omega, by omega, by simp⟩
theorem asc_snoc {b : List Int} (ha : asc b) (hb : in4 b) {k : Int} (hk : fromL b ≤ k) : asc (b ++ [k]) := by
  unfold asc
  rw [List.pairwise_append]
  refine ⟨ha, by simp, fun x hx y hy => ?_⟩
  rw [List.mem_singleton] at hy
  subst hy
  have := (fromL_le ha hb).2.2 x hx
  omega
theorem in4_snoc {b : List Int} (hb : in4 b) {k : Int} (h0 : 0 ≤ k) (h3 : k ≤ 3) : in4 (b ++ [k]) := fun x hx => by
  rcases List.mem_append.1 hx with h | h
  · exact hb x h
  · rw [List.mem_singleton] at h; subst h; exact ⟨h0, h3⟩

def nextL (n : Nat) (b : List Int) (f : FansT) (j : Nat) : List (List Int) := if at4 (numF b) ((fromL b).toNat + j) < at4 f ((fromL b).toNat + j) then listsF n (b ++ [(((fromL b).toNat + j : Nat) : Int)]) f else []
theorem listsF_succ (n : Nat) (b : List Int) (f : FansT) : listsF (n + 1) b f = b :: (List.range (4 - (fromL b).toNat)).flatMap (nextL n b f) := rfl
theorem lists_sound {f : FansT} : ∀ {n : Nat} {b l : List Int}, asc b → in4 b → (∀ i, i < 4 → at4 (numF b) i ≤ at4 f i) → l ∈ listsF n b f → b <+: l ∧ asc l ∧ in4 l ∧ ∀ i, i < 4 → at4 (numF l) i ≤ at4 f i
  | 0, b, l, _, _, _, h => by simp [listsF] at h
  | n + 1, b, l, ha, hb, hc, h => by
    rw [listsF_succ] at h
    rcases List.mem_cons.1 h with rfl | h
    · exact ⟨List.prefix_refl _, ha, hb, hc⟩
    · obtain ⟨j, hj, h⟩ := List.mem_flatMap.1 h
      have hj := List.mem_range.1 hj
      have hfr := fromL_le ha hb
      unfold nextL at h
      split at h
      · rename_i hlt
        have hb2 := in4_snoc hb (k := (((fromL b).toNat + j : Nat) : Int)) (by omega) (by omega)
        obtain ⟨g1, g2, g3, g4⟩ := lists_sound (asc_snoc ha hb (by omega)) hb2 (fun i hi => by
          rw [numF_snoc, bump_at (by omega) hi]
          have := hc i hi
          split
          · rename_i e
            have : i = (fromL b).toNat + j := by omega
            subst this; omega
          · omega) h
        exact ⟨(List.prefix_append _ _).trans g1, g2, g3, g4⟩
      · simp at h
theorem lists_complete {f : FansT} : ∀ {n : Nat} {b l : List Int}, asc l → in4 l → (∀ i, i < 4 → at4 (numF l) i ≤ at4 f i) → b <+: l → l.length < b.length + n → l ∈ listsF n b f
  | 0, b, l, _, _, _, hp, h => by have := hp.length_le; omega
  | n + 1, b, l, ha, hl, hc, hp, h => by
    rw [listsF_succ]
    obtain ⟨t, rfl⟩ := hp
    cases t with
    | nil => simp
    | cons k t =>
      refine List.mem_cons_of_mem _ (List.mem_flatMap.2 ?_)
      have hb : in4 b := fun x hx => hl x (by simp [hx])
      have hab : asc b := (List.pairwise_append.1 ha).1
      have hk := hl k (by simp)
      have hfk : fromL b ≤ k := by
        unfold fromL
        by_cases h0 : b.length > 0
        · rw [if_pos h0]
          exact (List.pairwise_append.1 ha).2.2 _ (getD_mem (by omega)) k (by simp)
        · rw [if_neg h0]; exact hk.1
      have hf0 := (fromL_le hab hb).1
      refine ⟨(k - fromL b).toNat, List.mem_range.2 (by omega), ?_⟩
      have ek : (((fromL b).toNat + (k - fromL b).toNat : Nat) : Int) = k := by omega
      have ei : (fromL b).toNat + (k - fromL b).toNat = k.toNat := by omega
      unfold nextL
      rw [ek, ei]
      have hcnt : at4 (numF b) k.toNat < at4 f k.toNat := by
        have := hc k.toNat (by omega)
        rw [num_at hl (by omega)] at this
        rw [num_at hb (by omega)]
        have e2 : ((k.toNat : Nat) : Int) = k := by omega
        rw [e2] at this ⊢
        rw [List.count_append, List.count_cons_self] at this
        omega
      rw [if_pos hcnt]
      have e3 : b ++ k :: t = (b ++ [k]) ++ t := by simp
      rw [e3] at ha hl hc h ⊢
      exact lists_complete ha hl hc (List.prefix_append _ _) (by simp at h ⊢; omega)
theorem lists_order {f : FansT} : ∀ (n : Nat) (b : List Int), asc b → in4 b → (∀ i, i < 4 → at4 (numF b) i ≤ at4 f i) → (listsF n b f).Pairwise fun x y => cmpL x y < 0
  | 0, b, _, _, _ => by simp [listsF]
  | n + 1, b, ha, hb, hc => by
    have hfr := fromL_le ha hb
    have hpre : ∀ {j : Nat} {l : List Int}, j < 4 - (fromL b).toNat → l ∈ nextL n b f j → ∃ t, l = b ++ (((fromL b).toNat + j : Nat) : Int) :: t := fun {j l} hj h => by
      unfold nextL at h
      split at h
      · rename_i hlt
        obtain ⟨⟨t, ht⟩, _⟩ := lists_sound (asc_snoc ha hb (by omega)) (in4_snoc hb (by omega) (by omega)) (fun i hi => by
          rw [numF_snoc, bump_at (by omega) hi]
          have := hc i hi
          split
          · rename_i e
            have : i = (fromL b).toNat + j := by omega
            subst this; omega
          · omega) h
        exact ⟨t, by rw [← ht]; simp⟩
      · simp at h
    rw [listsF_succ, List.pairwise_cons]
    refine ⟨fun y hy => ?_, ?_⟩
    · obtain ⟨j, hj, h⟩ := List.mem_flatMap.1 hy
      obtain ⟨t, rfl⟩ := hpre (List.mem_range.1 hj) h
      have := cmpL_pre b [] ((((fromL b).toNat + j : Nat) : Int) :: t)
      rw [List.append_nil] at this
      rw [this]; show (-1 : Int) < 0; decide
    · have key : ∀ m : Nat, m ≤ 4 - (fromL b).toNat → ((List.range m).flatMap (nextL n b f)).Pairwise fun x y => cmpL x y < 0 := by
        intro m
        induction m with
        | zero => intro _; simp
        | succ m ih =>
          intro hm
          rw [List.range_succ, List.flatMap_append, List.flatMap_singleton, List.pairwise_append]
          refine ⟨ih (by omega), ?_, fun x hx y hy => ?_⟩
          · unfold nextL
            split
            · rename_i hlt
              refine lists_order n _ (asc_snoc ha hb (by omega)) (in4_snoc hb (by omega) (by omega)) fun i hi => ?_
              rw [numF_snoc, bump_at (by omega) hi]
              have := hc i hi
              split
              · rename_i e
                have : i = (fromL b).toNat + m := by omega
                subst this; omega
              · omega
            · simp
          · obtain ⟨j, hj, h⟩ := List.mem_flatMap.1 hx
            have hj := List.mem_range.1 hj
            obtain ⟨t, rfl⟩ := hpre (by omega) h
            obtain ⟨u, rfl⟩ := hpre (by omega) hy
            rw [cmpL_pre, cmpL]
            have : cmpI3 (((fromL b).toNat + j : Nat) : Int) (((fromL b).toNat + m : Nat) : Int) < 0 := cmpI3_lt.2 (by omega)
            rw [if_pos (by omega)]; exact this
      exact key _ (Nat.le_refl _)
theorem allL_mem {f : FansT} (hf : F5 f) {l : List Int} : l ∈ allL f ↔ ∃ s, le4 s f ∧ l = listF s := by
  have h0 : ∀ i, i < 4 → at4 (numF []) i ≤ at4 f i := fun i hi => by
    have : 0 ≤ at4 f i ∧ at4 f i ≤ 4 := all4_at hf hi
    rw [num_at (by intro x hx; simp at hx) hi]; simp; omega
  have le_of : ∀ {s : FansT}, (∀ i, i < 4 → 0 ≤ at4 s i ∧ at4 s i ≤ at4 f i) → le4 s f := fun {s} h => ⟨h 0 (by omega), h 1 (by omega), h 2 (by omega), h 3 (by omega)⟩
  unfold allL
  constructor
  · intro h
    obtain ⟨_, h1, h2, h3⟩ := lists_sound (b := []) List.Pairwise.nil (by intro x hx; simp at hx) h0 h
    refine ⟨numF l, le_of fun i hi => ⟨?_, h3 i hi⟩, listF_num h1 h2⟩
    rw [num_at h2 hi]; omega
  · rintro ⟨s, hs, rfl⟩
    have hsf := hs.fok hf.fok
    have e := numF_list hsf
    refine lists_complete (listF_asc s) (listF_in4 s) (fun i hi => ?_) (List.nil_prefix) ?_
    · rw [e]
      obtain ⟨⟨a1, a2⟩, ⟨b1, b2⟩, ⟨c1, c2⟩, ⟨d1, d2⟩⟩ := hs
      match i, hi with
      | 0, _ => exact a2
      | 1, _ => exact b2
      | 2, _ => exact c2
      | 3, _ => exact d2
    · have h4 := num_sum (listF_in4 s)
      rw [e] at h4
      obtain ⟨⟨a1, a2⟩, ⟨b1, b2⟩, ⟨c1, c2⟩, ⟨d1, d2⟩⟩ := hs
      unfold sumF at h4 ⊢
      simp only [List.length_nil]
      omega
theorem allL_order {f : FansT} (hf : F5 f) : (allL f).Pairwise fun x y => cmpL x y < 0 := lists_order _ _ List.Pairwise.nil (by intro x hx; simp at hx) fun i hi => by
  have : 0 ≤ at4 f i ∧ at4 f i ≤ 4 := all4_at hf hi
  rw [num_at (by intro x hx; simp at hx) hi]; simp; omega
end Go.Proofs.Fa
set_option linter.unusedVariables false
namespace Go.Proofs.Fa
open Go Go.GX Go.Proofs

theorem le00 : (0 : Int) ≤ 0 := Int.le_refl 0
theorem lenI {α : Type} (l : List α) : (0 : Int) ≤ (l.length : Nat) := Int.natCast_nonneg _
theorem VOK.n500 {s : Store} {f : List Spring} (v : VOK s f) : s.1.length ≤ 500 := by have := v.n6; omega
theorem VOK.m500 {s : Store} {f : List Spring} (v : VOK s f) : s.2.2.length ≤ 500 := by have := v.n5; omega
theorem dot_const (s : FansT) (e : Int) : GX.Fa.dot s (tup4 fun _ => e) = sumF s * e := by
  show s.1 * e + s.2.1 * e + s.2.2.1 * e + s.2.2.2 * e = (s.1 + s.2.1 + s.2.2.1 + s.2.2.2) * e
  rw [Int.add_mul, Int.add_mul, Int.add_mul]
theorem isNo_sum {s : FansT} (h : all4 (fun x => 0 ≤ x ∧ x ≤ 4) s) : (GX.Fa.isNo s = true ∧ sumF s = 0) ∨ (GX.Fa.isNo s = false ∧ 1 ≤ sumF s) := by
  obtain ⟨⟨a1, a2⟩, ⟨b1, b2⟩, ⟨c1, c2⟩, ⟨d1, d2⟩⟩ := h
  by_cases g : sumF s = 0
  · refine .inl ⟨?_, g⟩
    unfold sumF at g
    simp only [GX.Fa.isNo, Bool.and_eq_true, beq_iff_eq]
    exact ⟨by omega, by omega, by omega, by omega⟩
  · refine .inr ⟨?_, ?_⟩
    · rw [Bool.eq_false_iff]
      intro hh
      simp only [GX.Fa.isNo, Bool.and_eq_true, beq_iff_eq] at hh
      unfold sumF at g
      omega
    · unfold sumF at g ⊢; omega
theorem leavesR_ok {ls : List Int} {seam : Int} {c : FansT} {each first : Int} (hn : ls.length ≤ 100) (hl : ∀ l, l ∈ ls → bnd 400 l) (hs : bnd 400 seam) (hc : all4 (bnd 400) c) (he : bnd 1000 each) (hf : bnd 1000 first) (h0 : 0 ≤ each) (h1 : 0 ≤ each + first) : Bins0 (leavesR ls seam c each first) := by
  refine ⟨⟨by simp only [leavesR, List.length_map]; omega, fun b hb => ?_⟩, fun b hb s hs5 _ => ?_, by simpa [leavesR] using hn⟩
  · simp only [leavesR, List.mem_map] at hb
    obtain ⟨p, hp, rfl⟩ := hb
    have hp := hl p hp
    refine ⟨all4_tup fun i hi => ?_, all4_tup fun i hi => ?_, ?_, ?_⟩
    · have := all4_at hc hi
      exact ⟨by have := this.1; have := hs.1; omega, by have := this.2; have := hs.2; omega⟩
    · exact ⟨by have := he.1; omega, by have := he.2; omega⟩
    · exact ⟨by show -1000000 ≤ p + seam; have := hp.1; have := hs.1; omega, by show p + seam ≤ 1000000; have := hp.2; have := hs.2; omega⟩
    · exact ⟨by show -1000000 ≤ first; have := hf.1; omega, by show first ≤ 1000000; have := hf.2; omega⟩
  · simp only [leavesR, List.mem_map] at hb
    obtain ⟨p, hp, rfl⟩ := hb
    show 0 ≤ GX.Fa.dot s (tup4 fun _ => each) + (if GX.Fa.isNo s then 0 else first)
    rw [dot_const]
    rcases isNo_sum hs5 with ⟨g1, g2⟩ | ⟨g1, g2⟩
    · rw [g1, g2, if_pos rfl]; omega
    · rw [g1, if_neg (by simp)]
      have := Int.mul_le_mul_of_nonneg_right g2 h0
      omega
theorem lotsR_ok {ls : List Lot} {f : List Spring} {c : FansT} (hn : ls.length ≤ 100) (hl : ∀ l, l ∈ ls → bnd 400 l.1 ∧ bnd 400 l.2) (hsp : ∀ s, s ∈ f → bnd 400 s.2.2) (hc : all4 (bnd 400) c) (h0 : all4 (fun x => 0 ≤ x) c) : Bins0 (lotsR ls f c) := by
  refine ⟨⟨by simp only [lotsR, List.length_map]; omega, fun b hb => ?_⟩, fun b hb s hs5 _ => ?_, by simpa [lotsR] using hn⟩
  · simp only [lotsR, List.mem_map] at hb
    obtain ⟨l, hl', rfl⟩ := hb
    have hl := hl l hl'
    refine ⟨all4_tup fun i hi => ?_, all4_tup fun i hi => ?_, ?_, ⟨by show -1000000 ≤ (0 : Int); omega, by show (0 : Int) ≤ 1000000; omega⟩⟩
    · have := all4_at hc hi
      split
      · split
        · exact ⟨by omega, by omega⟩
        · exact ⟨by have := this.1; omega, by have := this.2; omega⟩
      · exact ⟨by omega, by omega⟩
    · split
      · rename_i hlt
        split
        · exact ⟨by omega, by omega⟩
        · have h1 := all4_at hc hi
          have h2 := hsp _ (getD_mem (d := ((0, 0), 0, 0)) hlt)
          have h3 : bnd 800 (l.1 - (f.getD i ((0, 0), 0, 0)).2.2) := ⟨by have := hl.1.1; have := h2.2; omega, by have := hl.1.2; have := h2.1; omega⟩
          have h4 := bnd_mul (by omega) h1 h3
          exact ⟨by have := h4.1; omega, by have := h4.2; omega⟩
      · exact ⟨by omega, by omega⟩
    · exact ⟨by show -1000000 ≤ l.2; have := hl.2.1; omega, by show l.2 ≤ 1000000; have := hl.2.2; omega⟩
  · simp only [lotsR, List.mem_map] at hb
    obtain ⟨l, hl', rfl⟩ := hb
    have key : all4 (fun x => 0 ≤ x) (lotR f c l).2.1 := all4_tup fun i hi => by
      split
      · split
        · omega
        · rename_i hgt
          exact Int.mul_nonneg (all4_at h0 hi) (by omega)
      · omega
    have : 0 ≤ GX.Fa.dot s (lotR f c l).2.1 := by
      unfold GX.Fa.dot
      have g1 := Int.mul_nonneg hs5.1.1 key.1
      have g2 := Int.mul_nonneg hs5.2.1.1 key.2.1
      have g3 := Int.mul_nonneg hs5.2.2.1.1 key.2.2.1
      have g4 := Int.mul_nonneg hs5.2.2.2.1 key.2.2.2
      omega
    show 0 ≤ GX.Fa.dot s (lotR f c l).2.1 + (if GX.Fa.isNo s then 0 else 0)
    rw [ite_self]; omega
theorem cnt400 {c : FansT} (h : all4 (fun x => 0 ≤ x ∧ x ≤ 40) c) : all4 (bnd 400) c := all4_mono (fun x h => ⟨by omega, by omega⟩) h
theorem cnt0 {c : FansT} (h : all4 (fun x => 0 ≤ x ∧ x ≤ 40) c) : all4 (fun x => 0 ≤ x) c := all4_mono (fun x h => h.1) h
theorem VOK.lv4 {s : Store} {f : List Spring} (v : VOK s f) : ∀ l, l ∈ s.1 → bnd 400 l := fun l hl => by have := v.lv l hl; exact ⟨by omega, by omega⟩
theorem VOK.sm4 {s : Store} {f : List Spring} (v : VOK s f) : bnd 400 s.2.1 := by have := v.sm; exact ⟨by omega, by omega⟩
theorem VOK.lt4 {s : Store} {f : List Spring} (v : VOK s f) : ∀ l, l ∈ s.2.2 → bnd 400 l.1 ∧ bnd 400 l.2 := fun l hl => by have := v.lt l hl; exact ⟨⟨by omega, by omega⟩, ⟨by omega, by omega⟩⟩
theorem VOK.sp4 {s : Store} {f : List Spring} (v : VOK s f) : ∀ s, s ∈ f → bnd 400 s.2.2 := fun x hx => by have := v.sp x hx; exact ⟨by omega, by omega⟩
theorem VOK.lvR {s : Store} {f : List Spring} (v : VOK s f) {c : FansT} (hc : all4 (fun x => 0 ≤ x ∧ x ≤ 40) c) : Bins0 (lvR s c 0 0) :=
  leavesR_ok (by have := v.n6; omega) v.lv4 v.sm4 (cnt400 hc) ⟨by omega, by omega⟩ ⟨by omega, by omega⟩ (by omega) (by omega)
theorem VOK.ltR {s : Store} {f : List Spring} (v : VOK s f) {c : FansT} (hc : all4 (fun x => 0 ≤ x ∧ x ≤ 40) c) : Bins0 (ltR s f c) :=
  lotsR_ok (by have := v.n5; omega) v.lt4 v.sp4 (cnt400 hc) (cnt0 hc)
theorem tab_at {bs : List BinT} {n : FansT} (hn : F5 n) : (tabF (bs.drop (Int.toNat 0))).getD (idx5 n).toNat 0 = tval bs n := tabF_idx hn
theorem idx_tab {bs : List BinT} {n : FansT} (hn : F5 n) : idx5 n < ((tabF (bs.drop (Int.toNat 0))).length : Int) := by rw [tabF_length]; have := idx_bnd hn; omega

theorem p51 {s : Store} {f : List Spring} {c n : FansT} {Q : Bool → Prop} (h : f51_wp (s, f, c, n, ()) () Q) : V51 s f c n Q := by
  obtain ⟨⟨hc, hct, h5⟩, h⟩ := h
  have v : VOK s f := vok_of hc
  have hct : all4 (fun x => 0 ≤ x ∧ x ≤ 40) c := hct
  have h5 : F5 n := h5
  have h : Q (enR s f c n) := h
  have hi := idx_bnd h5
  refine ⟨_, ⟨⟨v.n500, v.lv4, v.sm4, cnt400 hct⟩, rfl⟩, _, ⟨⟨v.lvR hct, le00, lenI _⟩, rfl⟩, _, ⟨h5, rfl⟩, hi.1, idx_tab h5, ?_⟩
  show cnd (decide ((tabF ((Fa.lvR s c 0 0).drop (Int.toNat 0))).getD (idx5 n).toNat 0 ≥ 0)) _ _
  rw [tab_at h5]
  unfold enR at h
  refine cnd_iff.2 ⟨fun h1 => ?_, fun h1 => ?_⟩
  · refine ⟨_, ⟨⟨v.m500, v.f4, v.lt4, v.sp4, cnt400 hct⟩, rfl⟩, _, ⟨⟨v.ltR hct, le00, lenI _⟩, rfl⟩, _, ⟨h5, rfl⟩, hi.1, idx_tab h5, ?_⟩
    show Q (decide ((tabF ((Fa.ltR s f c).drop (Int.toNat 0))).getD (idx5 n).toNat 0 ≥ 0))
    rw [tab_at h5]
    have h1 : decide (0 ≤ tval (Fa.lvR s c 0 0) n) = true := h1
    rw [h1, Bool.true_and] at h
    exact h
  · have h1 : decide (0 ≤ tval (Fa.lvR s c 0 0) n) = false := h1
    rw [h1, Bool.false_and] at h
    exact h
theorem most_in {w x best : FansT} (b : Bool) (hw : F5 w) (hx : F5 x) (hb : F5 best) {P1 P2 : Prop} (h1 : ((b && ge0 (GX.Fa.less w x)) && decide (0 ≤ sumF x - sumF best)) = true → P1) (h2 : ((b && ge0 (GX.Fa.less w x)) && decide (0 ≤ sumF x - sumF best)) = false → P2) :
    ∃ (I : Int → Bool → Int → Prop) (μ : Int → Bool → Int → Nat), I 0 b 0 ∧ ∀ y t n, I y t n → cnd (decide (y < 4)) (cnd t (0 ≤ y ∧ y < 4 ∧ 0 ≤ y ∧ y < 4 ∧ 0 ≤ y ∧ y < 4 ∧ 0 ≤ y ∧ y < 4 ∧
      I (IntKind.wrap .i64 (y + 1)) (decide (at4L x y.toNat ≤ at4L w y.toNat)) (IntKind.wrap .i64 (IntKind.wrap .i64 (n + at4L x y.toNat) - at4L best y.toNat)) ∧ μ (IntKind.wrap .i64 (y + 1)) (decide (at4L x y.toNat ≤ at4L w y.toNat)) (IntKind.wrap .i64 (IntKind.wrap .i64 (n + at4L x y.toNat) - at4L best y.toNat)) < μ y t n)
      (0 ≤ y ∧ y < 4 ∧ 0 ≤ y ∧ y < 4 ∧ I (IntKind.wrap .i64 (y + 1)) false (IntKind.wrap .i64 (IntKind.wrap .i64 (n + at4L x y.toNat) - at4L best y.toNat)) ∧ μ (IntKind.wrap .i64 (y + 1)) false (IntKind.wrap .i64 (IntKind.wrap .i64 (n + at4L x y.toNat) - at4L best y.toNat)) < μ y t n))
      (cnd t (cnd (decide (n ≥ 0)) P1 P2) P2) := by
  let S : Nat → Int := fun k => match k with | 0 => 0 | 1 => x.1 - best.1 | 2 => x.1 - best.1 + x.2.1 - best.2.1 | 3 => x.1 - best.1 + x.2.1 - best.2.1 + x.2.2.1 - best.2.2.1 | _ => x.1 - best.1 + x.2.1 - best.2.1 + x.2.2.1 - best.2.2.1 + x.2.2.2 - best.2.2.2
  have hx0 := hx
  have hb0 := hb
  obtain ⟨⟨a1, a2⟩, ⟨b1, b2⟩, ⟨c1, c2⟩, ⟨d1, d2⟩⟩ := hx0
  obtain ⟨⟨a3, a4⟩, ⟨b3, b4⟩, ⟨c3, c4⟩, ⟨d3, d4⟩⟩ := hb0
  have hS : ∀ k, k < 4 → IntKind.wrap .i64 (IntKind.wrap .i64 (S k + at4L x k) - at4L best k) = S (k + 1) := fun k hk => by
    match k, hk with
    | 0, _ => show IntKind.wrap .i64 (IntKind.wrap .i64 (0 + x.1) - best.1) = x.1 - best.1; rw [wrapS (x := 0 + x.1) (by omega) (by omega), wrapS (by omega) (by omega)]; omega
    | 1, _ => show IntKind.wrap .i64 (IntKind.wrap .i64 (x.1 - best.1 + x.2.1) - best.2.1) = x.1 - best.1 + x.2.1 - best.2.1; rw [wrapS (x := x.1 - best.1 + x.2.1) (by omega) (by omega), wrapS (by omega) (by omega)]
    | 2, _ => show IntKind.wrap .i64 (IntKind.wrap .i64 (x.1 - best.1 + x.2.1 - best.2.1 + x.2.2.1) - best.2.2.1) = x.1 - best.1 + x.2.1 - best.2.1 + x.2.2.1 - best.2.2.1; rw [wrapS (x := x.1 - best.1 + x.2.1 - best.2.1 + x.2.2.1) (by omega) (by omega), wrapS (by omega) (by omega)]
    | 3, _ => show IntKind.wrap .i64 (IntKind.wrap .i64 (x.1 - best.1 + x.2.1 - best.2.1 + x.2.2.1 - best.2.2.1 + x.2.2.2) - best.2.2.2) = x.1 - best.1 + x.2.1 - best.2.1 + x.2.2.1 - best.2.2.1 + x.2.2.2 - best.2.2.2; rw [wrapS (x := x.1 - best.1 + x.2.1 - best.2.1 + x.2.2.1 - best.2.2.1 + x.2.2.2) (by omega) (by omega), wrapS (by omega) (by omega)]
  have ho : ∀ k, k < 4 → okS w x (k + 1) = (okS w x k && decide (at4L x k ≤ at4L w k)) := fun k hk => by
    rw [at4_L _ hk, at4_L _ hk]
    show (okS w x k && decide (0 ≤ at4 w k - at4 x k)) = _
    congr 1
    rw [decide_eq_decide]; omega
  refine ⟨fun y t n => ∃ k : Nat, k ≤ 4 ∧ y = k ∧ t = (b && okS w x k) ∧ n = S k, fun y _ _ => (4 - y).toNat, ⟨0, by omega, rfl, by simp [okS], rfl⟩, ?_⟩
  rintro y t n ⟨k, hk, rfl, rfl, rfl⟩
  refine cnd_iff.2 ⟨fun g1 => ?_, fun g1 => ?_⟩
  · have g1 : (k : Int) < 4 := of_decide_eq_true g1
    have hk : k < 4 := by omega
    rw [wrapS (x := (k : Int) + 1) (by omega) (by omega), Int.toNat_natCast, hS k hk]
    refine cnd_iff.2 ⟨fun g2 => ⟨by omega, by omega, by omega, by omega, by omega, by omega, by omega, by omega, ⟨k + 1, by omega, by omega, ?_, rfl⟩, by dsimp only; omega⟩, fun g2 => ⟨by omega, by omega, by omega, by omega, ⟨k + 1, by omega, by omega, ?_, rfl⟩, by dsimp only; omega⟩⟩
    · rw [ho k hk, ← Bool.and_assoc, g2, Bool.true_and]
    · rw [ho k hk, ← Bool.and_assoc, g2, Bool.false_and]
  · have g1 : ¬ (k : Int) < 4 := of_decide_eq_false g1
    have : k = 4 := by omega
    subst this
    have e4 : decide (S 4 ≥ 0) = decide (0 ≤ sumF x - sumF best) := by
      rw [decide_eq_decide]
      show x.1 - best.1 + x.2.1 - best.2.1 + x.2.2.1 - best.2.2.1 + x.2.2.2 - best.2.2.2 ≥ 0 ↔ 0 ≤ (x.1 + x.2.1 + x.2.2.1 + x.2.2.2) - (best.1 + best.2.1 + best.2.2.1 + best.2.2.2)
      omega
    rw [okS_four, e4]
    refine cnd_iff.2 ⟨fun g2 => cnd_iff.2 ⟨fun g3 => h1 ?_, fun g3 => h2 ?_⟩, fun g2 => h2 ?_⟩
    · rw [g2, g3]; rfl
    · rw [g2, g3]; rfl
    · rw [g2]; rfl
theorem most_F5 {s : Store} {f : List Spring} (k : Nat) (hk : k ≤ 625) : F5 ((List.range k).foldl (fun b (n : Nat) => mostStR s f b (atF n)) NO4) := by
  induction k with
  | zero => show F5 NO4; exact ⟨⟨by decide, by decide⟩, ⟨by decide, by decide⟩, ⟨by decide, by decide⟩, ⟨by decide, by decide⟩⟩
  | succ k ih =>
    rw [foldl_succ]
    unfold mostStR
    split
    · exact atF_bnd (by omega) (by omega)
    · exact ih (by omega)
theorem p52 {s : Store} {f : List Spring} {Q : List Int → Prop} (h : f52_wp (s, f, ()) () Q) : V52 s f Q := by
  obtain ⟨hc, h⟩ := h
  have v : VOK s f := vok_of hc
  have h : Q ((l4 (mostR s f)).take f.length) := h
  have h5 : F5 (wantF f) := v.want4
  have hf4 := v.f4
  refine ⟨v.f4, v.f4, _, ⟨⟨v.n500, v.lv4, v.sm4, cnt400 v.cH⟩, rfl⟩, _, ⟨⟨v.lvR v.cH, le00, lenI _⟩, rfl⟩, ?_⟩
  refine ⟨_, ⟨⟨v.m500, v.f4, v.lt4, v.sp4, cnt400 v.cH⟩, rfl⟩, _, ⟨⟨v.ltR v.cH, le00, lenI _⟩, rfl⟩, ?_⟩
  obtain ⟨G, hG⟩ : ∃ G : Nat → FansT, G = fun k => (List.range k).foldl (fun b (n : Nat) => mostStR s f b (atF n)) NO4 := ⟨_, rfl⟩
  have h : Q ((l4 (G 625)).take f.length) := by rw [hG]; exact h
  have hG0 : NO4 = G 0 := by rw [hG]; rfl
  have hGs : ∀ k, G (k + 1) = mostStR s f (G k) (atF k) := fun k => by rw [hG]; exact foldl_succ _ _ _
  have hG5 : ∀ k, k ≤ 625 → F5 (G k) := fun k hk => by rw [hG]; exact most_F5 k hk
  refine forUp (σ := FansT) (n := 625) (by omega) G hG0 (fun k hk I μ hI hw => ?_) ?_
  · have hb5 := hG5 k (by omega)
    rw [hGs] at hI
    obtain ⟨best, hbest⟩ : ∃ best, best = G k := ⟨_, rfl⟩
    rw [← hbest] at hI hb5 ⊢
    rw [hw]
    have ha5 : F5 (atF (k : Int)) := atF_bnd (by omega) (by omega)
    refine ⟨_, ⟨⟨by omega, by omega⟩, rfl⟩, ?_⟩
    obtain ⟨x, hx⟩ : ∃ x, x = atF (k : Int) := ⟨_, rfl⟩
    show (0 : Int) ≤ k ∧ (k : Int) < ((tabF (Fa.lvR s (cH f) 0 0)).length : Int) ∧ cnd (decide ((tabF (Fa.lvR s (cH f) 0 0)).getD k 0 ≥ 0)) (_ ∧ (k : Int) < ((tabF (Fa.ltR s f (cH f))).length : Int) ∧ _) _
    rw [tabF_length, tabF_length, tabF_get (by omega)]
    have step : ∀ b : Bool, b = (decide (0 ≤ tval (Fa.lvR s (cH f) 0 0) (atF k)) && decide (0 ≤ tval (Fa.ltR s f (cH f)) (atF k))) →
        (((b && ge0 (GX.Fa.less (wantF f) (atF k))) && decide (0 ≤ sumF (atF k) - sumF best)) = true → I (k + 1 : Int) (atF k) ∧ μ (k + 1 : Int) (atF k) < μ k best) ∧
        (((b && ge0 (GX.Fa.less (wantF f) (atF k))) && decide (0 ≤ sumF (atF k) - sumF best)) = false → I (k + 1 : Int) best ∧ μ (k + 1 : Int) best < μ k best) := fun b hb => by
      have e : mostStR s f best (atF k) = if ((b && ge0 (GX.Fa.less (wantF f) (atF k))) && decide (0 ≤ sumF (atF k) - sumF best)) = true then atF k else best := by
        unfold mostStR; rw [hb]
      rw [e] at hI
      refine ⟨fun g => ?_, fun g => ?_⟩
      · rw [if_pos g] at hI; exact hI
      · rw [if_neg (by rw [g]; simp)] at hI; exact hI
    refine ⟨by omega, by omega, cnd_iff.2 ⟨fun h1 => ⟨by omega, by omega, ?_⟩, fun h1 => ?_⟩⟩
    · have h1 : decide (0 ≤ tval (Fa.lvR s (cH f) 0 0) (atF k)) = true := h1
      have e2 : (tabF (Fa.ltR s f (cH f))).getD k 0 = tval (Fa.ltR s f (cH f)) (atF k) := tabF_get (by omega)
      have st := step (decide (tval (Fa.ltR s f (cH f)) (atF k) ≥ 0)) (by rw [h1, Bool.true_and])
      rw [← e2] at st
      exact most_in _ h5 ha5 hb5 st.1 st.2
    · have h1 : decide (0 ≤ tval (Fa.lvR s (cH f) 0 0) (atF k)) = false := h1
      have st := step false (by rw [h1, Bool.false_and])
      exact most_in _ h5 ha5 hb5 st.1 st.2
  · intro _
    refine ⟨by omega, by omega, by omega, ?_, h⟩
    have : ((l4 (G 625)).take f.length).length ≤ 4 := by rw [List.length_take]; omega
    show (0 + ((l4 (G 625)).take f.length).length) * 8 ≤ 140737488355328
    omega
end Go.Proofs.Fa
set_option linter.unusedVariables false
set_option maxRecDepth 100000
namespace Go.Proofs.Fa
open Go Go.GX Go.Proofs

end Go.Proofs.Fa
set_option linter.unusedVariables false
namespace Go.Proofs.Fa
open Go Go.GX Go.Proofs

theorem le4.F5 {s f : FansT} (h : le4 s f) (hf : F5 f) : F5 s ∧ F5 (GX.Fa.less f s) := by
  obtain ⟨⟨a1, a2⟩, ⟨b1, b2⟩, ⟨c1, c2⟩, ⟨d1, d2⟩⟩ := h
  obtain ⟨⟨a3, a4⟩, ⟨b3, b4⟩, ⟨c3, c4⟩, ⟨d3, d4⟩⟩ := hf
  refine ⟨⟨⟨by omega, by omega⟩, ⟨by omega, by omega⟩, ⟨by omega, by omega⟩, ⟨by omega, by omega⟩⟩, ⟨⟨?_, ?_⟩, ⟨?_, ?_⟩, ⟨?_, ?_⟩, ⟨?_, ?_⟩⟩⟩ <;> simp only [GX.Fa.less] <;> omega
end Go.Proofs.Fa
set_option linter.unusedVariables false
namespace Go.Proofs.Fa
open Go Go.GX Go.Proofs

end Go.Proofs.Fa
set_option maxRecDepth 100000
namespace Go.Proofs.Fa
open Go Go.GX Go.Proofs
variable [Inhabited BaseD]
theorem ok32 : CallsOK Try.prog (assoc glT) 32 f32_ct :=
  callsOK_mkM [] st_ok mp_ok it_ok mk_ok in_ok AllOK.nil no_an Try.func32 (by kernel_rfl) (by kernel_rfl) f32_ct fun ⟨n, a, b, _⟩ _ Q h => (v32 n a b Q).mp (p32 h)
theorem ok22 : CallsOK Try.prog (assoc glT) 22 f22_ct :=
  callsOK_mkM [] st_ok mp_ok it_ok mk_ok in_ok (AllOK.cons ok32 AllOK.nil) f22_an Try.func22 (by kernel_rfl) (by kernel_rfl) f22_ct fun ⟨s, f, _⟩ _ Q h => (v22 s f Q).mp (p22 h)
theorem ok16 : CallsOK Try.prog (assoc glT) 16 f16_ct :=
  callsOK_mkM [] st_ok mp_ok it_ok mk_ok in_ok AllOK.nil no_an Try.func16 (by kernel_rfl) (by kernel_rfl) f16_ct fun ⟨s, f, _⟩ _ Q h => (v16 s f Q).mp (p16 h)
theorem ok18 : CallsOK Try.prog (assoc glT) 18 f18_ct :=
  callsOK_mkM [] st_ok mp_ok it_ok mk_ok in_ok AllOK.nil no_an Try.func18 (by kernel_rfl) (by kernel_rfl) f18_ct fun s _ Q h => (v18 s Q).mp (p18 h)
theorem ok19 : CallsOK Try.prog (assoc glT) 19 f19_ct :=
  callsOK_mkM [] st_ok mp_ok it_ok mk_ok in_ok AllOK.nil no_an Try.func19 (by kernel_rfl) (by kernel_rfl) f19_ct fun f _ Q h => (v19 f Q).mp (p19 h)
theorem ok38 : CallsOK Try.prog (assoc glT) 38 f38_ct :=
  callsOK_mkM [] st_ok mp_ok it_ok mk_ok in_ok AllOK.nil one_an Try.func38 (by kernel_rfl) (by kernel_rfl) f38_ct fun ⟨a, b, _⟩ _ Q h => (v38 a b Q).mp (p38 h)
theorem ok71 : CallsOK Try.prog (assoc glT) 71 f71_ct :=
  callsOK_mkM [] st_ok mp_ok it_ok mk_ok in_ok AllOK.nil one_an Try.func71 (by kernel_rfl) (by kernel_rfl) f71_ct fun ⟨a, b, _⟩ _ Q h => (v71 a b Q).mp (p71 h)
theorem ok70 : CallsOK Try.prog (assoc glT) 70 f70_ct :=
  callsOK_mkM [] st_ok mp_ok it_ok mk_ok in_ok (AllOK.cons ok38 AllOK.nil) one_an Try.func70 (by kernel_rfl) (by kernel_rfl) f70_ct fun ⟨a, b, _⟩ _ Q h => (v70 a b Q).mp (p70 h)
theorem ok23 : CallsOK Try.prog (assoc glT) 23 f23_ct :=
  callsOK_mkM [] st_ok mp_ok it_ok mk_ok in_ok (AllOK.cons ok70 (AllOK.cons ok71 AllOK.nil)) no_an Try.func23 (by kernel_rfl) (by kernel_rfl) f23_ct fun ⟨a, b, f, g, _⟩ _ Q h => (v23 a b f g Q).mp (p23 h)
theorem ok28 : CallsOK Try.prog (assoc glT) 28 f28_ct :=
  callsOK_mkM [] st_ok mp_ok it_ok mk_ok in_ok (AllOK.cons ok38 AllOK.nil) one_an Try.func28 (by kernel_rfl) (by kernel_rfl) f28_ct fun ⟨a, b, _⟩ _ Q h => (v28 a b Q).mp (p28 h)
theorem ok90 : CallsOK Try.prog (assoc glT) 90 f90_ct :=
  callsOK_mkM [] st_ok mp_ok it_ok mk_ok in_ok AllOK.nil no_an Try.func90 (by kernel_rfl) (by kernel_rfl) f90_ct fun n _ Q h => (v90 n Q).mp (p90 h)
theorem ok73 : CallsOK Try.prog (assoc glT) 73 f73_ct :=
  callsOK_mkM [] st_ok mp_ok it_ok mk_ok in_ok AllOK.nil no_an Try.func73 (by kernel_rfl) (by kernel_rfl) f73_ct fun f _ Q h => (v73 f Q).mp (p73 h)
theorem ok76 : CallsOK Try.prog (assoc glT) 76 f76_ct :=
  callsOK_mkM [] st_ok mp_ok it_ok mk_ok in_ok AllOK.nil f76_an Try.func76 (by kernel_rfl) (by kernel_rfl) f76_ct fun ⟨b, f, _⟩ _ Q h => (v76 b f Q).mp (p76 h)
theorem ok96 : CallsOK Try.prog (assoc glT) 96 f96_ct :=
  callsOK_mkM [] st_ok mp_ok it_ok mk_ok in_ok (AllOK.cons ok73 (AllOK.cons ok90 (AllOK.cons ok76 AllOK.nil))) f96_an Try.func96 (by kernel_rfl) (by kernel_rfl) f96_ct fun ⟨b, rest, f, _⟩ _ Q h => (v96 b rest f Q).mp (p96 h)
theorem ok72 : CallsOK Try.prog (assoc glT) 72 f72_ct :=
  callsOK_mkM [] st_ok mp_ok it_ok mk_ok in_ok (AllOK.cons ok90 (AllOK.cons ok96 AllOK.nil)) f72_an Try.func72 (by kernel_rfl) (by kernel_rfl) f72_ct fun ⟨bs, i, _⟩ _ Q h => (v72 bs i Q).mp (p72 h)
theorem ok26 : CallsOK Try.prog (assoc glT) 26 f26_ct :=
  callsOK_mkM [] st_ok mp_ok it_ok mk_ok in_ok AllOK.nil f26_an Try.func26 (by kernel_rfl) (by kernel_rfl) f26_ct fun ⟨f, m, _⟩ _ Q h => (v26 f m Q).mp (p26 h)
theorem ok27 : CallsOK Try.prog (assoc glT) 27 f27_ct :=
  callsOK_mkM [] st_ok mp_ok it_ok mk_ok in_ok AllOK.nil f27_an Try.func27 (by kernel_rfl) (by kernel_rfl) f27_ct fun f _ Q h => (v27 f Q).mp (p27 h)
theorem ok25 : CallsOK Try.prog (assoc glT) 25 f25_ct :=
  callsOK_mkM [] st_ok mp_ok it_ok mk_ok in_ok AllOK.nil f25_an Try.func25 (by kernel_rfl) (by kernel_rfl) f25_ct fun ⟨ls, seam, c, e, i, _⟩ _ Q h => (v25 ls seam c e i Q).mp (p25 h)
theorem ok30 : CallsOK Try.prog (assoc glT) 30 f30_ct :=
  callsOK_mkM [] st_ok mp_ok it_ok mk_ok in_ok AllOK.nil f30_an Try.func30 (by kernel_rfl) (by kernel_rfl) f30_ct fun ⟨ls, f, c, _⟩ _ Q h => (v30 ls f c Q).mp (p30 h)
theorem ok51 : CallsOK Try.prog (assoc glT) 51 f51_ct :=
  callsOK_mkM [] st_ok mp_ok it_ok mk_ok in_ok (AllOK.cons ok25 (AllOK.cons ok72 (AllOK.cons ok73 (AllOK.cons ok30 AllOK.nil)))) no_an Try.func51 (by kernel_rfl) (by kernel_rfl) f51_ct fun ⟨s, f, c, n, _⟩ _ Q h => (v51 s f c n Q).mp (p51 h)
theorem ok52 : CallsOK Try.prog (assoc glT) 52 f52_ct :=
  callsOK_mkM [] st_ok mp_ok it_ok mk_ok in_ok (AllOK.cons ok26 (AllOK.cons ok27 (AllOK.cons ok25 (AllOK.cons ok72 (AllOK.cons ok30 (AllOK.cons ok90 AllOK.nil)))))) f52_an Try.func52 (by kernel_rfl) (by kernel_rfl) f52_ct fun ⟨s, f, _⟩ _ Q h => (v52 s f Q).mp (p52 h)
end Go.Proofs.Fa
namespace Go.Proofs.Fa
open Go Go.GX Go.Proofs

def f55_wp : Int × Int × Unit → Unit → (Int × Int → Prop) → Prop := fun a _ Q => Q (a.1, a.2.1)
def f55_ct : Ct := ⟨arg2 k3 k3, .unit, k69, f55_wp, false, false⟩

def stD : Store := ([30, 28, 34], 2, [(35, 40), (25, 40)])
def spD : List Spring := [((14, 16), 2, 20), ((10, 10), 3, 30)]
def f56_wp : Unit → Unit → (Store → Prop) → Prop := fun _ _ Q => Q stD
def f56_ct : Ct := ⟨.unit, .unit, k25, f56_wp, false, false⟩
def f57_wp : Unit → Unit → (List Spring → Prop) → Prop := fun _ _ Q => Q spD
def f57_ct : Ct := ⟨.unit, .unit, k26, f57_wp, false, true⟩
def f17_wp : Unit → Unit → (Bool → Prop) → Prop := fun _ _ Q => Q true
def f17_ct : Ct := ⟨.unit, .unit, .bool, f17_wp, false, false⟩
def fL2_wp : Store × List Spring × Unit → Unit → (Bool → Prop) → Prop := fun _ _ Q => Q true
def fL2_ct : Ct := ⟨arg2 k25 k26, .unit, .bool, fL2_wp, false, false⟩
def f3_ct : Ct := fL2_ct
def f4_ct : Ct := fL2_ct
def f12_ct : Ct := fL2_ct
end Go.Proofs.Fa
set_option linter.unusedVariables false
set_option maxRecDepth 100000
namespace Go.Proofs.Fa
open Go Go.GX Go.Proofs

def V55 (a : Int) (b : Int) (Q : Int × Int → Prop) : Prop := Q (a, b)
theorem v55 (a : Int) (b : Int) (Q : Int × Int → Prop) : V55 a b Q = vcFunc (S0 [] []) f55_ct.own f55_ct.fresh no_an Try.f55 (bodyOf Try.f55) f55_ct.A f55_ct.C f55_ct.R (a, b, ()) () Q := by kernel_rfl

def V56 (Q : List Int × Int × List (Int × Int) → Prop) : Prop := Q ((30 : Int) :: (28 : Int) :: (34 : Int) :: ([] : List Int), (2 : Int), ((35 : Int), (40 : Int)) :: ((25 : Int), (40 : Int)) :: ([] : List (Int × Int)))
theorem v56 (Q : List Int × Int × List (Int × Int) → Prop) : V56 Q = vcFunc (S0 [] []) f56_ct.own f56_ct.fresh no_an Try.f56 (bodyOf Try.f56) f56_ct.A f56_ct.C f56_ct.R () () Q := by kernel_rfl

def V57 (Q : List Spring → Prop) : Prop := f55_wp ((14 : Int), (16 : Int), ()) () fun (r : Int × Int) ↦ f55_wp ((10 : Int), (10 : Int), ()) () fun (r_1 : Int × Int) ↦ Q (((r.1, r.2), (2 : Int), (20 : Int)) :: ((r_1.1, r_1.2), (3 : Int), (30 : Int)) :: ([] : List Spring))
theorem v57 (Q : List Spring → Prop) : V57 Q = vcFunc (S0 [(55, f55_ct)] [104]) f57_ct.own f57_ct.fresh no_an Try.f57 (bodyOf Try.f57) f57_ct.A f57_ct.C f57_ct.R () () Q := by kernel_rfl

def V17 (Q : Bool → Prop) : Prop := f56_wp () () fun (r : List Int × Int × List (Int × Int)) ↦ f57_wp () () fun (r_1 : List Spring) ↦ f21_wp ((r.1, r.2.1, r.2.2), r_1, ()) () fun (r : List (List Int) × Int × Unit) ↦ f56_wp () () fun (r_2 : List Int × Int × List (Int × Int)) ↦ f57_wp () () fun (r_3 : List Spring) ↦ f29_wp ((r_2.1, r_2.2.1, r_2.2.2), r_3, ()) () fun (r_4 : List (List Int) × Int × Unit) ↦ f56_wp () () fun (r_5 : List Int × Int × List (Int × Int)) ↦ f57_wp () () fun (r_6 : List Spring) ↦ f39_wp ((r_5.1, r_5.2.1, r_5.2.2), r_6, ()) () fun (r_7 : Int × Int × Int × Unit) ↦ f57_wp () () fun (r_8 : List Spring) ↦ (0 : Int) ≤ (0 : Int) ∧ (0 : Int) < (↑(List.length r_8) : Int) ∧ f56_wp () () fun (r_9 : List Int × Int × List (Int × Int)) ↦ f50_wp ((r_9.1, r_9.2.1, r_9.2.2), List.set r_8 (Int.toNat (0 : Int)) ((Prod.fst (Prod.fst (List.getD r_8 (Int.toNat (0 : Int)) (((0 : Int), (0 : Int)), (0 : Int), (0 : Int)))), Prod.snd (Prod.fst (List.getD r_8 (Int.toNat (0 : Int)) (((0 : Int), (0 : Int)), (0 : Int), (0 : Int))))), (3 : Int), Prod.snd (Prod.snd (List.getD r_8 (Int.toNat (0 : Int)) (((0 : Int), (0 : Int)), (0 : Int), (0 : Int))))), ()) () fun (r_10 : List Int × Int × Unit) ↦ f56_wp () () fun (r_11 : List Int × Int × List (Int × Int)) ↦ (0 : Int) ≤ (0 : Int) ∧ (0 : Int) ≤ (2 : Int) ∧ (2 : Int) ≤ (↑(List.length r_11.1) : Int) ∧ ∃ (r_12 : List Spring), (f57_wp () () fun (r' : List Spring) ↦ r' = r_12) ∧ ∃ (r_13 : Int × Int × Unit), (f31_wp ((List.drop (Int.toNat (0 : Int)) (List.take (Int.toNat (2 : Int)) r_11.1), r_11.2.1, r_11.2.2), r_12, (40 : Int), ()) () fun (r' : Int × Int × Unit) ↦ r' = r_13) ∧ ∃ (r_14 : List Spring), (f57_wp () () fun (r' : List Spring) ↦ r' = r_14) ∧ ∃ (r_15 : Int × Int × Int × Unit), (f34_wp ((List.drop (Int.toNat (0 : Int)) (List.take (Int.toNat (2 : Int)) r_11.1), r_11.2.1, r_11.2.2), r_14, (40 : Int), ()) () fun (r' : Int × Int × Int × Unit) ↦ r' = r_15) ∧ f56_wp () () fun (r_16 : List Int × Int × List (Int × Int)) ↦ f57_wp () () fun (r_17 : List Spring) ↦ f36_wp ((r_16.1, r_16.2.1, r_16.2.2), r_17, ((0 : Int) :: ([] : List Int)) :: ((0 : Int) :: ([] : List Int)) :: ((1 : Int) :: (1 : Int) :: (1 : Int) :: ([] : List Int)) :: ([] : List (List Int)), ()) () fun (r_18 : List Int × Int × Unit) ↦ f56_wp () () fun (r_19 : List Int × Int × List (Int × Int)) ↦ f57_wp () () fun (r_20 : List Spring) ↦ f41_wp ((r_19.1, r_19.2.1, r_19.2.2), r_20, (0 : Int), ()) () fun (r_21 : Int × Int × Unit) ↦ cnd (r.2.1 != (0 : Int)) (Q false) (cnd (r_4.2.1 != (0 : Int)) (Q false) (cnd (r_7.2.2.1 != (0 : Int)) (Q false) (cnd (r_10.2.1 != (0 : Int)) (Q false) (cnd (r_13.2.1 != (0 : Int)) (Q false) (cnd (r_15.2.2.1 != (0 : Int)) (Q false) (cnd (r_18.2.1 != (0 : Int)) (Q false) (cnd (r_21.2.1 != (0 : Int)) (Q false) (f28_wp (r.1, ((0 : Int) :: ([] : List Int)) :: ((0 : Int) :: ([] : List Int)) :: ((1 : Int) :: (1 : Int) :: (1 : Int) :: ([] : List Int)) :: ([] : List (List Int)), ()) () fun (r : Bool) ↦ cnd r (f28_wp (r_4.1, ((1 : Int) :: (1 : Int) :: (1 : Int) :: ([] : List Int)) :: ((0 : Int) :: (0 : Int) :: ([] : List Int)) :: ([] : List (List Int)), ()) () fun (r : Bool) ↦ cnd r (cnd (r_7.1 == (4 : Int)) (cnd (r_7.2.1 == (310 : Int)) (f38_wp (r_10.1, (3 : Int) :: (2 : Int) :: ([] : List Int), ()) () fun (r : Bool) ↦ cnd r (cnd (r_13.1 == (1 : Int)) (cnd (r_15.1 == (1 : Int)) (cnd (r_15.2.1 == (1 : Int)) (f38_wp (r_18.1, (12 : Int) :: (10 : Int) :: (0 : Int) :: ([] : List Int), ()) () fun (r : Bool) ↦ cnd r (Q (r_21.1 == (20 : Int))) (Q false)) (Q false)) (Q false)) (Q false)) (Q false)) (Q false)) (Q false)) (Q false)) (Q false)))))))))
theorem v17 (Q : Bool → Prop) : V17 Q = vcFunc (S0 [(56, f56_ct), (57, f57_ct), (21, f21_ct), (29, f29_ct), (39, f39_ct), (50, f50_ct), (31, f31_ct), (34, f34_ct), (36, f36_ct), (41, f41_ct), (28, f28_ct), (38, f38_ct)] []) f17_ct.own f17_ct.fresh no_an Try.f17 (bodyOf Try.f17) f17_ct.A f17_ct.C f17_ct.R () () Q := by kernel_rfl

def V3 (s : List Int × Int × List (Int × Int)) (f : List Spring) (Q : Bool → Prop) : Prop := f16_wp ((s.1, s.2.1, s.2.2), f, ()) () fun (r : Bool) ↦ cnd r (f17_wp () () fun (r : Bool) ↦ Q r) (f18_wp (s.1, s.2.1, s.2.2) () fun (r : List Int × Int × List (Int × Int)) ↦ f19_wp f () fun (r_1 : List Spring) ↦ f20_wp ((r.1, r.2.1, r.2.2), r_1, ()) () fun (r_2 : Int) ↦ f21_wp ((r.1, r.2.1, r.2.2), r_1, ()) () fun (r_3 : List (List Int) × Int × Unit) ↦ f22_wp ((s.1, s.2.1, s.2.2), f, ()) () fun (r_4 : Int) ↦ f23_wp ((r.1, r.2.1, r.2.2), (s.1, s.2.1, s.2.2), r_1, f, ()) () fun (r : Bool) ↦ cnd (!r) (Q false) (cnd (r_2 != r_4) (Q false) (cnd (r_4 == (0 : Int)) (∃ (r : Int × Int × Int × Int), (f26_wp (f, true, ()) () fun (r' : Int × Int × Int × Int) ↦ r' = r) ∧ ∃ (r_5 : List BinT), (f25_wp (s.1, s.2.1, (r.1, r.2.1, r.2.2.1, r.2.2.2), (0 : Int), (1 : Int), ()) () fun (r' : List BinT) ↦ r' = r_5) ∧ ∃ (r : Int × Int × Int × Int), (f27_wp f () fun (r' : Int × Int × Int × Int) ↦ r' = r) ∧ ∃ (r_6 : List (List Int) × Bool × Unit), (f24_wp (r_5, (r.1, r.2.1, r.2.2.1, r.2.2.2), ()) () fun (r' : List (List Int) × Bool × Unit) ↦ r' = r_6) ∧ cnd r_6.2.1 (cnd (r_3.2.1 == (0 : Int)) (f28_wp (r_3.1, r_6.1, ()) () fun (r : Bool) ↦ cnd r (f17_wp () () fun (r : Bool) ↦ Q r) (Q false)) (Q false)) (cnd (r_3.2.1 == (9 : Int)) (List.length r_3.1 ≤ (9223372036854775807 : Nat) → cnd ((↑(List.length r_3.1) : Int) == (0 : Int)) (f17_wp () () fun (r : Bool) ↦ Q r) (Q false)) (Q false))) (cnd (r_3.2.1 == r_4) (List.length r_3.1 ≤ (9223372036854775807 : Nat) → cnd ((↑(List.length r_3.1) : Int) == (0 : Int)) (f17_wp () () fun (r : Bool) ↦ Q r) (Q false)) (Q false)))))
theorem v3 (s : List Int × Int × List (Int × Int)) (f : List Spring) (Q : Bool → Prop) : V3 s f Q = vcFunc (S0 [(16, f16_ct), (17, f17_ct), (18, f18_ct), (19, f19_ct), (20, f20_ct), (21, f21_ct), (22, f22_ct), (23, f23_ct), (26, f26_ct), (25, f25_ct), (27, f27_ct), (24, f24_ct), (28, f28_ct)] []) f3_ct.own f3_ct.fresh no_an Try.f3 (bodyOf Try.f3) f3_ct.A f3_ct.C f3_ct.R (s, f, ()) () Q := by kernel_rfl

def V4 (s : List Int × Int × List (Int × Int)) (f : List Spring) (Q : Bool → Prop) : Prop := f16_wp ((s.1, s.2.1, s.2.2), f, ()) () fun (r : Bool) ↦ cnd r (f17_wp () () fun (r : Bool) ↦ Q r) (f18_wp (s.1, s.2.1, s.2.2) () fun (r : List Int × Int × List (Int × Int)) ↦ f19_wp f () fun (r_1 : List Spring) ↦ f29_wp ((r.1, r.2.1, r.2.2), r_1, ()) () fun (r_2 : List (List Int) × Int × Unit) ↦ f22_wp ((s.1, s.2.1, s.2.2), f, ()) () fun (r_3 : Int) ↦ f23_wp ((r.1, r.2.1, r.2.2), (s.1, s.2.1, s.2.2), r_1, f, ()) () fun (r : Bool) ↦ cnd (!r) (Q false) (cnd (r_3 == (0 : Int)) (∃ (r : Int × Int × Int × Int), (f26_wp (f, true, ()) () fun (r' : Int × Int × Int × Int) ↦ r' = r) ∧ ∃ (r_4 : List BinT), (f30_wp (s.2.2, f, (r.1, r.2.1, r.2.2.1, r.2.2.2), ()) () fun (r' : List BinT) ↦ r' = r_4) ∧ ∃ (r : Int × Int × Int × Int), (f27_wp f () fun (r' : Int × Int × Int × Int) ↦ r' = r) ∧ ∃ (r_5 : List (List Int) × Bool × Unit), (f24_wp (r_4, (r.1, r.2.1, r.2.2.1, r.2.2.2), ()) () fun (r' : List (List Int) × Bool × Unit) ↦ r' = r_5) ∧ cnd r_5.2.1 (cnd (r_2.2.1 == (0 : Int)) (f28_wp (r_2.1, r_5.1, ()) () fun (r : Bool) ↦ cnd r (f17_wp () () fun (r : Bool) ↦ Q r) (Q false)) (Q false)) (cnd (r_2.2.1 == (9 : Int)) (List.length r_2.1 ≤ (9223372036854775807 : Nat) → cnd ((↑(List.length r_2.1) : Int) == (0 : Int)) (f17_wp () () fun (r : Bool) ↦ Q r) (Q false)) (Q false))) (cnd (r_2.2.1 == r_3) (List.length r_2.1 ≤ (9223372036854775807 : Nat) → cnd ((↑(List.length r_2.1) : Int) == (0 : Int)) (f17_wp () () fun (r : Bool) ↦ Q r) (Q false)) (Q false))))
theorem v4 (s : List Int × Int × List (Int × Int)) (f : List Spring) (Q : Bool → Prop) : V4 s f Q = vcFunc (S0 [(16, f16_ct), (17, f17_ct), (18, f18_ct), (19, f19_ct), (29, f29_ct), (22, f22_ct), (23, f23_ct), (26, f26_ct), (30, f30_ct), (27, f27_ct), (24, f24_ct), (28, f28_ct)] []) f4_ct.own f4_ct.fresh no_an Try.f4 (bodyOf Try.f4) f4_ct.A f4_ct.C f4_ct.R (s, f, ()) () Q := by kernel_rfl

def V12 (s : List Int × Int × List (Int × Int)) (f : List Spring) (Q : Bool → Prop) : Prop := f16_wp ((s.1, s.2.1, s.2.2), f, ()) () fun (r : Bool) ↦ cnd r (f17_wp () () fun (r : Bool) ↦ Q r) (f18_wp (s.1, s.2.1, s.2.2) () fun (r : List Int × Int × List (Int × Int)) ↦ f19_wp f () fun (r_1 : List Spring) ↦ f49_wp ((r.1, r.2.1, r.2.2), r_1, ()) () fun (r_2 : Bool × Bool × Int × Unit) ↦ f50_wp ((r.1, r.2.1, r.2.2), r_1, ()) () fun (r_3 : List Int × Int × Unit) ↦ f22_wp ((s.1, s.2.1, s.2.2), f, ()) () fun (r_4 : Int) ↦ f23_wp ((r.1, r.2.1, r.2.2), (s.1, s.2.1, s.2.2), r_1, f, ()) () fun (r : Bool) ↦ cnd (!r) (Q false) (cnd (r_2.2.2.1 != r_4) (Q false) (cnd (r_3.2.1 != r_4) (Q false) (cnd (r_4 != (0 : Int)) (cnd (!r_2.1) (cnd (!r_2.2.1) (List.length r_3.1 ≤ (9223372036854775807 : Nat) → cnd ((↑(List.length r_3.1) : Int) == (0 : Int)) (f17_wp () () fun (r : Bool) ↦ Q r) (Q false)) (Q false)) (Q false)) (∃ (r : Int × Int × Int × Int), (f26_wp (f, true, ()) () fun (r' : Int × Int × Int × Int) ↦ r' = r) ∧ ∃ (r_5 : Int × Int × Int × Int), (f27_wp f () fun (r' : Int × Int × Int × Int) ↦ r' = r_5) ∧ ∃ (r_6 : Bool), (f51_wp ((s.1, s.2.1, s.2.2), f, (r.1, r.2.1, r.2.2.1, r.2.2.2), (r_5.1, r_5.2.1, r_5.2.2.1, r_5.2.2.2), ()) () fun (r' : Bool) ↦ r' = r_6) ∧ cnd (r_2.1 == r_6) (∃ (r : Int × Int × Int × Int), (f26_wp (f, false, ()) () fun (r' : Int × Int × Int × Int) ↦ r' = r) ∧ ∃ (r_7 : Int × Int × Int × Int), (f27_wp f () fun (r' : Int × Int × Int × Int) ↦ r' = r_7) ∧ ∃ (r_8 : Bool), (f51_wp ((s.1, s.2.1, s.2.2), f, (r.1, r.2.1, r.2.2.1, r.2.2.2), (r_7.1, r_7.2.1, r_7.2.2.1, r_7.2.2.2), ()) () fun (r' : Bool) ↦ r' = r_8) ∧ cnd (r_2.2.1 == r_8) (∃ (r : List Int), (f52_wp ((s.1, s.2.1, s.2.2), f, ()) () fun (r' : List Int) ↦ r' = r) ∧ ∃ (r_9 : Bool), (f38_wp (r_3.1, r, ()) () fun (r' : Bool) ↦ r' = r_9) ∧ cnd r_9 (∃ (r : Bool), (f17_wp () () fun (r' : Bool) ↦ r' = r) ∧ Q r) (Q false)) (Q false)) (Q false))))))
theorem v12 (s : List Int × Int × List (Int × Int)) (f : List Spring) (Q : Bool → Prop) : V12 s f Q = vcFunc (S0 [(16, f16_ct), (17, f17_ct), (18, f18_ct), (19, f19_ct), (49, f49_ct), (50, f50_ct), (22, f22_ct), (23, f23_ct), (26, f26_ct), (27, f27_ct), (51, f51_ct), (52, f52_ct), (38, f38_ct)] []) f12_ct.own f12_ct.fresh no_an Try.f12 (bodyOf Try.f12) f12_ct.A f12_ct.C f12_ct.R (s, f, ()) () Q := by kernel_rfl

end Go.Proofs.Fa
set_option linter.unusedVariables false
set_option maxRecDepth 100000
namespace Go.Proofs.Fa
open Go Go.GX Go.Proofs

theorem p55 {a b : Int} {Q : Int × Int → Prop} (h : f55_wp (a, b, ()) () Q) : V55 a b Q := h
theorem p56 {Q : Store → Prop} (h : f56_wp () () Q) : V56 Q := h
theorem p57 {Q : List Spring → Prop} (h : f57_wp () () Q) : V57 Q := h
def stL : Store := ([30, 28], 2, [(35, 40), (25, 40)])
def spT : List Spring := [((14, 16), 3, 20), ((10, 10), 3, 30)]
theorem d21 : resLeaves stD spD = ([[0], [0], [1, 1, 1]], 0) := by decide +kernel
theorem d29 : resLots stD spD = ([[1, 1, 1], [0, 0]], 0) := by decide +kernel
theorem d39 : resLoss stD spD = (4, 310, 0) := by decide +kernel
theorem d50 : resMost stD spT = ([3, 2], 0) := by decide +kernel
theorem d31 : resNew stL spD 40 = (1, 0) := by decide +kernel
theorem d34 : resBound stL spD 40 = (1, 1, 0) := by decide +kernel
theorem d36 : resRest stD spD [[0], [0], [1, 1, 1]] = ([12, 10, 0], 0) := by decide +kernel
theorem d41 : resRise stD spD 0 = (20, 0) := by decide +kernel
theorem p17 {Q : Bool → Prop} (h : f17_wp () () Q) : V17 Q := by
  have h : Q true := h
  refine ⟨by decide, by decide, by decide, by decide, by decide, _, rfl, _, rfl, _, rfl, _, rfl, ?_⟩
  show cnd ((resLeaves stD spD).2 != 0) (Q false) (cnd ((resLots stD spD).2 != 0) (Q false) (cnd ((resLoss stD spD).2.2 != 0) (Q false) (cnd ((resMost stD spT).2 != 0) (Q false) (cnd ((resNew stL spD 40).2 != 0) (Q false) (cnd ((resBound stL spD 40).2.2 != 0) (Q false) (cnd ((resRest stD spD [[0], [0], [1, 1, 1]]).2 != 0) (Q false) (cnd ((resRise stD spD 0).2 != 0) _
    (cnd (decide ((resLeaves stD spD).1 = [[0], [0], [1, 1, 1]])) (cnd (decide ((resLots stD spD).1 = [[1, 1, 1], [0, 0]])) (cnd ((resLoss stD spD).1 == 4) (cnd ((resLoss stD spD).2.1 == 310) (cnd (decide ((resMost stD spT).1 = [3, 2])) (cnd ((resNew stL spD 40).1 == 1) (cnd ((resBound stL spD 40).1 == 1) (cnd ((resBound stL spD 40).2.1 == 1) (cnd (decide ((resRest stD spD [[0], [0], [1, 1, 1]]).1 = [12, 10, 0])) (Q ((resRise stD spD 0).1 == 20)) (Q false)) (Q false)) (Q false)) (Q false)) (Q false)) (Q false)) (Q false)) (Q false)) (Q false)))))))))
  rw [d21, d29, d39, d50, d31, d34, d36, d41]
  exact h
theorem known {Q : Bool → Prop} (h : Q true) : f17_wp () () fun r => Q r := h
theorem beqT {a b : Int} (h : a = b) : (a == b) = true := by simp [h]
theorem cndE {a b : Int} {p q : Prop} (h : a = b) (hp : p) : cnd (a == b) p q := by rw [beqT h]; exact hp
theorem cndD {c : Prop} [Decidable c] {p q : Prop} (h : c) (hp : p) : cnd (decide c) p q := by rw [decide_eq_true h]; exact hp
theorem cndN {a b : Int} {p q : Prop} (h : a = b) (hq : q) : cnd (a != b) p q := by rw [bne, beqT h]; exact hq
theorem cndNe {a b : Int} {p q : Prop} (h : a ≠ b) (hp : p) : cnd (a != b) p q := by
  have : (a != b) = true := by simp [h]
  rw [this]; exact hp
theorem cndEe {a b : Int} {p q : Prop} (h : a ≠ b) (hq : q) : cnd (a == b) p q := by
  have : (a == b) = false := by simp [h]
  rw [this]; exact hq
theorem large_iff {s : Store} {f : List Spring} {Q : Bool → Prop} {T : Prop} (h : Q true) (hT : s.1.length ≤ 8 → s.2.2.length ≤ 8 → f.length ≤ 8 → T) : cnd (decide (8 < s.1.length ∨ 8 < s.2.2.length ∨ 8 < f.length)) (f17_wp () () fun r => Q r) T :=
  cnd_iff.2 ⟨fun _ => known h, fun h1 => by
    have h1 := of_decide_eq_false h1
    exact hT (by omega) (by omega) (by omega)⟩
theorem same_iff {s : Store} {f : List Spring} {p q : Prop} (h : q) : cnd (!(decide (s = s ∧ f = f))) p q := by
  rw [decide_eq_true ⟨rfl, rfl⟩]; exact h
end Go.Proofs.Fa
set_option maxRecDepth 100000
set_option maxHeartbeats 0
namespace Go.Proofs.Fa
open Go Go.GX Go.Proofs
variable [Inhabited BaseD]
theorem ok55 : CallsOK Try.prog (assoc glT) 55 f55_ct :=
  callsOK_mkM [] st_ok mp_ok it_ok mk_ok in_ok AllOK.nil no_an Try.func55 (by kernel_rfl) (by kernel_rfl) f55_ct fun ⟨a, b, _⟩ _ Q h => (v55 a b Q).mp (p55 h)
theorem ok56 : CallsOK Try.prog (assoc glT) 56 f56_ct :=
  callsOK_mkM [] st_ok mp_ok it_ok mk_ok in_ok AllOK.nil no_an Try.func56 (by kernel_rfl) (by kernel_rfl) f56_ct fun _ _ Q h => (v56  Q).mp (p56 h)
theorem ok57 : CallsOK Try.prog (assoc glT) 57 f57_ct :=
  callsOK_mkM [104] st_ok mp_ok it_ok mk_ok in_ok (AllOK.cons ok55 AllOK.nil) no_an Try.func57 (by kernel_rfl) (by kernel_rfl) f57_ct fun _ _ Q h => (v57  Q).mp (p57 h)
theorem ok17 : CallsOK Try.prog (assoc glT) 17 f17_ct :=
  callsOK_mkM [] st_ok mp_ok it_ok mk_ok in_ok (AllOK.cons ok56 (AllOK.cons ok57 (AllOK.cons ok21 (AllOK.cons ok29 (AllOK.cons ok39 (AllOK.cons ok50 (AllOK.cons ok31 (AllOK.cons ok34 (AllOK.cons ok36 (AllOK.cons ok41 (AllOK.cons ok28 (AllOK.cons ok38 AllOK.nil)))))))))))) no_an Try.func17 (by kernel_rfl) (by kernel_rfl) f17_ct fun _ _ Q h => (v17  Q).mp (p17 h)
end Go.Proofs.Fa
