/- Part 8 of the texts behind the proof: FaV8, FaPe, FaM5, FaPf, FaO6. -/
import Derived.Test.YtacedikpdmdodaaG07
import Derived.Test.YtacedikpdmdodaaProg
set_option linter.unusedSimpArgs false
set_option linter.unusedVariables false
set_option linter.unusedSectionVars false
set_option linter.unusedVariables false
set_option maxRecDepth 100000
namespace Go.Proofs.Fa
open Go Go.GX Go.Proofs

def V43 (x : List Int × Int × List (Int × Int) × List FansT) (Q : (List Int × Int × List (Int × Int)) × List Spring × Unit → Prop) : Prop := (6 : Int) ≠ (0 : Int) ∧ ∃ (I : Int → List Int × Int × List (Int × Int) → Prop), ∃ (μ : Int → List Int × Int × List (Int × Int) → Nat), I (0 : Int) (([] : List Int), Int.tmod (IntKind.wrap IntKind.i64 x.2.1) (6 : Int), ([] : List (Int × Int))) ∧ ∀ (x_1 : Int) (x_2 : List Int × Int × List (Int × Int)), I x_1 x_2 → ∃ (I_1 : Bool → Prop), (List.length x.1 ≤ (9223372036854775807 : Nat) → cnd (decide (x_1 < (↑(List.length x.1) : Int))) (I_1 (decide (x_1 < (5 : Int)))) (I_1 false)) ∧ ∀ (x_3 : Bool), I_1 x_3 → cnd x_3 ((0 : Int) ≤ x_1 ∧ x_1 < (↑(List.length x.1) : Int) ∧ (90 : Int) ≠ (0 : Int) ∧ (List.length x_2.1 + List.length (IntKind.wrap IntKind.i64 ((10 : Int) + Int.tmod (IntKind.wrap IntKind.i64 (List.getD x.1 (Int.toNat x_1) (0 : Int))) (90 : Int)) :: ([] : List Int))) * (8 : Nat) ≤ (140737488355328 : Nat) ∧ I (IntKind.wrap IntKind.i64 (x_1 + (1 : Int))) (x_2.1 ++ IntKind.wrap IntKind.i64 ((10 : Int) + Int.tmod (IntKind.wrap IntKind.i64 (List.getD x.1 (Int.toNat x_1) (0 : Int))) (90 : Int)) :: ([] : List Int), x_2.2.1, x_2.2.2) ∧ μ (IntKind.wrap IntKind.i64 (x_1 + (1 : Int))) (x_2.1 ++ IntKind.wrap IntKind.i64 ((10 : Int) + Int.tmod (IntKind.wrap IntKind.i64 (List.getD x.1 (Int.toNat x_1) (0 : Int))) (90 : Int)) :: ([] : List Int), x_2.2.1, x_2.2.2) < μ x_1 x_2) (∃ (I : Int → List Int × Int × List (Int × Int) → Prop), ∃ (μ : Int → List Int × Int × List (Int × Int) → Nat), I (0 : Int) (x_2.1, x_2.2.1, x_2.2.2) ∧ ∀ (x_4 : Int) (x_5 : List Int × Int × List (Int × Int)), I x_4 x_5 → ∃ (I_2 : Bool → Prop), (List.length x.2.2.1 ≤ (9223372036854775807 : Nat) → cnd (decide (x_4 < (↑(List.length x.2.2.1) : Int))) (I_2 (decide (x_4 < (4 : Int)))) (I_2 false)) ∧ ∀ (x_6 : Bool), I_2 x_6 → cnd x_6 ((0 : Int) ≤ x_4 ∧ x_4 < (↑(List.length x.2.2.1) : Int) ∧ (40 : Int) ≠ (0 : Int) ∧ (0 : Int) ≤ x_4 ∧ x_4 < (↑(List.length x.2.2.1) : Int) ∧ (120 : Int) ≠ (0 : Int) ∧ (List.length x_5.2.2 + List.length ((IntKind.wrap IntKind.i64 ((10 : Int) + Int.tmod (IntKind.wrap IntKind.i64 (Prod.fst (List.getD x.2.2.1 (Int.toNat x_4) ((0 : Int), (0 : Int))))) (40 : Int)), Int.tmod (IntKind.wrap IntKind.i64 (Prod.snd (List.getD x.2.2.1 (Int.toNat x_4) ((0 : Int), (0 : Int))))) (120 : Int)) :: ([] : List (Int × Int)))) * (16 : Nat) ≤ (140737488355328 : Nat) ∧ I (IntKind.wrap IntKind.i64 (x_4 + (1 : Int))) (x_5.1, x_5.2.1, x_5.2.2 ++ (IntKind.wrap IntKind.i64 ((10 : Int) + Int.tmod (IntKind.wrap IntKind.i64 (Prod.fst (List.getD x.2.2.1 (Int.toNat x_4) ((0 : Int), (0 : Int))))) (40 : Int)), Int.tmod (IntKind.wrap IntKind.i64 (Prod.snd (List.getD x.2.2.1 (Int.toNat x_4) ((0 : Int), (0 : Int))))) (120 : Int)) :: ([] : List (Int × Int))) ∧ μ (IntKind.wrap IntKind.i64 (x_4 + (1 : Int))) (x_5.1, x_5.2.1, x_5.2.2 ++ (IntKind.wrap IntKind.i64 ((10 : Int) + Int.tmod (IntKind.wrap IntKind.i64 (Prod.fst (List.getD x.2.2.1 (Int.toNat x_4) ((0 : Int), (0 : Int))))) (40 : Int)), Int.tmod (IntKind.wrap IntKind.i64 (Prod.snd (List.getD x.2.2.1 (Int.toNat x_4) ((0 : Int), (0 : Int))))) (120 : Int)) :: ([] : List (Int × Int))) < μ x_4 x_5) (∃ (I : Int → List Spring → Prop), ∃ (μ : Int → List Spring → Nat), I (0 : Int) ([] : List Spring) ∧ ∀ (x_7 : Int) (x_8 : List Spring), I x_7 x_8 → ∃ (I_3 : Bool → Prop), cnd (x_7 == (0 : Int)) (I_3 true) (List.length x.2.2.2 ≤ (9223372036854775807 : Nat) → cnd (decide (x_7 < (↑(List.length x.2.2.2) : Int))) (I_3 (decide (x_7 < (3 : Int)))) (I_3 false)) ∧ ∀ (x_9 : Bool), I_3 x_9 → cnd x_9 (List.length x.2.2.2 ≤ (9223372036854775807 : Nat) → ∃ (I_4 : Int × Int × Int × Int → Prop), cnd (decide (x_7 < (↑(List.length x.2.2.2) : Int))) ((0 : Int) ≤ x_7 ∧ x_7 < (↑(List.length x.2.2.2) : Int) ∧ I_4 (Prod.fst (List.getD x.2.2.2 (Int.toNat x_7) ((0 : Int), (0 : Int), (0 : Int), (0 : Int))), Prod.fst (Prod.snd (List.getD x.2.2.2 (Int.toNat x_7) ((0 : Int), (0 : Int), (0 : Int), (0 : Int)))), Prod.fst (Prod.snd (Prod.snd (List.getD x.2.2.2 (Int.toNat x_7) ((0 : Int), (0 : Int), (0 : Int), (0 : Int))))), Prod.snd (Prod.snd (Prod.snd (List.getD x.2.2.2 (Int.toNat x_7) ((0 : Int), (0 : Int), (0 : Int), (0 : Int))))))) (I_4 ((12 : Int), (3 : Int), (2 : Int), (15 : Int))) ∧ ∀ (x : Int × Int × Int × Int), I_4 x → (20 : Int) ≠ (0 : Int) ∧ (6 : Int) ≠ (0 : Int) ∧ ∃ (r : Int × Int), (f55_wp (IntKind.wrap IntKind.i64 ((4 : Int) + Int.tmod (IntKind.wrap IntKind.i64 x.1) (20 : Int)), IntKind.wrap IntKind.i64 (IntKind.wrap IntKind.i64 ((4 : Int) + Int.tmod (IntKind.wrap IntKind.i64 x.1) (20 : Int)) + Int.tmod (IntKind.wrap IntKind.i64 x.2.1) (6 : Int)), ()) () fun (r' : Int × Int) ↦ r' = r) ∧ (5 : Int) ≠ (0 : Int) ∧ (35 : Int) ≠ (0 : Int) ∧ (List.length x_8 + List.length (((r.1, r.2), Int.tmod (IntKind.wrap IntKind.i64 x.2.2.1) (5 : Int), IntKind.wrap IntKind.i64 ((5 : Int) + Int.tmod (IntKind.wrap IntKind.i64 x.2.2.2) (35 : Int))) :: ([] : List Spring))) * (32 : Nat) ≤ (140737488355328 : Nat) ∧ I (IntKind.wrap IntKind.i64 (x_7 + (1 : Int))) (x_8 ++ ((r.1, r.2), Int.tmod (IntKind.wrap IntKind.i64 x.2.2.1) (5 : Int), IntKind.wrap IntKind.i64 ((5 : Int) + Int.tmod (IntKind.wrap IntKind.i64 x.2.2.2) (35 : Int))) :: ([] : List Spring)) ∧ μ (IntKind.wrap IntKind.i64 (x_7 + (1 : Int))) (x_8 ++ ((r.1, r.2), Int.tmod (IntKind.wrap IntKind.i64 x.2.2.1) (5 : Int), IntKind.wrap IntKind.i64 ((5 : Int) + Int.tmod (IntKind.wrap IntKind.i64 x.2.2.2) (35 : Int))) :: ([] : List Spring)) < μ x_7 x_8) (Q ((x_5.1, x_5.2.1, x_5.2.2), x_8, ()))))
theorem v43 (x : List Int × Int × List (Int × Int) × List FansT) (Q : (List Int × Int × List (Int × Int)) × List Spring × Unit → Prop) : V43 x Q = vcFunc (S0 [(55, f55_ct)] []) f43_ct.own f43_ct.fresh f43_an Try.f43 (bodyOf Try.f43) f43_ct.A f43_ct.C f43_ct.R x () Q := by kernel_rfl

def V44 (s : List Int × Int × List (Int × Int)) (Q : List Int × Int × List (Int × Int) → Prop) : Prop := (List.length ([] : List Int) + List.length s.1) * (8 : Nat) ≤ (140737488355328 : Nat) ∧ (List.length ([] : List (Int × Int)) + List.length s.2.2) * (16 : Nat) ≤ (140737488355328 : Nat) ∧ Q (([] : List Int) ++ s.1, s.2.1, ([] : List (Int × Int)) ++ s.2.2)
theorem v44 (s : List Int × Int × List (Int × Int)) (Q : List Int × Int × List (Int × Int) → Prop) : V44 s Q = vcFunc (S0 [] []) f44_ct.own f44_ct.fresh no_an Try.f44 (bodyOf Try.f44) f44_ct.A f44_ct.C f44_ct.R s () Q := by kernel_rfl

def V45 (f : List Spring) (Q : List Spring → Prop) : Prop := (List.length ([] : List Spring) + List.length f) * (32 : Nat) ≤ (140737488355328 : Nat) ∧ Q (([] : List Spring) ++ f)
theorem v45 (f : List Spring) (Q : List Spring → Prop) : V45 f Q = vcFunc (S0 [] []) f45_ct.own f45_ct.fresh no_an Try.f45 (bodyOf Try.f45) f45_ct.A f45_ct.C f45_ct.R f () Q := by kernel_rfl

def V48 (l : List Int) (i : Int) (Q : Int → Prop) : Prop := List.length l ≤ (9223372036854775807 : Nat) → cnd ((↑(List.length l) : Int) == (0 : Int)) (Q (0 : Int)) (List.length l ≤ (9223372036854775807 : Nat) → (↑(List.length l) : Int) ≠ (0 : Int) ∧ (0 : Int) ≤ Int.tmod i (↑(List.length l) : Int) ∧ Int.tmod i (↑(List.length l) : Int) < (↑(List.length l) : Int) ∧ Q (IntKind.wrap IntKind.i64 (List.getD l (Int.toNat (Int.tmod i (↑(List.length l) : Int))) (0 : Int))))
theorem v48 (l : List Int) (i : Int) (Q : Int → Prop) : V48 l i Q = vcFunc (S0 [] []) f48_ct.own f48_ct.fresh no_an Try.f48 (bodyOf Try.f48) f48_ct.A f48_ct.C f48_ct.R (l, i, ()) () Q := by kernel_rfl

def V46 (f : List Spring) (t : List Int) (Q : List Int → Prop) : Prop := ∃ (I : Int → List Int → Prop), ∃ (μ : Int → List Int → Nat), I (0 : Int) ([] : List Int) ∧ ∀ (x : Int) (x_1 : List Int), I x x_1 → List.length f ≤ (9223372036854775807 : Nat) → cnd (decide (x < (↑(List.length f) : Int))) ((0 : Int) ≤ x ∧ x < (↑(List.length f) : Int) ∧ (List.length t ≤ (9223372036854775807 : Nat) → cnd (decide ((↑(List.length t) : Int) > (0 : Int))) ((0 : Int) ≤ x ∧ x < (↑(List.length f) : Int) ∧ ∃ (r : Int), (f48_wp (t, x, ()) () fun (r' : Int) ↦ r' = r) ∧ (0 : Int) ≤ x ∧ x < (↑(List.length f) : Int) ∧ (255 : Int) ≠ (0 : Int) ∧ (List.length x_1 + List.length (IntKind.wrap IntKind.i64 (Prod.fst (Prod.fst (List.getD f (Int.toNat x) (((0 : Int), (0 : Int)), (0 : Int), (0 : Int)))) + IntKind.wrap IntKind.i64 (Int.tdiv (IntKind.wrap IntKind.i64 (r * IntKind.wrap IntKind.i64 (Prod.snd (Prod.fst (List.getD f (Int.toNat x) (((0 : Int), (0 : Int)), (0 : Int), (0 : Int)))) - Prod.fst (Prod.fst (List.getD f (Int.toNat x) (((0 : Int), (0 : Int)), (0 : Int), (0 : Int))))))) (255 : Int))) :: ([] : List Int))) * (8 : Nat) ≤ (140737488355328 : Nat) ∧ I (IntKind.wrap IntKind.i64 (x + (1 : Int))) (x_1 ++ IntKind.wrap IntKind.i64 (Prod.fst (Prod.fst (List.getD f (Int.toNat x) (((0 : Int), (0 : Int)), (0 : Int), (0 : Int)))) + IntKind.wrap IntKind.i64 (Int.tdiv (IntKind.wrap IntKind.i64 (r * IntKind.wrap IntKind.i64 (Prod.snd (Prod.fst (List.getD f (Int.toNat x) (((0 : Int), (0 : Int)), (0 : Int), (0 : Int)))) - Prod.fst (Prod.fst (List.getD f (Int.toNat x) (((0 : Int), (0 : Int)), (0 : Int), (0 : Int))))))) (255 : Int))) :: ([] : List Int)) ∧ μ (IntKind.wrap IntKind.i64 (x + (1 : Int))) (x_1 ++ IntKind.wrap IntKind.i64 (Prod.fst (Prod.fst (List.getD f (Int.toNat x) (((0 : Int), (0 : Int)), (0 : Int), (0 : Int)))) + IntKind.wrap IntKind.i64 (Int.tdiv (IntKind.wrap IntKind.i64 (r * IntKind.wrap IntKind.i64 (Prod.snd (Prod.fst (List.getD f (Int.toNat x) (((0 : Int), (0 : Int)), (0 : Int), (0 : Int)))) - Prod.fst (Prod.fst (List.getD f (Int.toNat x) (((0 : Int), (0 : Int)), (0 : Int), (0 : Int))))))) (255 : Int))) :: ([] : List Int)) < μ x x_1) ((List.length x_1 + List.length (Prod.snd (Prod.fst (List.getD f (Int.toNat x) (((0 : Int), (0 : Int)), (0 : Int), (0 : Int)))) :: ([] : List Int))) * (8 : Nat) ≤ (140737488355328 : Nat) ∧ I (IntKind.wrap IntKind.i64 (x + (1 : Int))) (x_1 ++ Prod.snd (Prod.fst (List.getD f (Int.toNat x) (((0 : Int), (0 : Int)), (0 : Int), (0 : Int)))) :: ([] : List Int)) ∧ μ (IntKind.wrap IntKind.i64 (x + (1 : Int))) (x_1 ++ Prod.snd (Prod.fst (List.getD f (Int.toNat x) (((0 : Int), (0 : Int)), (0 : Int), (0 : Int)))) :: ([] : List Int)) < μ x x_1))) (Q x_1)
theorem v46 (f : List Spring) (t : List Int) (Q : List Int → Prop) : V46 f t Q = vcFunc (S0 [(48, f48_ct)] []) f46_ct.own f46_ct.fresh f46_an Try.f46 (bodyOf Try.f46) f46_ct.A f46_ct.C f46_ct.R (f, t, ()) () Q := by kernel_rfl

def V47 (s : List Int × Int × List (Int × Int)) (f : List Spring) (c : List Int) (l : List (List Int)) (b : Bool) (Q : List Int × Bool × Unit → Prop) : Prop := (↑(List.length f) : Int) = (↑(List.length f) : Int) ∧ (0 : Int) ≤ (↑(List.length f) : Int) ∧ (↑(List.length f) : Int) * (↑(8 : Nat) : Int) ≤ (140737488355328 : Int) ∧ ∃ (I : Int → Prop), cnd b (List.length s.2.2 ≤ (9223372036854775807 : Nat) → I (↑(List.length s.2.2) : Int)) (I (↑(List.length s.1) : Int)) ∧ ∀ (x : Int), I x → List.length l ≤ (9223372036854775807 : Nat) → cnd ((↑(List.length l) : Int) != x) (Q (List.replicate (Int.toNat (↑(List.length f) : Int)) (0 : Int), false, ())) (∃ (I : Int → List Int → List Int → Bool → Prop), ∃ (μ : Int → List Int → List Int → Bool → Nat), I (0 : Int) (List.replicate (Int.toNat (↑(List.length f) : Int)) (0 : Int)) ([] : List Int) false ∧ ∀ (x_1 : Int) (x_2 x_3 : List Int) (x_4 : Bool), I x_1 x_2 x_3 x_4 → cnd (decide (x_1 < x)) (∃ (I_1 : Int → Int → List Int → List Int → Bool → Prop), ∃ (μ_1 : Int → Int → List Int → List Int → Bool → Nat), I_1 (0 : Int) (0 : Int) x_2 x_3 x_4 ∧ ∀ (x x_5 : Int) (x_6 x_7 : List Int) (x_8 : Bool), I_1 x x_5 x_6 x_7 x_8 → (0 : Int) ≤ x_1 ∧ x_1 < (↑(List.length l) : Int) ∧ (List.length (List.getD l (Int.toNat x_1) ([] : List Int)) ≤ (9223372036854775807 : Nat) → cnd (decide (x < (↑(List.length (List.getD l (Int.toNat x_1) ([] : List Int))) : Int))) ((0 : Int) ≤ x_1 ∧ x_1 < (↑(List.length l) : Int) ∧ (0 : Int) ≤ x ∧ x < (↑(List.length (List.getD l (Int.toNat x_1) ([] : List Int))) : Int) ∧ ∃ (I : Bool → Prop), cnd (decide (List.getD (List.getD l (Int.toNat x_1) ([] : List Int)) (Int.toNat x) (0 : Int) < (0 : Int))) (I true) (cnd (decide (List.getD (List.getD l (Int.toNat x_1) ([] : List Int)) (Int.toNat x) (0 : Int) ≥ (↑(List.length f) : Int))) (I true) (cnd (decide (x > (0 : Int))) ((0 : Int) ≤ x_1 ∧ x_1 < (↑(List.length l) : Int) ∧ (0 : Int) ≤ IntKind.wrap IntKind.i64 (x - (1 : Int)) ∧ IntKind.wrap IntKind.i64 (x - (1 : Int)) < (↑(List.length (List.getD l (Int.toNat x_1) ([] : List Int))) : Int) ∧ cnd (decide (List.getD (List.getD l (Int.toNat x_1) ([] : List Int)) (Int.toNat x) (0 : Int) < List.getD (List.getD l (Int.toNat x_1) ([] : List Int)) (Int.toNat (IntKind.wrap IntKind.i64 (x - (1 : Int)))) (0 : Int))) (I true) (cnd b ((0 : Int) ≤ List.getD (List.getD l (Int.toNat x_1) ([] : List Int)) (Int.toNat x) (0 : Int) ∧ List.getD (List.getD l (Int.toNat x_1) ([] : List Int)) (Int.toNat x) (0 : Int) < (↑(List.length f) : Int) ∧ (0 : Int) ≤ x_1 ∧ x_1 < (↑(List.length s.2.2) : Int) ∧ I (decide (Prod.snd (Prod.snd (List.getD f (Int.toNat (List.getD (List.getD l (Int.toNat x_1) ([] : List Int)) (Int.toNat x) (0 : Int))) (((0 : Int), (0 : Int)), (0 : Int), (0 : Int)))) > Prod.fst (List.getD s.2.2 (Int.toNat x_1) ((0 : Int), (0 : Int)))))) (I false))) (cnd b ((0 : Int) ≤ List.getD (List.getD l (Int.toNat x_1) ([] : List Int)) (Int.toNat x) (0 : Int) ∧ List.getD (List.getD l (Int.toNat x_1) ([] : List Int)) (Int.toNat x) (0 : Int) < (↑(List.length f) : Int) ∧ (0 : Int) ≤ x_1 ∧ x_1 < (↑(List.length s.2.2) : Int) ∧ I (decide (Prod.snd (Prod.snd (List.getD f (Int.toNat (List.getD (List.getD l (Int.toNat x_1) ([] : List Int)) (Int.toNat x) (0 : Int))) (((0 : Int), (0 : Int)), (0 : Int), (0 : Int)))) > Prod.fst (List.getD s.2.2 (Int.toNat x_1) ((0 : Int), (0 : Int)))))) (I false)))) ∧ ∀ (x_9 : Bool), I x_9 → cnd x_9 (Q (x_6, false, ())) ((0 : Int) ≤ List.getD (List.getD l (Int.toNat x_1) ([] : List Int)) (Int.toNat x) (0 : Int) ∧ List.getD (List.getD l (Int.toNat x_1) ([] : List Int)) (Int.toNat x) (0 : Int) < (↑(List.length x_6) : Int) ∧ (0 : Int) ≤ List.getD (List.getD l (Int.toNat x_1) ([] : List Int)) (Int.toNat x) (0 : Int) ∧ List.getD (List.getD l (Int.toNat x_1) ([] : List Int)) (Int.toNat x) (0 : Int) < (↑(List.length x_6) : Int) ∧ (0 : Int) ≤ List.getD (List.getD l (Int.toNat x_1) ([] : List Int)) (Int.toNat x) (0 : Int) ∧ List.getD (List.getD l (Int.toNat x_1) ([] : List Int)) (Int.toNat x) (0 : Int) < (↑(List.length c) : Int) ∧ cnd (decide (x > (0 : Int))) (∃ (I : Int → Prop), cnd (!b) (I (IntKind.wrap IntKind.i64 (IntKind.wrap IntKind.i64 (x_5 + List.getD c (Int.toNat (List.getD (List.getD l (Int.toNat x_1) ([] : List Int)) (Int.toNat x) (0 : Int))) (0 : Int)) + s.2.1))) (I (IntKind.wrap IntKind.i64 (x_5 + List.getD c (Int.toNat (List.getD (List.getD l (Int.toNat x_1) ([] : List Int)) (Int.toNat x) (0 : Int))) (0 : Int)))) ∧ ∀ (x_10 : Int), I x_10 → I_1 (IntKind.wrap IntKind.i64 (x + (1 : Int))) x_10 (List.set x_6 (Int.toNat (List.getD (List.getD l (Int.toNat x_1) ([] : List Int)) (Int.toNat x) (0 : Int))) (IntKind.wrap IntKind.i64 (List.getD x_6 (Int.toNat (List.getD (List.getD l (Int.toNat x_1) ([] : List Int)) (Int.toNat x) (0 : Int))) (0 : Int) + (1 : Int)))) x_7 x_8 ∧ μ_1 (IntKind.wrap IntKind.i64 (x + (1 : Int))) x_10 (List.set x_6 (Int.toNat (List.getD (List.getD l (Int.toNat x_1) ([] : List Int)) (Int.toNat x) (0 : Int))) (IntKind.wrap IntKind.i64 (List.getD x_6 (Int.toNat (List.getD (List.getD l (Int.toNat x_1) ([] : List Int)) (Int.toNat x) (0 : Int))) (0 : Int) + (1 : Int)))) x_7 x_8 < μ_1 x x_5 x_6 x_7 x_8) (∃ (I : Int → Prop), I (IntKind.wrap IntKind.i64 (x_5 + List.getD c (Int.toNat (List.getD (List.getD l (Int.toNat x_1) ([] : List Int)) (Int.toNat x) (0 : Int))) (0 : Int))) ∧ ∀ (x_10 : Int), I x_10 → I_1 (IntKind.wrap IntKind.i64 (x + (1 : Int))) x_10 (List.set x_6 (Int.toNat (List.getD (List.getD l (Int.toNat x_1) ([] : List Int)) (Int.toNat x) (0 : Int))) (IntKind.wrap IntKind.i64 (List.getD x_6 (Int.toNat (List.getD (List.getD l (Int.toNat x_1) ([] : List Int)) (Int.toNat x) (0 : Int))) (0 : Int) + (1 : Int)))) x_7 x_8 ∧ μ_1 (IntKind.wrap IntKind.i64 (x + (1 : Int))) x_10 (List.set x_6 (Int.toNat (List.getD (List.getD l (Int.toNat x_1) ([] : List Int)) (Int.toNat x) (0 : Int))) (IntKind.wrap IntKind.i64 (List.getD x_6 (Int.toNat (List.getD (List.getD l (Int.toNat x_1) ([] : List Int)) (Int.toNat x) (0 : Int))) (0 : Int) + (1 : Int)))) x_7 x_8 < μ_1 x x_5 x_6 x_7 x_8))) (∃ (I_2 : Bool → Prop), cnd b ((0 : Int) ≤ x_1 ∧ x_1 < (↑(List.length s.2.2) : Int) ∧ cnd (decide (x_5 > Prod.snd (List.getD s.2.2 (Int.toNat x_1) ((0 : Int), (0 : Int))))) (I_2 true) (cnd (!b) ((0 : Int) ≤ x_1 ∧ x_1 < (↑(List.length s.1) : Int) ∧ I_2 (decide (x_5 > List.getD s.1 (Int.toNat x_1) (0 : Int)))) (I_2 false))) (cnd (!b) ((0 : Int) ≤ x_1 ∧ x_1 < (↑(List.length s.1) : Int) ∧ I_2 (decide (x_5 > List.getD s.1 (Int.toNat x_1) (0 : Int)))) (I_2 false)) ∧ ∀ (x : Bool), I_2 x → cnd x (Q (x_6, false, ())) (I (IntKind.wrap IntKind.i64 (x_1 + (1 : Int))) x_6 x_7 x_8 ∧ μ (IntKind.wrap IntKind.i64 (x_1 + (1 : Int))) x_6 x_7 x_8 < μ x_1 x_2 x_3 x_4)))) (Q (x_2, true, ())))
theorem v47 (s : List Int × Int × List (Int × Int)) (f : List Spring) (c : List Int) (l : List (List Int)) (b : Bool) (Q : List Int × Bool × Unit → Prop) : V47 s f c l b Q = vcFunc (S0 [] []) f47_ct.own f47_ct.fresh f47_an Try.f47 (bodyOf Try.f47) f47_ct.A f47_ct.C f47_ct.R (s, f, c, l, b, ()) () Q := by kernel_rfl

def V13 (x : List Int × Int × List (Int × Int) × List FansT) (t : List Int) (Q : Bool → Prop) : Prop := f43_wp (x.1, x.2.1, x.2.2.1, x.2.2.2) () fun (r : (List Int × Int × List (Int × Int)) × List Spring × Unit) ↦ f44_wp (r.1.1, r.1.2.1, r.1.2.2) () fun (r_1 : List Int × Int × List (Int × Int)) ↦ f45_wp r.2.1 () fun (r_2 : List Spring) ↦ f21_wp ((r_1.1, r_1.2.1, r_1.2.2), r_2, ()) () fun (r_3 : List (List Int) × Int × Unit) ↦ f44_wp (r.1.1, r.1.2.1, r.1.2.2) () fun (r_4 : List Int × Int × List (Int × Int)) ↦ f45_wp r.2.1 () fun (r_5 : List Spring) ↦ f29_wp ((r_4.1, r_4.2.1, r_4.2.2), r_5, ()) () fun (r_6 : List (List Int) × Int × Unit) ↦ f44_wp (r.1.1, r.1.2.1, r.1.2.2) () fun (r_7 : List Int × Int × List (Int × Int)) ↦ f45_wp r.2.1 () fun (r_8 : List Spring) ↦ f49_wp ((r_7.1, r_7.2.1, r_7.2.2), r_8, ()) () fun (r_9 : Bool × Bool × Int × Unit) ↦ ∃ (I : Bool → Prop), cnd (r_9.2.2.1 != (0 : Int)) (I true) (cnd (r_3.2.1 != (0 : Int)) (cnd (r_3.2.1 != (9 : Int)) (I true) (cnd (r_6.2.1 != (0 : Int)) (cnd (r_6.2.1 != (9 : Int)) (I true) (cnd (r_3.2.1 == (0 : Int)) (cnd (!r_9.1 == (r_6.2.1 == (0 : Int))) (I true) (cnd r_9.1 (I !r_9.2.1) (I false))) (cnd (!r_9.1 == false) (I true) (cnd r_9.1 (I !r_9.2.1) (I false))))) (cnd (r_3.2.1 == (0 : Int)) (cnd (!r_9.1 == (r_6.2.1 == (0 : Int))) (I true) (cnd r_9.1 (I !r_9.2.1) (I false))) (cnd (!r_9.1 == false) (I true) (cnd r_9.1 (I !r_9.2.1) (I false)))))) (cnd (r_6.2.1 != (0 : Int)) (cnd (r_6.2.1 != (9 : Int)) (I true) (cnd (r_3.2.1 == (0 : Int)) (cnd (!r_9.1 == (r_6.2.1 == (0 : Int))) (I true) (cnd r_9.1 (I !r_9.2.1) (I false))) (cnd (!r_9.1 == false) (I true) (cnd r_9.1 (I !r_9.2.1) (I false))))) (cnd (r_3.2.1 == (0 : Int)) (cnd (!r_9.1 == (r_6.2.1 == (0 : Int))) (I true) (cnd r_9.1 (I !r_9.2.1) (I false))) (cnd (!r_9.1 == false) (I true) (cnd r_9.1 (I !r_9.2.1) (I false)))))) ∧ ∀ (x : Bool), I x → cnd x (Q false) (∃ (I : Int → Prop), ∃ (μ : Int → Nat), I (0 : Int) ∧ ∀ (x : Int), I x → cnd (decide (x < (2 : Int))) (∃ (I_1 : Int → Prop), ∃ (μ_1 : Int → Nat), I_1 (0 : Int) ∧ ∀ (x_1 : Int), I_1 x_1 → cnd (decide (x_1 < (2 : Int))) (∃ (I : List (List Int) → Int → Prop), cnd (x_1 == (1 : Int)) (I r_6.1 r_6.2.1) (I r_3.1 r_3.2.1) ∧ ∀ (x_2 : List (List Int)) (x_3 : Int), I x_2 x_3 → cnd (x_3 != (0 : Int)) (I_1 (IntKind.wrap IntKind.i64 (x_1 + (1 : Int))) ∧ μ_1 (IntKind.wrap IntKind.i64 (x_1 + (1 : Int))) < μ_1 x_1) (f46_wp (r.2.1, ([] : List Int), ()) () fun (r_10 : List Int) ↦ ∃ (I : List Int → Prop), cnd (x == (1 : Int)) ((List.length ((0 : Int) :: ([] : List Int)) + List.length t) * (1 : Nat) ≤ (140737488355328 : Nat) ∧ f46_wp (r.2.1, (0 : Int) :: ([] : List Int) ++ t, ()) () fun (r : List Int) ↦ I r) (I r_10) ∧ ∀ (x : List Int), I x → f47_wp ((r.1.1, r.1.2.1, r.1.2.2), r.2.1, x, x_2, x_1 == (1 : Int), ()) () fun (r_11 : List Int × Bool × Unit) ↦ cnd (!r_11.2.1) (Q false) (∃ (I : Int → Prop), ∃ (μ : Int → Nat), I (0 : Int) ∧ ∀ (x : Int), I x → List.length r.2.1 ≤ (9223372036854775807 : Nat) → cnd (decide (x < (↑(List.length r.2.1) : Int))) ((0 : Int) ≤ x ∧ x < (↑(List.length r_11.1) : Int) ∧ (0 : Int) ≤ x ∧ x < (↑(List.length r.2.1) : Int) ∧ cnd (List.getD r_11.1 (Int.toNat x) (0 : Int) != Prod.fst (Prod.snd (List.getD r.2.1 (Int.toNat x) (((0 : Int), (0 : Int)), (0 : Int), (0 : Int))))) (Q false) (I (IntKind.wrap IntKind.i64 (x + (1 : Int))) ∧ μ (IntKind.wrap IntKind.i64 (x + (1 : Int))) < μ x)) (I_1 (IntKind.wrap IntKind.i64 (x_1 + (1 : Int))) ∧ μ_1 (IntKind.wrap IntKind.i64 (x_1 + (1 : Int))) < μ_1 x_1)))) (I (IntKind.wrap IntKind.i64 (x + (1 : Int))) ∧ μ (IntKind.wrap IntKind.i64 (x + (1 : Int))) < μ x)) (f17_wp () () fun (r : Bool) ↦ Q r))
theorem v13 (x : List Int × Int × List (Int × Int) × List FansT) (t : List Int) (Q : Bool → Prop) : V13 x t Q = vcFunc (S0 [(43, f43_ct), (44, f44_ct), (45, f45_ct), (21, f21_ct), (29, f29_ct), (49, f49_ct), (46, f46_ct), (47, f47_ct), (17, f17_ct)] [1901]) f13_ct.own f13_ct.fresh f13_an Try.f13 (bodyOf Try.f13) f13_ct.A f13_ct.C f13_ct.R (x, t, ()) () Q := by kernel_rfl

end Go.Proofs.Fa
set_option linter.unusedVariables false
namespace Go.Proofs.Fa
open Go Go.GX Go.Proofs

theorem p44 {s : Store} {Q : Store → Prop} (h : f44_wp s () Q) : V44 s Q := by
  obtain ⟨⟨h1, h2⟩, h⟩ := h
  exact ⟨by show (0 + s.1.length) * 8 ≤ _; omega, by show (0 + s.2.2.length) * 16 ≤ _; omega, h⟩
theorem p45 {f : List Spring} {Q : List Spring → Prop} (h : f45_wp f () Q) : V45 f Q := by
  obtain ⟨h1, h⟩ := h
  exact ⟨by show (0 + f.length) * 32 ≤ _; omega, h⟩
theorem modB {b m : Int} (h : byteB b) (hm : 0 < m) : Int.tmod (IntKind.wrap .i64 b) m = b % m := by
  rw [wrapS (by have := h.1; omega) (by have := h.2; omega), Int.tmod_eq_emod_of_nonneg h.1]
theorem p48 {l : List Int} {i : Int} {Q : Int → Prop} (h : f48_wp (l, i, ()) () Q) : V48 l i Q := by
  obtain ⟨⟨h0, h1, hb⟩, h⟩ := h
  have h0 : 0 ≤ i := h0
  have h1 : i ≤ 1000000000 := h1
  have hb : ∀ y, y ∈ l → byteB y := hb
  have h : Q (byteAt l i.toNat) := h
  intro hl
  unfold byteAt at h
  refine cnd_iff.2 ⟨fun g => ?_, fun g _ => ?_⟩
  · have g : (l.length : Int) = 0 := by simpa using g
    rw [if_pos (by omega)] at h; exact h
  have g : ¬ (l.length : Int) = 0 := by simpa using g
  rw [if_neg (by omega)] at h
  have e : Int.tmod i (l.length : Int) = ((i.toNat % l.length : Nat) : Int) := by
    rw [Int.tmod_eq_emod_of_nonneg h0, Int.natCast_emod, Int.toNat_of_nonneg h0]
  have hlt : i.toNat % l.length < l.length := Nat.mod_lt _ (by omega)
  rw [e, Int.toNat_natCast]
  have hm := hb _ (getD_mem (d := 0) hlt)
  refine ⟨g, by omega, by omega, ?_⟩
  rw [wrapS (by have := hm.1; omega) (by have := hm.2; omega)]
  exact h
theorem byteAt_b {l : List Int} (h : ∀ y, y ∈ l → byteB y) (i : Nat) : byteB (byteAt l i) := by
  unfold byteAt
  split
  · exact ⟨by omega, by omega⟩
  · exact h _ (getD_mem (Nat.mod_lt _ (by omega)))
theorem map_range_succ {α : Type} (g : Nat → α) (k : Nat) : (List.range (k + 1)).map g = (List.range k).map g ++ [g k] := by rw [List.range_succ, List.map_append]; rfl
theorem p46 {f : List Spring} {t : List Int} {Q : List Int → Prop} (h : f46_wp (f, t, ()) () Q) : V46 f t Q := by
  obtain ⟨⟨hs, ht, hn⟩, h⟩ := h
  have hs : ∀ s, s ∈ f → 0 ≤ s.1.1 ∧ s.1.1 ≤ s.1.2 ∧ s.1.2 ≤ 1000 := hs
  have ht : ∀ y, y ∈ t → byteB y := ht
  have hn : f.length ≤ 1000 := hn
  refine forUpL (σ := List Int) (n := f.length) (fun k => (List.range k).map (cntO f t)) rfl (fun k hk I μ hI hw => ?_) h
  have hg := hs _ (getD_mem (d := ((0, 0), 0, 0)) hk)
  rw [map_range_succ] at hI
  have hlen : ((List.range k).map (cntO f t)).length = k := by simp
  rw [hw]
  refine ⟨by omega, by omega, fun _ => cnd_iff.2 ⟨fun g => ?_, fun g => ?_⟩⟩
  · have g : (t.length : Int) > 0 := of_decide_eq_true g
    have hb := byteAt_b ht k
    refine ⟨by omega, by omega, _, ⟨⟨by show (0 : Int) ≤ k; omega, by show (k : Int) ≤ 1000000000; omega, ht⟩, rfl⟩, by omega, by omega, by omega, ?_⟩
    show (((List.range k).map (cntO f t)).length + 1) * 8 ≤ _ ∧ I _ (_ ++ [IntKind.wrap .i64 ((f.getD k ((0, 0), 0, 0)).1.1 + IntKind.wrap .i64 (Int.tdiv (IntKind.wrap .i64 (byteAt t k * IntKind.wrap .i64 ((f.getD k ((0, 0), 0, 0)).1.2 - (f.getD k ((0, 0), 0, 0)).1.1))) 255))]) ∧ μ _ (_ ++ [IntKind.wrap .i64 ((f.getD k ((0, 0), 0, 0)).1.1 + IntKind.wrap .i64 (Int.tdiv (IntKind.wrap .i64 (byteAt t k * IntKind.wrap .i64 ((f.getD k ((0, 0), 0, 0)).1.2 - (f.getD k ((0, 0), 0, 0)).1.1))) 255))]) < _
    have m0 : 0 ≤ byteAt t k * ((f.getD k ((0, 0), 0, 0)).1.2 - (f.getD k ((0, 0), 0, 0)).1.1) := Int.mul_nonneg hb.1 (by omega)
    have m1 : byteAt t k * ((f.getD k ((0, 0), 0, 0)).1.2 - (f.getD k ((0, 0), 0, 0)).1.1) ≤ 255 * 1000 := Int.mul_le_mul hb.2 (by omega) (by omega) (by omega)
    rw [wrapS (x := (f.getD k ((0, 0), 0, 0)).1.2 - (f.getD k ((0, 0), 0, 0)).1.1) (by omega) (by omega), wrapS (x := byteAt t k * _) (by omega) (by omega), Int.tdiv_eq_ediv_of_nonneg m0]
    generalize hz : byteAt t k * ((f.getD k ((0, 0), 0, 0)).1.2 - (f.getD k ((0, 0), 0, 0)).1.1) = z at m0 m1
    rw [wrapS (x := z / 255) (by omega) (by omega), wrapS (by omega) (by omega)]
    have e : cntO f t k = (f.getD k ((0, 0), 0, 0)).1.1 + z / 255 := by
      unfold cntO; rw [if_pos (by omega), hz]
    rw [e] at hI
    exact ⟨by omega, hI⟩
  · have g : ¬ (t.length : Int) > 0 := of_decide_eq_false g
    have e : cntO f t k = (f.getD k ((0, 0), 0, 0)).1.2 := by unfold cntO; rw [if_neg (by omega)]
    rw [e] at hI
    exact ⟨by show (((List.range k).map (cntO f t)).length + 1) * 8 ≤ _; omega, hI⟩

theorem take_last {α : Type} {l : List α} {i n : Nat} (hi : i ≤ l.length) (hn : i ≤ n) (h : ¬ (i < l.length ∧ i < n)) : l.take i = l.take n := by
  by_cases h1 : i = n
  · rw [h1]
  · rw [List.take_of_length_le (show l.length ≤ i by omega), List.take_of_length_le (show l.length ≤ n by omega)]
def sprL (v : List By4) (i : Nat) : List Spring := if v.length = 0 then (if i = 0 then [] else [sprO (12, 3, 2, 15)]) else (v.take i).map sprO
theorem p43 {x : Season} {Q : Store × List Spring × Unit → Prop} (h : f43_wp x () Q) : V43 x Q := by
  obtain ⟨ok, h⟩ := h
  have h : Q (seaS x, seaF x, ()) := h
  refine ⟨by omega, ?_⟩
  rw [modB ok.s (by omega)]
  refine ⟨fun i c => ∃ k : Nat, k ≤ x.1.length ∧ k ≤ 5 ∧ i = k ∧ c = ((x.1.take k).map fun b => 10 + b % 90, x.2.1 % 6, []), fun i _ => (5 - i).toNat, ⟨0, by omega, by omega, rfl, rfl⟩, ?_⟩
  rintro i c ⟨k, hk, hk5, rfl, rfl⟩
  refine ⟨fun b => b = decide (k < x.1.length ∧ k < 5), fun _ => cnd_iff.2 ⟨fun g => ?_, fun g => ?_⟩, ?_⟩
  · have g : (k : Int) < x.1.length := of_decide_eq_true g
    show decide ((k : Int) < 5) = _
    rw [decide_eq_decide]; omega
  · have g : ¬ (k : Int) < x.1.length := of_decide_eq_false g
    exact (decide_eq_false (by omega)).symm
  rintro _ rfl
  refine cnd_iff.2 ⟨fun g => ?_, fun g => ?_⟩
  · have g : k < x.1.length ∧ k < 5 := of_decide_eq_true g
    have hb := ok.l _ (getD_mem (d := 0) g.1)
    refine ⟨by omega, by omega, by omega, ?_⟩
    show ((((x.1.take k).map fun b => 10 + b % 90)).length + 1) * 8 ≤ _ ∧ (∃ k' : Nat, k' ≤ x.1.length ∧ k' ≤ 5 ∧ IntKind.wrap .i64 ((k : Int) + 1) = k' ∧ (((x.1.take k).map fun b => 10 + b % 90) ++ [IntKind.wrap .i64 (10 + Int.tmod (IntKind.wrap .i64 (x.1.getD k 0)) 90)], x.2.1 % 6, ([] : List (Int × Int))) = _) ∧ (5 - IntKind.wrap .i64 ((k : Int) + 1)).toNat < (5 - (k : Int)).toNat
    rw [modB hb (by omega), wrapS (x := 10 + _ % 90) (by omega) (by omega), wrapS (x := (k : Int) + 1) (by omega) (by omega)]
    refine ⟨by simp; omega, ⟨k + 1, by omega, by omega, by omega, ?_⟩, by omega⟩
    rw [take_map_succ _ _ g.1 0]
  have g : ¬ (k < x.1.length ∧ k < 5) := of_decide_eq_false g
  rw [take_last hk hk5 g]
  refine ⟨fun i c => ∃ k : Nat, k ≤ x.2.2.1.length ∧ k ≤ 4 ∧ i = k ∧ c = ((x.1.take 5).map fun b => 10 + b % 90, x.2.1 % 6, (x.2.2.1.take k).map fun v => (10 + v.1 % 40, v.2 % 120)), fun i _ => (4 - i).toNat, ⟨0, by omega, by omega, rfl, rfl⟩, ?_⟩
  rintro i c ⟨k2, hk2, hk4, rfl, rfl⟩
  refine ⟨fun b => b = decide (k2 < x.2.2.1.length ∧ k2 < 4), fun _ => cnd_iff.2 ⟨fun g => ?_, fun g => ?_⟩, ?_⟩
  · have g : (k2 : Int) < x.2.2.1.length := of_decide_eq_true g
    show decide ((k2 : Int) < 4) = _
    rw [decide_eq_decide]; omega
  · have g : ¬ (k2 : Int) < x.2.2.1.length := of_decide_eq_false g
    exact (decide_eq_false (by omega)).symm
  rintro _ rfl
  refine cnd_iff.2 ⟨fun g => ?_, fun g2 => ?_⟩
  · have g : k2 < x.2.2.1.length ∧ k2 < 4 := of_decide_eq_true g
    have hb := ok.t _ (getD_mem (d := (0, 0)) g.1)
    refine ⟨by omega, by omega, by omega, by omega, by omega, by omega, ?_⟩
    show ((((x.2.2.1.take k2).map fun v => (10 + v.1 % 40, v.2 % 120))).length + 1) * 16 ≤ _ ∧ (∃ k' : Nat, k' ≤ x.2.2.1.length ∧ k' ≤ 4 ∧ IntKind.wrap .i64 ((k2 : Int) + 1) = k' ∧ (((x.1.take 5).map fun b => 10 + b % 90), x.2.1 % 6, ((x.2.2.1.take k2).map fun v => (10 + v.1 % 40, v.2 % 120)) ++ [(IntKind.wrap .i64 (10 + Int.tmod (IntKind.wrap .i64 (x.2.2.1.getD k2 (0, 0)).1) 40), Int.tmod (IntKind.wrap .i64 (x.2.2.1.getD k2 (0, 0)).2) 120)]) = _) ∧ (4 - IntKind.wrap .i64 ((k2 : Int) + 1)).toNat < (4 - (k2 : Int)).toNat
    rw [modB hb.1 (by omega), modB hb.2 (by omega), wrapS (x := 10 + _ % 40) (by omega) (by omega), wrapS (x := (k2 : Int) + 1) (by omega) (by omega)]
    refine ⟨by simp; omega, ⟨k2 + 1, by omega, by omega, by omega, ?_⟩, by omega⟩
    rw [take_map_succ _ _ g.1 (0, 0)]
  have g2 : ¬ (k2 < x.2.2.1.length ∧ k2 < 4) := of_decide_eq_false g2
  rw [take_last hk2 hk4 g2]
  obtain ⟨vs, hvs⟩ : ∃ vs, vs = x.2.2.2 := ⟨_, rfl⟩
  have okf := ok.f
  rw [← hvs] at okf
  have eF : seaF x = if vs.length = 0 then [sprO (12, 3, 2, 15)] else (vs.take 3).map sprO := by unfold seaF; rw [hvs]
  rw [eF] at h
  rw [← hvs]
  refine ⟨fun i l => ∃ k : Nat, k ≤ 3 ∧ (0 < k → k ≤ 1 ∨ k ≤ vs.length) ∧ i = k ∧ l = sprL vs k, fun i _ => (3 - i).toNat, ⟨0, by omega, by omega, rfl, by unfold sprL; simp⟩, ?_⟩
  rintro i l ⟨k3, hk3, hkk, rfl, rfl⟩
  refine ⟨fun b => b = decide (k3 = 0 ∨ (k3 < vs.length ∧ k3 < 3)), cnd_iff.2 ⟨fun g => ?_, fun g _ => cnd_iff.2 ⟨fun g1 => ?_, fun g1 => ?_⟩⟩, ?_⟩
  · have g : (k3 : Int) = 0 := by simpa using g
    exact (decide_eq_true (.inl (by omega))).symm
  · have g : ¬ (k3 : Int) = 0 := by simpa using g
    have g1 : (k3 : Int) < vs.length := of_decide_eq_true g1
    show decide ((k3 : Int) < 3) = _
    rw [decide_eq_decide]; omega
  · have g : ¬ (k3 : Int) = 0 := by simpa using g
    have g1 : ¬ (k3 : Int) < vs.length := of_decide_eq_false g1
    exact (decide_eq_false (by omega)).symm
  rintro _ rfl
  refine cnd_iff.2 ⟨fun g _ => ?_, fun g => ?_⟩
  · have g : k3 = 0 ∨ (k3 < vs.length ∧ k3 < 3) := of_decide_eq_true g
    refine ⟨fun v => v = if k3 < vs.length then vs.getD k3 (0, 0, 0, 0) else (12, 3, 2, 15), cnd_iff.2 ⟨fun g1 => ?_, fun g1 => ?_⟩, ?_⟩
    · have g1 : (k3 : Int) < vs.length := of_decide_eq_true g1
      exact ⟨by omega, by omega, by rw [if_pos (by omega)]; rfl⟩
    · have g1 : ¬ (k3 : Int) < vs.length := of_decide_eq_false g1
      show (12, 3, 2, 15) = _
      rw [if_neg (by omega)]
    rintro v hv
    have hb : byteB v.1 ∧ byteB v.2.1 ∧ byteB v.2.2.1 ∧ byteB v.2.2.2 := by
      rw [hv]
      split
      · rename_i hh; exact okf _ (getD_mem hh)
      · exact ⟨⟨by decide, by decide⟩, ⟨by decide, by decide⟩, ⟨by decide, by decide⟩, ⟨by decide, by decide⟩⟩
    rw [modB hb.1 (by omega), modB hb.2.1 (by omega), modB hb.2.2.1 (by omega), modB hb.2.2.2 (by omega), wrapS (x := 4 + v.1 % 20) (by omega) (by omega), wrapS (x := 4 + v.1 % 20 + v.2.1 % 6) (by omega) (by omega), wrapS (x := 5 + v.2.2.2 % 35) (by omega) (by omega), wrapS (x := (k3 : Int) + 1) (by omega) (by omega)]
    have hl3 : (sprL vs k3).length ≤ 3 := by
      unfold sprL
      split
      · split <;> simp
      · simp; omega
    refine ⟨by omega, by omega, _, rfl, by omega, by omega, by show ((sprL vs k3).length + 1) * 32 ≤ _; omega, ⟨k3 + 1, ?_, ?_, by omega, ?_⟩, by dsimp only; omega⟩
    · omega
    · intro _; omega
    · show sprL vs k3 ++ [sprO v] = sprL vs (k3 + 1)
      unfold sprL
      by_cases h0 : vs.length = 0
      · rw [if_pos h0, if_pos h0, if_pos (by omega), if_neg (by omega), hv, if_neg (by omega)]; rfl
      · have hlt : k3 < vs.length := by omega
        rw [if_neg h0, if_neg h0, hv, if_pos hlt, take_map_succ _ _ hlt (0, 0, 0, 0)]
  · have g : ¬ (k3 = 0 ∨ (k3 < vs.length ∧ k3 < 3)) := of_decide_eq_false g
    have e : sprL vs k3 = if vs.length = 0 then [sprO (12, 3, 2, 15)] else (vs.take 3).map sprO := by
      unfold sprL
      by_cases h0 : vs.length = 0
      · rw [if_pos h0, if_pos h0, if_neg (by omega)]
      · rw [if_neg h0, if_neg h0, take_last (n := 3) (by omega) hk3 (by omega)]
    rw [e]
    exact h

def cntN (n : Nat) (xs : List Int) : List Int := (List.range n).map fun (i : Nat) => ((xs.count (i : Int) : Nat) : Int)
theorem cntN_len (n : Nat) (xs : List Int) : (cntN n xs).length = n := by simp [cntN]
theorem cntN_get {n : Nat} {xs : List Int} {i : Nat} (hi : i < n) : (cntN n xs).getD i 0 = (xs.count (i : Int) : Nat) := by
  unfold cntN
  rw [List.getD_eq_getElem?_getD, List.getElem?_map, List.getElem?_range hi]
  rfl
theorem cntN_snoc {n : Nat} {xs : List Int} {v : Int} (h0 : 0 ≤ v) (hn : v < n) : (cntN n xs).set v.toNat ((cntN n xs).getD v.toNat 0 + 1) = cntN n (xs ++ [v]) := by
  refine list_ext' 0 (by simp [cntN]) fun j hj => ?_
  have hj : j < n := by simpa [cntN] using hj
  rw [getD_set (by rw [cntN_len]; omega), cntN_get hj, cntN_get hj, cntN_get (by omega), List.count_append]
  have e : ((v.toNat : Nat) : Int) = v := by omega
  by_cases hjv : j = v.toNat
  · subst hjv
    rw [if_pos rfl, e, List.count_singleton]
    simp
  · rw [if_neg hjv, List.count_singleton]
    have : ¬ v = (j : Int) := by omega
    simp [this]
theorem usedO_bnd {seam : Int} {c : List Int} {lots : Bool} {l : List Int} (hc : ∀ x, x ∈ c → 0 ≤ x ∧ x ≤ 1000) (hs : 0 ≤ seam ∧ seam ≤ 1000) : ∀ k : Nat, 0 ≤ usedO seam c lots l k ∧ usedO seam c lots l k ≤ (k : Int) * 2000
  | 0 => ⟨Int.le_refl _, by simp [usedO]⟩
  | k + 1 => by
    have ih := usedO_bnd hc hs (lots := lots) (l := l) k
    have hg : 0 ≤ c.getD (l.getD k 0).toNat 0 ∧ c.getD (l.getD k 0).toNat 0 ≤ 1000 := by
      by_cases hl : (l.getD k 0).toNat < c.length
      · exact hc _ (getD_mem hl)
      · rw [List.getD_eq_getElem?_getD, List.getElem?_eq_none (by omega)]; exact ⟨Int.le_refl _, by show (0 : Int) ≤ 1000; omega⟩
    simp only [usedO]
    push_cast
    split <;> omega
theorem flat_take {l : List (List Int)} {i : Nat} (hi : i < l.length) : (l.take (i + 1)).flatten = (l.take i).flatten ++ l.getD i [] := by
  rw [take_snoc hi [], List.flatten_append]; simp
theorem p47 {s : Store} {f : List Spring} {c : List Int} {l : List (List Int)} {b : Bool} {Q : List Int × Bool × Unit → Prop} (h : f47_wp (s, f, c, l, b, ()) () Q) : V47 s f c l b Q := by
  obtain ⟨⟨⟨hfn, hcl, hc0, hseam, hln, hl30⟩, hmany, hok⟩, h⟩ := h
  have hfn : f.length ≤ 1000 := hfn
  have hcl : c.length = f.length := hcl
  have hc0 : ∀ x, x ∈ c → 0 ≤ x ∧ x ≤ 1000 := hc0
  have hseam : 0 ≤ s.2.1 ∧ s.2.1 ≤ 1000 := hseam
  have hln : l.length ≤ 1000 := hln
  have hl30 : ∀ x, x ∈ l → x.length ≤ 1000 := hl30
  have hmany : l.length = manyO s b := hmany
  have hok : ∀ i, i < l.length → okList s f c b i (l.getD i []) := hok
  have h : Q (cntN f.length l.flatten, true, ()) := h
  refine ⟨rfl, Int.natCast_nonneg _, by omega, fun x => x = (manyO s b : Nat), ?_, ?_⟩
  · cases b
    · exact (rfl : ((s.1.length : Nat) : Int) = _)
    · exact fun _ => (rfl : ((s.2.2.length : Nat) : Int) = _)
  rintro x rfl _
  refine cndN (by rw [hmany]) ?_
  refine ⟨fun x1 x2 _ _ => ∃ i : Nat, i ≤ l.length ∧ x1 = i ∧ x2 = cntN f.length (l.take i).flatten, fun x1 _ _ _ => (l.length - x1).toNat, ⟨0, by omega, rfl, ?_⟩, ?_⟩
  · refine (List.eq_replicate_iff.2 ⟨cntN_len _ _, fun b hb => ?_⟩).symm
    unfold cntN at hb
    obtain ⟨j, _, rfl⟩ := List.mem_map.1 hb
    rfl
  rintro x1 x2 x3 x4 ⟨i, hi, rfl, rfl⟩
  refine cnd_iff.2 ⟨fun g1 => ?_, fun g1 => ?_⟩
  rotate_left
  · have g1 : ¬ (i : Int) < (manyO s b : Nat) := of_decide_eq_false g1
    have : i = l.length := by omega
    rw [this, List.take_length]
    exact h
  have g1 : (i : Int) < (manyO s b : Nat) := of_decide_eq_true g1
  have hil : i < l.length := by omega
  obtain ⟨o1, o2⟩ := hok i hil
  have hL30 := hl30 _ (getD_mem (d := []) hil)
  obtain ⟨L, hL⟩ : ∃ L, L = l.getD i [] := ⟨_, rfl⟩
  rw [← hL] at o1 o2 hL30
  refine ⟨fun y u z _ _ => ∃ k : Nat, k ≤ L.length ∧ y = k ∧ u = usedO s.2.1 c b L k ∧ z = cntN f.length ((l.take i).flatten ++ L.take k), fun y _ _ _ _ => (L.length - y).toNat, ⟨0, by omega, rfl, rfl, by simp⟩, ?_⟩
  rintro y u z z1 z2 ⟨k, hk, rfl, rfl, rfl⟩
  refine ⟨by omega, by omega, ?_⟩
  show (l.getD i []).length ≤ _ → _
  rw [Int.toNat_natCast, ← hL]
  intro _
  have ub := usedO_bnd (l := L) (lots := b) hc0 hseam k
  refine cnd_iff.2 ⟨fun g2 => ?_, fun g2 => ?_⟩
  · have g2 : (k : Int) < L.length := of_decide_eq_true g2
    obtain ⟨⟨e1, e2⟩, e3, e4⟩ := o1 k (by omega)
    have hkN : ((k : Int)).toNat = k := Int.toNat_natCast k
    refine ⟨by omega, by omega, by omega, g2, fun t => t = false, ?_, ?_⟩
    · rw [hkN]
      have lotB : b = true → (decide ((f.getD (L.getD k 0).toNat ((0, 0), 0, 0)).2.2 > (s.2.2.getD i (0, 0)).1)) = false ∧ (i : Int) < s.2.2.length := fun hb => by
        refine ⟨decide_eq_false ?_, ?_⟩
        · have := e4 hb; omega
        · rw [hb] at g1; exact g1
      have tail : cnd b (0 ≤ L.getD k 0 ∧ L.getD k 0 < (f.length : Nat) ∧ (0 : Int) ≤ i ∧ (i : Int) < (s.2.2.length : Nat) ∧ decide ((f.getD (L.getD k 0).toNat ((0, 0), 0, 0)).2.2 > (s.2.2.getD i (0, 0)).1) = false) ((false : Bool) = false) := by
        refine cnd_iff.2 ⟨fun hb => ?_, fun _ => rfl⟩
        obtain ⟨q1, q2⟩ := lotB hb
        exact ⟨e1, e2, by omega, q2, q1⟩
      refine cnd_iff.2 ⟨fun g => ?_, fun _ => cnd_iff.2 ⟨fun g => ?_, fun _ => cnd_iff.2 ⟨fun g => ?_, fun _ => tail⟩⟩⟩
      · have g : L.getD k 0 < 0 := of_decide_eq_true g; omega
      · have g : L.getD k 0 ≥ f.length := of_decide_eq_true g; omega
      · have g : (k : Int) > 0 := of_decide_eq_true g
        have ew : IntKind.wrap .i64 ((k : Int) - 1) = (k : Int) - 1 := wrapS (by omega) (by omega)
        rw [ew]
        have e5 := e3 (by omega)
        refine ⟨by omega, by omega, by omega, by omega, cnd_iff.2 ⟨fun g3 => ?_, fun _ => tail⟩⟩
        have g3 : L.getD k 0 < L.getD ((k : Int) - 1).toNat 0 := of_decide_eq_true g3
        rw [show ((k : Int) - 1).toNat = k - 1 by omega] at g3
        omega
    rintro t rfl
    rw [hkN]
    have hzl : (cntN f.length ((l.take i).flatten ++ L.take k)).length = f.length := cntN_len _ _
    have hcb : 0 ≤ c.getD (L.getD k 0).toNat 0 ∧ c.getD (L.getD k 0).toNat 0 ≤ 1000 := hc0 _ (getD_mem (by omega))
    have hset : (cntN f.length ((l.take i).flatten ++ L.take k)).set (L.getD k 0).toNat (IntKind.wrap .i64 ((cntN f.length ((l.take i).flatten ++ L.take k)).getD (L.getD k 0).toNat 0 + 1)) = cntN f.length ((l.take i).flatten ++ L.take (k + 1)) := by
      have hx : (l.take i).flatten.length ≤ 1000000000 := by
        have : ∀ (m : List (List Int)), (∀ x, x ∈ m → x.length ≤ 1000) → m.flatten.length ≤ m.length * 1000 := by
          intro m
          induction m with
          | nil => intro _; simp
          | cons a m ih =>
            intro hm
            have h1 := ih fun x hx => hm x (by simp [hx])
            have h2 := hm a (by simp)
            simp only [List.flatten_cons, List.length_append, List.length_cons]
            omega
        have h1 := this (l.take i) fun x hx => hl30 x (List.mem_of_mem_take hx)
        have h2 : (l.take i).length ≤ 1000 := by rw [List.length_take]; omega
        omega
      have hcnt : (((l.take i).flatten ++ L.take k).count (((L.getD k 0).toNat : Nat) : Int)) ≤ 1000001000 := by
        have := List.count_le_length (a := (((L.getD k 0).toNat : Nat) : Int)) (l := (l.take i).flatten ++ L.take k)
        rw [List.length_append, List.length_take] at this
        omega
      rw [cntN_get (by omega), wrapS (by omega) (by omega), ← cntN_get (n := f.length) (by omega), cntN_snoc e1 (by omega), List.append_assoc, ← take_snoc (by omega) 0]
    rw [hset]
    have fin : ∀ u, u = usedO s.2.1 c b L (k + 1) → (∃ k' : Nat, k' ≤ L.length ∧ IntKind.wrap .i64 ((k : Int) + 1) = k' ∧ u = usedO s.2.1 c b L k' ∧ cntN f.length ((l.take i).flatten ++ L.take (k + 1)) = cntN f.length ((l.take i).flatten ++ L.take k')) ∧ (L.length - IntKind.wrap .i64 ((k : Int) + 1)).toNat < (L.length - (k : Int)).toNat := fun u hu => by
      rw [wrapS (by omega) (by omega)]
      exact ⟨⟨k + 1, by omega, by omega, hu, rfl⟩, by omega⟩
    have w1 : IntKind.wrap .i64 (usedO s.2.1 c b L k + c.getD (L.getD k 0).toNat 0) = usedO s.2.1 c b L k + c.getD (L.getD k 0).toNat 0 := wrapS (by omega) (by omega)
    have w2 : IntKind.wrap .i64 (usedO s.2.1 c b L k + c.getD (L.getD k 0).toNat 0 + s.2.1) = usedO s.2.1 c b L k + c.getD (L.getD k 0).toNat 0 + s.2.1 := wrapS (by omega) (by omega)
    rw [w1, w2]
    refine ⟨e1, by omega, e1, by omega, e1, by omega, cnd_iff.2 ⟨fun g => ?_, fun g => ?_⟩⟩
    · have g : (k : Int) > 0 := of_decide_eq_true g
      refine ⟨fun u => u = usedO s.2.1 c b L (k + 1), cnd_iff.2 ⟨fun gb => ?_, fun gb => ?_⟩, fun u hu => fin u hu⟩
      · show _ = usedO s.2.1 c b L (k + 1)
        simp only [usedO]
        rw [if_pos (by rw [gb]; simp; omega)]
      · show _ = usedO s.2.1 c b L (k + 1)
        simp only [usedO]
        rw [if_neg (by rw [gb]; simp), Int.add_zero]
    · have g : ¬ (k : Int) > 0 := of_decide_eq_false g
      refine ⟨fun u => u = usedO s.2.1 c b L (k + 1), ?_, fun u hu => fin u hu⟩
      show _ = usedO s.2.1 c b L (k + 1)
      simp only [usedO]
      rw [if_neg (by simp; omega), Int.add_zero]
  · have g2 : ¬ (k : Int) < L.length := of_decide_eq_false g2
    have hk : k = L.length := by omega
    subst hk
    refine ⟨fun t => t = false, ?_, ?_⟩
    · cases b with
      | true =>
        have o2 : usedO s.2.1 c true L L.length ≤ (s.2.2.getD i (0, 0)).2 := o2
        refine cndT ⟨by omega, g1, ?_⟩
        refine cnd_iff.2 ⟨fun g => ?_, fun _ => cndF rfl⟩
        have g : usedO s.2.1 c true L L.length > (s.2.2.getD i (0, 0)).2 := of_decide_eq_true g
        omega
      | false =>
        have o2 : usedO s.2.1 c false L L.length ≤ s.1.getD i 0 := o2
        refine cndF (cndT ⟨by omega, g1, ?_⟩)
        exact decide_eq_false (show ¬ usedO s.2.1 c false L L.length > s.1.getD i 0 by omega)
    rintro t rfl
    refine cndF ⟨⟨i + 1, by omega, ?_, ?_⟩, ?_⟩
    · rw [wrapS (by omega) (by omega)]; omega
    · rw [List.take_length, flat_take hil, hL]
    · show (l.length - IntKind.wrap .i64 ((i : Int) + 1)).toNat < (l.length - (i : Int)).toNat
      rw [wrapS (by omega) (by omega)]; omega
end Go.Proofs.Fa
set_option linter.unusedVariables false
namespace Go.Proofs.Fa
open Go Go.GX Go.Proofs

def sumAt (ss : List FansT) (j : Nat) : Int := (ss.map fun s => at4 s j).sum
abbrev noB : BinT := ((0, 0, 0, 0), (0, 0, 0, 0), 0, 0)
theorem le4_tr {a b c : FansT} (h : le4 a b) (h' : le4 b c) : le4 a c := ⟨⟨h.1.1, Int.le_trans h.1.2 h'.1.2⟩, ⟨h.2.1.1, Int.le_trans h.2.1.2 h'.2.1.2⟩, ⟨h.2.2.1.1, Int.le_trans h.2.2.1.2 h'.2.2.1.2⟩, ⟨h.2.2.2.1, Int.le_trans h.2.2.2.2 h'.2.2.2.2⟩⟩
theorem less_le {f s : FansT} (h : le4 s f) : le4 (GX.Fa.less f s) f := by
  obtain ⟨⟨a1, a2⟩, ⟨b1, b2⟩, ⟨c1, c2⟩, ⟨d1, d2⟩⟩ := h
  refine ⟨⟨?_, ?_⟩, ⟨?_, ?_⟩, ⟨?_, ?_⟩, ⟨?_, ?_⟩⟩ <;> simp only [GX.Fa.less] <;> omega
theorem smR_ok : ∀ {bs : List BinT}, Bins0 bs → ∀ {f : FansT}, F5 f → 0 ≤ tval bs f → ∃ ss : List FansT, smR bs (tval bs f) f = ss.map listF ∧ ss.length = bs.length ∧ (∀ i, i < bs.length → le4 (ss.getD i NO4) f ∧ GX.Fa.fitsB (bs.getD i noB) (ss.getD i NO4) = true) ∧ ∀ j, j < 4 → sumAt ss j = at4 f j
  | [], _, f, hf, h => by
    refine ⟨[], rfl, rfl, fun i hi => absurd hi (Nat.not_lt_zero _), fun j hj => ?_⟩
    have h : 0 ≤ (if GX.Fa.isNo f then (0 : Int) else -1) := h
    cases hn : GX.Fa.isNo f with
    | false => rw [hn] at h; exact absurd h (by decide)
    | true =>
      simp only [GX.Fa.isNo, Bool.and_eq_true, beq_iff_eq] at hn
      match j, hj with
      | 0, _ => exact hn.1.symm
      | 1, _ => exact hn.2.1.symm
      | 2, _ => exact hn.2.2.1.symm
      | 3, _ => exact hn.2.2.2.symm
  | b :: r, hb, f, hf, h0 => by
    obtain ⟨b1, b2, b3⟩ := hb.cons
    obtain ⟨s0, hle0, hok0⟩ : ∃ s, le4 s f ∧ smOK b r (tval (b :: r) f) f (listF s) = true := by
      have e : tval (b :: r) f = lstR b (tval r) f := rfl
      rcases lstR_spec (b := b) (rest := tval r) hf with ⟨v, hno⟩ | ⟨s, hle, ht, hc, v, hmin⟩
      · rw [e, v] at h0; omega
      · refine ⟨s, hle, ?_⟩
        unfold smOK
        rw [numF_list (le4_F5 hle hf).1.fok, decide_eq_true hc, decide_eq_true ht, e, v]
        simp
    simp only [smR]
    cases hfd : (allL f).find? (smOK b r (tval (b :: r) f) f) with
    | none =>
      have := List.find?_eq_none.1 hfd (listF s0) ((allL_mem hf).2 ⟨s0, hle0, rfl⟩)
      exact absurd hok0 this
    | some l =>
      have q1 := List.find?_some hfd
      obtain ⟨s, hle, rfl⟩ := (allL_mem hf).1 (List.mem_of_find?_eq_some hfd)
      have hsf := le4_F5 hle hf
      simp only
      unfold smOK at q1
      rw [numF_list hsf.1.fok] at q1 ⊢
      simp only [Bool.and_eq_true, decide_eq_true_eq] at q1
      obtain ⟨⟨c1, c2⟩, c3⟩ := q1
      have hfit := (cost_fit (b2 s hsf.1)).1 c1
      have e3 : tval (b :: r) f - costF b s = tval r (GX.Fa.less f s) := by omega
      obtain ⟨ss, g1, g2, g3, g4⟩ := smR_ok b3 hsf.2 c2
      refine ⟨s :: ss, by rw [e3, g1]; rfl, by simp [g2], fun i hi => ?_, fun j hj => ?_⟩
      · cases i with
        | zero => exact ⟨hle, hfit⟩
        | succ i =>
          obtain ⟨k1, k2⟩ := g3 i (by simpa using hi)
          exact ⟨le4_tr k1 (less_le hle), k2⟩
      · have := g4 j hj
        rw [at4_less _ _ hj] at this
        show at4 s j + sumAt ss j = at4 f j
        omega
theorem sum_rep (n : Nat) (x : Int) : (List.replicate n x).sum = n * x := by
  induction n with
  | zero => simp
  | succ n ih => rw [List.replicate_succ, List.sum_cons, ih]; push_cast; rw [Int.add_mul]; omega
theorem listF_sum {s : FansT} (hs : F5 s) (g : Int → Int) : ((listF s).map g).sum = at4 s 0 * g 0 + at4 s 1 * g 1 + at4 s 2 * g 2 + at4 s 3 * g 3 := by
  obtain ⟨⟨a1, a2⟩, ⟨b1, b2⟩, ⟨c1, c2⟩, ⟨d1, d2⟩⟩ := hs
  unfold listF
  simp only [List.map_append, List.sum_append, List.map_replicate, sum_rep]
  rw [Int.toNat_of_nonneg a1, Int.toNat_of_nonneg b1, Int.toNat_of_nonneg c1, Int.toNat_of_nonneg d1]
  rfl
theorem listF_len {s : FansT} (hs : F5 s) : ((listF s).length : Int) = sumF s := by
  have := num_sum (listF_in4 s)
  rw [numF_list hs.fok] at this
  exact this.symm
theorem usedO_sum (seam : Int) (c : List Int) (lots : Bool) (L : List Int) : ∀ k : Nat, k ≤ L.length → usedO seam c lots L k = ((L.take k).map fun v => c.getD v.toNat 0).sum + (if lots then 0 else if k = 0 then 0 else ((k : Int) - 1) * seam)
  | 0, _ => by cases lots <;> simp [usedO]
  | k + 1, h => by
    rw [take_snoc (by omega) 0, List.map_append, List.sum_append]
    simp only [usedO]
    rw [usedO_sum seam c lots L k (by omega)]
    simp only [List.map_cons, List.map_nil, List.sum_cons, List.sum_nil, Int.add_zero]
    cases lots with
    | true => simp
    | false =>
      by_cases hk : k = 0
      · subst hk; simp
      · have h1 : (if decide (k > 0) && !false then seam else 0) = seam := if_pos (by simp; omega)
        have h2 : (if (false = true) then (0 : Int) else if k = 0 then 0 else ((k : Int) - 1) * seam) = ((k : Int) - 1) * seam := by rw [if_neg (by simp), if_neg hk]
        have h3 : (if (false = true) then (0 : Int) else if k + 1 = 0 then 0 else (((k + 1 : Nat) : Int) - 1) * seam) = (((k + 1 : Nat) : Int) - 1) * seam := by rw [if_neg (by simp), if_neg (Nat.succ_ne_zero k)]
        rw [h1, h2, h3]
        have e : ((((k + 1 : Nat) : Int)) - 1) * seam = ((k : Int) - 1) * seam + seam := by
          rw [show (((k + 1 : Nat) : Int)) - 1 = ((k : Int) - 1) + 1 by omega, Int.add_mul, Int.one_mul]
        rw [e]; omega
theorem listF_mem {s : FansT} {v : Int} (h : v ∈ listF s) : 0 ≤ v ∧ v < 4 ∧ 1 ≤ at4 s v.toNat := by
  simp only [listF, List.mem_append, List.mem_replicate] at h
  rcases h with ((⟨h, rfl⟩ | ⟨h, rfl⟩) | ⟨h, rfl⟩) | ⟨h, rfl⟩
  · refine ⟨by omega, by omega, ?_⟩; show 1 ≤ s.1; omega
  · refine ⟨by omega, by omega, ?_⟩; show 1 ≤ s.2.1; omega
  · refine ⟨by omega, by omega, ?_⟩; show 1 ≤ s.2.2.1; omega
  · refine ⟨by omega, by omega, ?_⟩; show 1 ≤ s.2.2.2; omega

structure CntOK (f : List Spring) (c : List Int) : Prop where
  n : c.length = f.length
  b : ∀ j, j < f.length → 0 ≤ c.getD j 0 ∧ c.getD j 0 ≤ (f.getD j ((0, 0), 0, 0)).1.2
theorem cntle {f : List Spring} {c : List Int} (hc : CntOK f c) {s : FansT} (h5 : F5 s) (hs : supp f.length s) {T : Nat → Int} (hT : ∀ j, j < f.length → (f.getD j ((0, 0), 0, 0)).1.2 ≤ T j ∨ at4 s j = 0) : ((listF s).map fun v => c.getD v.toNat 0).sum ≤ GX.Fa.dot s (tup4 T) := by
  rw [listF_sum h5, dot_at]
  have key : ∀ j, j < 4 → at4 s j * c.getD ((j : Int)).toNat 0 ≤ at4 s j * at4 (tup4 T) j := fun j hj => by
    rw [at4_tup _ hj, Int.toNat_natCast]
    by_cases hn : j < f.length
    · rcases hT j hn with h | h
      · exact Int.mul_le_mul_of_nonneg_left (by have := hc.b j hn; omega) (h5.at0 j hj)
      · rw [h, Int.zero_mul, Int.zero_mul]; exact Int.le_refl _
    · rw [hs j hj (by omega), Int.zero_mul, Int.zero_mul]; exact Int.le_refl _
  have k0 := key 0 (by omega)
  have k1 := key 1 (by omega)
  have k2 := key 2 (by omega)
  have k3 := key 3 (by omega)
  have e0 : c.getD (Int.toNat 0) 0 = c.getD (((0 : Nat) : Int)).toNat 0 := rfl
  have e1 : c.getD (Int.toNat 1) 0 = c.getD (((1 : Nat) : Int)).toNat 0 := rfl
  have e2 : c.getD (Int.toNat 2) 0 = c.getD (((2 : Nat) : Int)).toNat 0 := rfl
  have e3 : c.getD (Int.toNat 3) 0 = c.getD (((3 : Nat) : Int)).toNat 0 := rfl
  rw [e0, e1, e2, e3]
  omega
theorem okOne_list {s : Store} {f : List Spring} {lots : Bool} {i : Nat} {t : FansT} (hs : supp f.length t) (hw : lots = true → ∀ j, j < f.length → 1 ≤ at4 t j → (f.getD j ((0, 0), 0, 0)).2.2 ≤ (s.2.2.getD i (0, 0)).1) {k : Nat} (hk : k < (listF t).length) : okOne s f lots i (listF t) k := by
  obtain ⟨m1, m2, m3⟩ := listF_mem (getD_mem (d := 0) hk)
  have hn : ((listF t).getD k 0).toNat < f.length := by
    by_cases h : ((listF t).getD k 0).toNat < f.length
    · exact h
    · have := hs ((listF t).getD k 0).toNat (by omega) (by omega)
      omega
  refine ⟨⟨m1, by omega⟩, fun h0 => ?_, fun hl => hw hl _ hn m3⟩
  have := (List.pairwise_iff_getElem.1 (listF_asc t)) (k - 1) k (by omega) hk (by omega)
  rw [getD_lt hk, getD_lt (by omega)]
  exact this
theorem leaf_list {s : Store} {f : List Spring} (v : VOK s f) {c : List Int} (hc : CntOK f c) {i : Nat} (hi : i < s.1.length) {t : FansT} (h5 : F5 t) (hs : supp f.length t) {e fi : Int} (hfit : GX.Fa.fitsB ((Fa.lvR s (cH f) e fi).getD i noB) t = true) : okList s f c false i (listF t) := by
  refine ⟨fun k hk => okOne_list hs (fun h => by cases h) hk, ?_⟩
  have hg : (Fa.lvR s (cH f) e fi).getD i noB = (tup4 fun j => at4 (cH f) j + s.2.1, tup4 fun _ => e, s.1.getD i 0 + s.2.1, fi) := by
    unfold Fa.lvR leavesR
    rw [List.getD_eq_getElem?_getD, List.getElem?_map, List.getElem?_eq_getElem hi, getD_lt hi]; rfl
  rw [hg] at hfit
  have hfit : GX.Fa.dot t (tup4 fun j => at4 (cH f) j + s.2.1) ≤ s.1.getD i 0 + s.2.1 := of_decide_eq_true hfit
  show usedO s.2.1 c false (listF t) (listF t).length ≤ s.1.getD i 0
  rw [usedO_sum _ _ _ _ _ (Nat.le_refl _), List.take_length]
  have hlv := v.lv _ (getD_mem (d := 0) hi)
  have hle := cntle hc h5 hs (T := fun j => at4 (cH f) j) (fun j hj => .inl (by rw [cH_at (by have := v.f4; omega), if_pos hj]; exact Int.le_refl _))
  have hd : GX.Fa.dot t (tup4 fun j => at4 (cH f) j + s.2.1) = GX.Fa.dot t (tup4 fun j => at4 (cH f) j) + sumF t * s.2.1 := by
    have hmul : ∀ a b c : Int, a * (b + c) = a * b + a * c := Int.mul_add
    rw [dot_at, dot_at, sumF_at, Int.add_mul, Int.add_mul, Int.add_mul]
    rw [at4_tup _ (show 0 < 4 by omega), at4_tup _ (show 1 < 4 by omega), at4_tup _ (show 2 < 4 by omega), at4_tup _ (show 3 < 4 by omega), at4_tup _ (show 0 < 4 by omega), at4_tup _ (show 1 < 4 by omega), at4_tup _ (show 2 < 4 by omega), at4_tup _ (show 3 < 4 by omega)]
    rw [hmul, hmul, hmul, hmul]
    omega
  have hlen := listF_len h5
  rw [if_neg (by simp)]
  by_cases h0 : (listF t).length = 0
  · rw [if_pos h0]
    have : listF t = [] := List.length_eq_zero_iff.1 h0
    rw [this]
    show (0 : Int) + 0 ≤ _
    omega
  · rw [if_neg h0, hlen, Int.sub_mul, Int.one_mul]
    omega
theorem lot_list {s : Store} {f : List Spring} (v : VOK s f) {c : List Int} (hc : CntOK f c) {i : Nat} (hi : i < s.2.2.length) {t : FansT} (h5 : F5 t) (hs : supp f.length t) (hfit : GX.Fa.fitsB ((Fa.ltR s f (cH f)).getD i noB) t = true) : okList s f c true i (listF t) := by
  have hg : (Fa.ltR s f (cH f)).getD i noB = lotR f (cH f) (s.2.2.getD i (0, 0)) := by
    unfold Fa.ltR lotsR
    rw [List.getD_eq_getElem?_getD, List.getElem?_map, List.getElem?_eq_getElem hi, getD_lt hi]; rfl
  rw [hg] at hfit
  obtain ⟨l, hl⟩ : ∃ l, l = s.2.2.getD i (0, 0) := ⟨_, rfl⟩
  have hlt := v.lt _ (getD_mem (d := (0, 0)) hi)
  rw [← hl] at hfit hlt
  obtain ⟨T, hT⟩ : ∃ T : Nat → Int, T = fun j => if j < f.length then (if (f.getD j ((0, 0), 0, 0)).2.2 > l.1 then 1000 else at4 (cH f) j) else 0 := ⟨_, rfl⟩
  have hfit : GX.Fa.dot t (tup4 T) ≤ l.2 := by rw [hT]; exact of_decide_eq_true hfit
  have hT0 : ∀ j, j < 4 → 0 ≤ T j := fun j hj => by
    rw [hT]
    show 0 ≤ if j < f.length then _ else _
    split
    · split
      · omega
      · exact (all4_at v.cH hj).1
    · omega
  have hw : ∀ j, j < f.length → 1 ≤ at4 t j → (f.getD j ((0, 0), 0, 0)).2.2 ≤ l.1 := fun j hj h1 => by
    by_cases hgt : (f.getD j ((0, 0), 0, 0)).2.2 > l.1
    · have h := dot_ge (s := t) h5.at0 hT0 (show j < 4 by have := v.f4; omega)
      have e : T j = 1000 := by rw [hT]; show (if j < f.length then _ else _) = _; rw [if_pos hj, if_pos hgt]
      rw [e] at h
      omega
    · omega
  refine ⟨fun k hk => okOne_list hs (fun _ => by rw [← hl]; exact hw) hk, ?_⟩
  show usedO s.2.1 c true (listF t) (listF t).length ≤ (s.2.2.getD i (0, 0)).2
  rw [usedO_sum _ _ _ _ _ (Nat.le_refl _), List.take_length, if_pos rfl, Int.add_zero, ← hl]
  have hle := cntle hc h5 hs (T := T) (fun j hj => by
    by_cases h0 : at4 t j = 0
    · exact .inr h0
    · refine .inl ?_
      have hj4 : j < 4 := by have := v.f4; omega
      have := hw j hj (by have := h5.at0 j hj4; omega)
      have e : T j = at4 (cH f) j := by rw [hT]; show (if j < f.length then _ else _) = _; rw [if_pos hj, if_neg (by omega)]
      rw [e, cH_at hj4, if_pos hj]; exact Int.le_refl _)
  omega
theorem flat_count {ss : List FansT} (h : ∀ s, s ∈ ss → F5 s) {j : Nat} (hj : j < 4) : (((ss.map listF).flatten.count (j : Int) : Nat) : Int) = sumAt ss j := by
  induction ss with
  | nil => rfl
  | cons s ss ih =>
    have ih := ih fun x hx => h x (by simp [hx])
    have h5 := h s (by simp)
    have e := num_at (listF_in4 s) hj
    rw [numF_list h5.fok] at e
    rw [List.map_cons, List.flatten_cons, List.count_append]
    push_cast
    rw [ih, ← e]
    rfl

theorem lists_fine {s : Store} {f : List Spring} (v : VOK s f) {bs : List BinT} (hb : Bins0 bs) (h0 : 0 ≤ tval bs (wantF f)) {lots : Bool} (hn : bs.length = manyO s lots) {c : List Int}
    (hone : ∀ i, i < bs.length → ∀ t, F5 t → supp f.length t → GX.Fa.fitsB (bs.getD i noB) t = true → okList s f c lots i (listF t)) :
    okLists s f c (smR bs (tval bs (wantF f)) (wantF f)) lots ∧ fansO f (smR bs (tval bs (wantF f)) (wantF f)) = f.map (fun x => x.2.1) ∧ ∀ l, l ∈ smR bs (tval bs (wantF f)) (wantF f) → l.length ≤ 1000 := by
  have hw : F5 (wantF f) := v.want4
  obtain ⟨ss, g1, g2, g3, g4⟩ := smR_ok hb hw h0
  rw [g1]
  have h5 : ∀ s, s ∈ ss → F5 s := fun s hs => by
    obtain ⟨j, hj, rfl⟩ := List.mem_iff_getElem.1 hs
    have := (g3 j (by omega)).1
    rw [getD_lt hj] at this
    exact (le4_F5 this hw).1
  refine ⟨⟨by rw [List.length_map, g2, hn], fun i hi => ?_⟩, ?_, fun l hl => ?_⟩
  · have hi : i < ss.length := by simpa using hi
    have e : (ss.map listF).getD i [] = listF (ss.getD i NO4) := by
      rw [List.getD_eq_getElem?_getD, List.getElem?_map, List.getElem?_eq_getElem hi, getD_lt hi]; rfl
    rw [e]
    obtain ⟨k1, k2⟩ := g3 i (by omega)
    exact hone i (by omega) _ (le4_F5 k1 hw).1 ((want_supp f).le k1).1 k2
  · refine list_ext' 0 (by simp [fansO]) fun j hj => ?_
    have hj : j < f.length := by simpa [fansO] using hj
    have hj4 : j < 4 := by have := v.f4; omega
    have e1 : (fansO f (ss.map listF)).getD j 0 = (((ss.map listF).flatten.count (j : Int) : Nat) : Int) := cntN_get hj
    rw [e1, flat_count h5 hj4, g4 j hj4, want_at hj4, if_pos hj]
    rw [List.getD_eq_getElem?_getD (l := f.map _), List.getElem?_map, List.getElem?_eq_getElem hj, getD_lt hj]
    rfl
  · obtain ⟨t, ht, rfl⟩ := List.mem_map.1 hl
    have h6 := h5 t ht
    have := listF_len h6
    obtain ⟨⟨a1, a2⟩, ⟨b1, b2⟩, ⟨c1, c2⟩, ⟨d1, d2⟩⟩ := h6
    unfold sumF at this
    omega

theorem can_mono : ∀ {bs bs' : List BinT}, Bins0 bs → Bins0 bs' → bs.length = bs'.length → (∀ i, i < bs.length → ∀ s, F5 s → GX.Fa.fitsB (bs.getD i noB) s = true → GX.Fa.fitsB (bs'.getD i noB) s = true) → ∀ {f : FansT}, F5 f → 0 ≤ tval bs f → 0 ≤ tval bs' f
  | [], [], _, _, _, _, f, _, h => h
  | [], _ :: _, _, _, h, _, _, _, _ => by simp at h
  | _ :: _, [], _, _, h, _, _, _, _ => by simp at h
  | b :: r, b' :: r', hb, hb', hl, hh, f, hf, h => by
    obtain ⟨_, x2, x3⟩ := hb.cons
    obtain ⟨_, y2, y3⟩ := hb'.cons
    rw [can_cons hf] at h ⊢
    obtain ⟨s, hle, ht, hc⟩ := h
    have h5 := le4_F5 hle hf
    refine ⟨s, hle, can_mono x3 y3 (by simpa using hl) (fun i hi => hh (i + 1) (by simp; omega)) h5.2 ht, ?_⟩
    exact (cost_fit (y2 s h5.1)).2 (hh 0 (by simp) s h5.1 ((cost_fit (x2 s h5.1)).1 hc))
theorem dot_mono {s : FansT} (h5 : F5 s) {g g' : Nat → Int} (h : ∀ i, i < 4 → g i ≤ g' i) : GX.Fa.dot s (tup4 g) ≤ GX.Fa.dot s (tup4 g') := by
  have key : ∀ i, i < 4 → at4 s i * at4 (tup4 g) i ≤ at4 s i * at4 (tup4 g') i := fun i hi => by
    rw [at4_tup _ hi, at4_tup _ hi]
    exact Int.mul_le_mul_of_nonneg_left (h i hi) (h5.at0 i hi)
  rw [dot_at, dot_at]
  have k0 := key 0 (by omega)
  have k1 := key 1 (by omega)
  have k2 := key 2 (by omega)
  have k3 := key 3 (by omega)
  omega
theorem leaves_get {ls : List Int} {seam : Int} {c : FansT} {e fi : Int} {i : Nat} (hi : i < ls.length) : (leavesR ls seam c e fi).getD i noB = (tup4 fun j => at4 c j + seam, tup4 fun _ => e, ls.getD i 0 + seam, fi) := by
  unfold leavesR
  rw [List.getD_eq_getElem?_getD, List.getElem?_map, List.getElem?_eq_getElem hi, getD_lt hi]; rfl
theorem lots_get {ls : List Lot} {f : List Spring} {c : FansT} {i : Nat} (hi : i < ls.length) : (lotsR ls f c).getD i noB = lotR f c (ls.getD i (0, 0)) := by
  unfold lotsR
  rw [List.getD_eq_getElem?_getD, List.getElem?_map, List.getElem?_eq_getElem hi, getD_lt hi]; rfl
theorem VOK.lv1 {s : Store} {f : List Spring} (v : VOK s f) {c : FansT} (hc : all4 (fun x => 0 ≤ x ∧ x ≤ 40) c) : Bins0 (Fa.lvR s c 0 1) :=
  leavesR_ok (by have := v.n6; omega) v.lv4 v.sm4 (cnt400 hc) ⟨by omega, by omega⟩ ⟨by omega, by omega⟩ (by omega) (by omega)
theorem lv_iff {s : Store} {f : List Spring} (v : VOK s f) {n : FansT} (hn : F5 n) : 0 ≤ tval (Fa.lvR s (cH f) 0 1) n ↔ 0 ≤ tval (Fa.lvR s (cH f) 0 0) n := by
  have l1 : (Fa.lvR s (cH f) 0 1).length = s.1.length := by simp [Fa.lvR, leavesR]
  have l0 : (Fa.lvR s (cH f) 0 0).length = s.1.length := by simp [Fa.lvR, leavesR]
  constructor
  · refine can_mono (v.lv1 v.cH) (v.lvR v.cH) (by rw [l1, l0]) (fun i hi t ht h => ?_) hn
    unfold Fa.lvR at h ⊢
    rw [leaves_get (by omega)] at h ⊢
    exact h
  · refine can_mono (v.lvR v.cH) (v.lv1 v.cH) (by rw [l1, l0]) (fun i hi t ht h => ?_) hn
    unfold Fa.lvR at h ⊢
    rw [leaves_get (by omega)] at h ⊢
    exact h
theorem cL_le {s : Store} {f : List Spring} (v : VOK s f) {i : Nat} (hi : i < 4) : at4 (cL f) i ≤ at4 (cH f) i := by
  have e : at4 (cL f) i = if i < f.length then (f.getD i ((0, 0), 0, 0)).1.1 else 0 := at4_tup _ hi
  rw [e, cH_at hi]
  split
  · rename_i h; exact (v.getS h).1.2.1
  · exact Int.le_refl _
theorem en_low {s : Store} {f : List Spring} (v : VOK s f) {n : FansT} (hn : F5 n) (h : enR s f (cH f) n = true) : enR s f (cL f) n = true := by
  unfold enR at h ⊢
  simp only [Bool.and_eq_true, decide_eq_true_eq] at h ⊢
  refine ⟨can_mono (v.lvR v.cH) (v.lvR v.cL) (by simp [Fa.lvR, leavesR]) (fun i hi t ht hf => ?_) hn h.1, can_mono (v.ltR v.cH) (v.ltR v.cL) (by simp [Fa.ltR, lotsR]) (fun i hi t ht hf => ?_) hn h.2⟩
  · have hi : i < s.1.length := by simpa [Fa.lvR, leavesR] using hi
    unfold Fa.lvR at hf ⊢
    rw [leaves_get hi] at hf ⊢
    have hf : GX.Fa.dot t (tup4 fun j => at4 (cH f) j + s.2.1) ≤ s.1.getD i 0 + s.2.1 := of_decide_eq_true hf
    have := dot_mono ht (g := fun j => at4 (cL f) j + s.2.1) (g' := fun j => at4 (cH f) j + s.2.1) (fun j hj => by have := cL_le v hj; omega)
    exact decide_eq_true (Int.le_trans this hf)
  · have hi : i < s.2.2.length := by simpa [Fa.ltR, lotsR] using hi
    unfold Fa.ltR at hf ⊢
    rw [lots_get hi] at hf ⊢
    have hf := of_decide_eq_true hf
    refine decide_eq_true (Int.le_trans (dot_mono ht fun j hj => ?_) hf)
    have := cL_le v hj
    split
    · split
      · exact Int.le_refl _
      · exact this
    · exact Int.le_refl _
end Go.Proofs.Fa
set_option linter.unusedVariables false
namespace Go.Proofs.Fa
open Go Go.GX Go.Proofs

theorem mod_b {x m : Int} (hm : 0 < m) : 0 ≤ x % m ∧ x % m < m := ⟨Int.emod_nonneg _ (by omega), Int.emod_lt_of_pos _ hm⟩
theorem spr_ok (v : By4) : isSprF (sprO v) = true := by
  have a := mod_b (x := v.1) (m := 20) (by omega)
  have b := mod_b (x := v.2.1) (m := 6) (by omega)
  have c := mod_b (x := v.2.2.1) (m := 5) (by omega)
  have d := mod_b (x := v.2.2.2) (m := 35) (by omega)
  unfold isSprF sprO
  simp only [Bool.and_eq_true, decide_eq_true_eq, inB_iff]
  omega
theorem seaF_mem {x : Season} {s : Spring} (h : s ∈ seaF x) : isSprF s = true := by
  unfold seaF at h
  split at h
  · rw [List.mem_singleton] at h; subst h; exact spr_ok _
  · obtain ⟨v, _, rfl⟩ := List.mem_map.1 h; exact spr_ok _
theorem seaF_len (x : Season) : 1 ≤ (seaF x).length ∧ (seaF x).length ≤ 3 := by
  unfold seaF
  split
  · simp
  · simp; omega
theorem sea_ok (x : Season) : checkF (seaS x) (seaF x) = 0 := by
  have hl := seaF_len x
  have h1 : (seaS x).1.length ≤ 5 := by simp [seaS]; omega
  have h2 : (seaS x).2.2.length ≤ 4 := by simp [seaS]; omega
  have a1 : (seaS x).1.all (inB 1 200) = true := by
    rw [List.all_eq_true]
    intro y hy
    obtain ⟨b, _, rfl⟩ := List.mem_map.1 hy
    have := mod_b (x := b) (m := 90) (by omega)
    rw [inB_iff]; omega
  have a2 : inB 0 10 (seaS x).2.1 = true := by
    have := mod_b (x := x.2.1) (m := 6) (by omega)
    rw [inB_iff]
    show 0 ≤ x.2.1 % 6 ∧ x.2.1 % 6 ≤ 10
    omega
  have a3 : (seaS x).2.2.all isLotF = true := by
    rw [List.all_eq_true]
    intro y hy
    obtain ⟨b, _, rfl⟩ := List.mem_map.1 hy
    have h1 := mod_b (x := b.1) (m := 40) (by omega)
    have h2 := mod_b (x := b.2) (m := 120) (by omega)
    unfold isLotF
    simp only [Bool.and_eq_true, inB_iff]
    omega
  unfold checkF
  rw [if_neg (by omega), if_neg (by rw [a1, a2, a3]; simp), if_neg (by rw [show inB 1 4 ((seaF x).length : Int) = true from inB_iff.2 (by omega)]; simp), if_neg]
  rw [show (seaF x).all isSprF = true from List.all_eq_true.2 fun s hs => seaF_mem hs]
  simp
theorem cnt_ok {s : Store} {f : List Spring} (v : VOK s f) {t : List Int} (ht : ∀ y, y ∈ t → byteB y) : CntOK f ((List.range f.length).map (cntO f t)) where
  n := by simp
  b := fun j hj => by
    have e : ((List.range f.length).map (cntO f t)).getD j 0 = cntO f t j := by
      rw [List.getD_eq_getElem?_getD, List.getElem?_map, List.getElem?_range hj]; rfl
    have hs := v.getS hj
    rw [e]
    unfold cntO
    split
    · have hb := byteAt_b ht j
      obtain ⟨lo, hlo⟩ : ∃ lo, lo = (f.getD j ((0, 0), 0, 0)).1.1 := ⟨_, rfl⟩
      obtain ⟨hi, hhi⟩ : ∃ hi, hi = (f.getD j ((0, 0), 0, 0)).1.2 := ⟨_, rfl⟩
      rw [← hlo, ← hhi] at hs ⊢
      have m0 : 0 ≤ byteAt t j * (hi - lo) := Int.mul_nonneg hb.1 (by omega)
      have m1 : byteAt t j * (hi - lo) ≤ 255 * (hi - lo) := Int.mul_le_mul_of_nonneg_right hb.2 (by omega)
      generalize byteAt t j * (hi - lo) = z at m0 m1
      omega
    · omega
theorem cut_leaves {s : Store} {f : List Spring} (v : VOK s f) (hc : checkF s f = 0) {c : List Int} (hcn : CntOK f c) (h0 : (resLeaves s f).2 = 0) : okLists s f c (resLeaves s f).1 false ∧ fansO f (resLeaves s f).1 = f.map (fun x => x.2.1) ∧ ∀ l, l ∈ (resLeaves s f).1 → l.length ≤ 1000 := by
  have e : resLeaves s f = if (smallR (Fa.lvR s (cH f) 0 1) (wantF f)).2 then ((smallR (Fa.lvR s (cH f) 0 1) (wantF f)).1, 0) else ([], 9) := by
    unfold resLeaves
    rw [if_neg (by simp [hc])]
    exact small_eq v.lva (v.lv1 v.cH) v.want4 (want_supp f)
  rw [e] at h0 ⊢
  by_cases ht : tval (Fa.lvR s (cH f) 0 1) (wantF f) < 0
  · have : smallR (Fa.lvR s (cH f) 0 1) (wantF f) = ([], false) := by unfold smallR; rw [if_pos ht]
    rw [this] at h0; cases h0
  · have : smallR (Fa.lvR s (cH f) 0 1) (wantF f) = (smR (Fa.lvR s (cH f) 0 1) (tval (Fa.lvR s (cH f) 0 1) (wantF f)) (wantF f), true) := by unfold smallR; rw [if_neg ht]
    rw [this]
    have hl : (Fa.lvR s (cH f) 0 1).length = s.1.length := by simp [Fa.lvR, leavesR]
    exact lists_fine (lots := false) v (v.lv1 v.cH) (by omega) hl fun i hi t h5 hs hf => leaf_list v hcn (by omega) h5 hs hf
theorem cut_lots {s : Store} {f : List Spring} (v : VOK s f) (hc : checkF s f = 0) {c : List Int} (hcn : CntOK f c) (h0 : (resLots s f).2 = 0) : okLists s f c (resLots s f).1 true ∧ fansO f (resLots s f).1 = f.map (fun x => x.2.1) ∧ ∀ l, l ∈ (resLots s f).1 → l.length ≤ 1000 := by
  have e : resLots s f = if (smallR (Fa.ltR s f (cH f)) (wantF f)).2 then ((smallR (Fa.ltR s f (cH f)) (wantF f)).1, 0) else ([], 9) := by
    unfold resLots
    rw [if_neg (by simp [hc])]
    exact small_eq (v.lta v.cH) (v.ltR v.cH) v.want4 (want_supp f)
  rw [e] at h0 ⊢
  by_cases ht : tval (Fa.ltR s f (cH f)) (wantF f) < 0
  · have : smallR (Fa.ltR s f (cH f)) (wantF f) = ([], false) := by unfold smallR; rw [if_pos ht]
    rw [this] at h0; cases h0
  · have : smallR (Fa.ltR s f (cH f)) (wantF f) = (smR (Fa.ltR s f (cH f)) (tval (Fa.ltR s f (cH f)) (wantF f)) (wantF f), true) := by unfold smallR; rw [if_neg ht]
    rw [this]
    have hl : (Fa.ltR s f (cH f)).length = s.2.2.length := by simp [Fa.ltR, lotsR]
    exact lists_fine (lots := true) v (v.ltR v.cH) (by omega) hl fun i hi t h5 hs hf => lot_list v hcn (by omega) h5 hs hf
theorem code_leaves {s : Store} {f : List Spring} (v : VOK s f) (hc : checkF s f = 0) : (resLeaves s f).2 = if 0 ≤ tval (Fa.lvR s (cH f) 0 0) (wantF f) then 0 else 9 := by
  have e : resLeaves s f = if (smallR (Fa.lvR s (cH f) 0 1) (wantF f)).2 then ((smallR (Fa.lvR s (cH f) 0 1) (wantF f)).1, 0) else ([], 9) := by
    unfold resLeaves
    rw [if_neg (by simp [hc])]
    exact small_eq v.lva (v.lv1 v.cH) v.want4 (want_supp f)
  have hi := lv_iff v (n := wantF f) v.want4
  rw [e]
  by_cases ht : tval (Fa.lvR s (cH f) 0 1) (wantF f) < 0
  · have : smallR (Fa.lvR s (cH f) 0 1) (wantF f) = ([], false) := by unfold smallR; rw [if_pos ht]
    rw [this]
    refine Eq.trans (b := (9 : Int)) rfl ?_
    rw [if_neg (by omega)]
  · have : (smallR (Fa.lvR s (cH f) 0 1) (wantF f)).2 = true := by unfold smallR; rw [if_neg ht]
    rw [if_pos this]
    refine Eq.trans (b := (0 : Int)) rfl ?_
    rw [if_pos (by omega)]
theorem code_lots {s : Store} {f : List Spring} (v : VOK s f) (hc : checkF s f = 0) : (resLots s f).2 = if 0 ≤ tval (Fa.ltR s f (cH f)) (wantF f) then 0 else 9 := by
  have e : resLots s f = if (smallR (Fa.ltR s f (cH f)) (wantF f)).2 then ((smallR (Fa.ltR s f (cH f)) (wantF f)).1, 0) else ([], 9) := by
    unfold resLots
    rw [if_neg (by simp [hc])]
    exact small_eq (v.lta v.cH) (v.ltR v.cH) v.want4 (want_supp f)
  rw [e]
  by_cases ht : tval (Fa.ltR s f (cH f)) (wantF f) < 0
  · have : smallR (Fa.ltR s f (cH f)) (wantF f) = ([], false) := by unfold smallR; rw [if_pos ht]
    rw [this]
    refine Eq.trans (b := (9 : Int)) rfl ?_
    rw [if_neg (by omega)]
  · have : (smallR (Fa.ltR s f (cH f)) (wantF f)).2 = true := by unfold smallR; rw [if_neg ht]
    rw [if_pos this]
    refine Eq.trans (b := (0 : Int)) rfl ?_
    rw [if_pos (by omega)]
theorem code_enough {s : Store} {f : List Spring} (v : VOK s f) (hc : checkF s f = 0) : ∃ B : Bool, resEnough s f = ((resLeaves s f).2 == 0 && (resLots s f).2 == 0, B, 0) ∧ (((resLeaves s f).2 == 0 && (resLots s f).2 == 0) = true → B = true) := by
  refine ⟨enR s f (cL f) (wantF f), ?_, fun h => ?_⟩
  · unfold resEnough
    rw [if_neg (by simp [hc]), en_eq v v.cH v.want4 (want_supp f), en_eq v v.cL v.want4 (want_supp f), code_leaves v hc, code_lots v hc]
    unfold enR
    by_cases h1 : 0 ≤ tval (Fa.lvR s (cH f) 0 0) (wantF f)
    · by_cases h2 : 0 ≤ tval (Fa.ltR s f (cH f)) (wantF f)
      · rw [if_pos h1, if_pos h2, decide_eq_true h1, decide_eq_true h2]; rfl
      · rw [if_pos h1, if_neg h2, decide_eq_true h1, decide_eq_false h2]; rfl
    · rw [if_neg h1, decide_eq_false h1]; rfl
  · refine en_low v v.want4 ?_
    rw [code_leaves v hc, code_lots v hc] at h
    unfold enR
    by_cases h1 : 0 ≤ tval (Fa.lvR s (cH f) 0 0) (wantF f)
    · by_cases h2 : 0 ≤ tval (Fa.ltR s f (cH f)) (wantF f)
      · rw [decide_eq_true h1, decide_eq_true h2]; rfl
      · rw [if_neg h2] at h; simp at h
    · rw [if_neg h1] at h; simp at h
theorem p13 {x : Season} {t : List Int} {Q : Bool → Prop} (h : f13_wp (x, t, ()) () Q) : V13 x t Q := by
  obtain ⟨⟨okx, ht, htl⟩, h⟩ := h
  have okx : SeaOK x := okx
  have ht : ∀ y, y ∈ t → byteB y := ht
  have htl : t.length ≤ 140737488351232 := htl
  have h : Q true := h
  have hc := sea_ok x
  have v := vok_of hc
  have hsl := seaF_len x
  obtain ⟨s, hs⟩ : ∃ s, s = seaS x := ⟨_, rfl⟩
  obtain ⟨f, hf⟩ : ∃ f, f = seaF x := ⟨_, rfl⟩
  have n1 : (seaS x).1.length ≤ 1000 ∧ (seaS x).2.2.length ≤ 1000 := ⟨by have := v.n6; omega, by have := v.n5; omega⟩
  have n2 : (seaF x).length ≤ 1000 := by omega
  obtain ⟨B, hE, hB⟩ := code_enough v hc
  have e1 : (resLeaves (seaS x) (seaF x)).2 = 0 ∨ (resLeaves (seaS x) (seaF x)).2 = 9 := by
    rw [code_leaves v hc]; split
    · exact .inl rfl
    · exact .inr rfl
  have e2 : (resLots (seaS x) (seaF x)).2 = 0 ∨ (resLots (seaS x) (seaF x)).2 = 9 := by
    rw [code_lots v hc]; split
    · exact .inl rfl
    · exact .inr rfl
  have cl := fun (c : List Int) hcn h0 => cut_leaves v hc (c := c) hcn h0
  have ct := fun (c : List Int) hcn h0 => cut_lots v hc (c := c) hcn h0
  have hcl : ∀ tr : List Int, (∀ y, y ∈ tr → byteB y) → CntOK (seaF x) ((List.range (seaF x).length).map (cntO (seaF x) tr)) := fun tr htr => cnt_ok v htr
  have hcs : ∀ y, y ∈ seaF x → 0 ≤ y.1.1 ∧ y.1.1 ≤ y.1.2 ∧ y.1.2 ≤ 1000 := fun y hy => by have := v.sp y hy; omega
  have hsm := v.sm
  have hn6 := v.n6
  have hn5 := v.n5
  refine ⟨okx, n1, n2, n1, n2, n1, n2, fun b => b = false, ?_, ?_⟩
  · show cnd ((resEnough (seaS x) (seaF x)).2.2 != 0) (true = false) (cnd ((resLeaves (seaS x) (seaF x)).2 != 0) (cnd ((resLeaves (seaS x) (seaF x)).2 != 9) (true = false) (cnd ((resLots (seaS x) (seaF x)).2 != 0) (cnd ((resLots (seaS x) (seaF x)).2 != 9) (true = false) (cnd ((resLeaves (seaS x) (seaF x)).2 == 0) (cnd (!((resEnough (seaS x) (seaF x)).1 == ((resLots (seaS x) (seaF x)).2 == 0))) (true = false) (cnd (resEnough (seaS x) (seaF x)).1 ((!(resEnough (seaS x) (seaF x)).2.1) = false) (false = false))) (cnd (!((resEnough (seaS x) (seaF x)).1 == false)) (true = false) (cnd (resEnough (seaS x) (seaF x)).1 ((!(resEnough (seaS x) (seaF x)).2.1) = false) (false = false)))))
      (cnd ((resLeaves (seaS x) (seaF x)).2 == 0) (cnd (!((resEnough (seaS x) (seaF x)).1 == ((resLots (seaS x) (seaF x)).2 == 0))) (true = false) (cnd (resEnough (seaS x) (seaF x)).1 ((!(resEnough (seaS x) (seaF x)).2.1) = false) (false = false))) (cnd (!((resEnough (seaS x) (seaF x)).1 == false)) (true = false) (cnd (resEnough (seaS x) (seaF x)).1 ((!(resEnough (seaS x) (seaF x)).2.1) = false) (false = false))))))
      (cnd ((resLots (seaS x) (seaF x)).2 != 0) (cnd ((resLots (seaS x) (seaF x)).2 != 9) (true = false) (cnd ((resLeaves (seaS x) (seaF x)).2 == 0) (cnd (!((resEnough (seaS x) (seaF x)).1 == ((resLots (seaS x) (seaF x)).2 == 0))) (true = false) (cnd (resEnough (seaS x) (seaF x)).1 ((!(resEnough (seaS x) (seaF x)).2.1) = false) (false = false))) (cnd (!((resEnough (seaS x) (seaF x)).1 == false)) (true = false) (cnd (resEnough (seaS x) (seaF x)).1 ((!(resEnough (seaS x) (seaF x)).2.1) = false) (false = false)))))
      (cnd ((resLeaves (seaS x) (seaF x)).2 == 0) (cnd (!((resEnough (seaS x) (seaF x)).1 == ((resLots (seaS x) (seaF x)).2 == 0))) (true = false) (cnd (resEnough (seaS x) (seaF x)).1 ((!(resEnough (seaS x) (seaF x)).2.1) = false) (false = false))) (cnd (!((resEnough (seaS x) (seaF x)).1 == false)) (true = false) (cnd (resEnough (seaS x) (seaF x)).1 ((!(resEnough (seaS x) (seaF x)).2.1) = false) (false = false))))))
    rw [hE]
    revert hB
    generalize (resLeaves (seaS x) (seaF x)).2 = a at e1
    generalize (resLots (seaS x) (seaF x)).2 = b at e2
    intro hB
    rcases e1 with rfl | rfl <;> rcases e2 with rfl | rfl
    · have : B = true := hB rfl
      subst this; rfl
    · rfl
    · rfl
    · rfl
  rintro b rfl
  refine forUpG (n := 2) (by omega) (fun _ => True) trivial (fun k hk _ I μ hI hw => ?_) (fun _ => known h)
  refine forUpG (n := 2) (by omega) (fun _ => True) trivial (fun k1 hk1 _ I1 μ1 hI1 hw1 => ?_) (fun _ => by rw [hw]; exact hI trivial)
  refine ⟨fun l e => (l, e) = if k1 = 1 then resLots (seaS x) (seaF x) else resLeaves (seaS x) (seaF x), cnd_iff.2 ⟨fun g => ?_, fun g => ?_⟩, ?_⟩
  · have g : (k1 : Int) = 1 := by simpa using g
    show (_, _) = _
    rw [if_pos (by omega)]
  · have g : ¬ (k1 : Int) = 1 := by simpa using g
    show (_, _) = _
    rw [if_neg (by omega)]
  rintro l e he
  rw [hw1]
  refine cnd_iff.2 ⟨fun g => hI1 trivial, fun g => ?_⟩
  have g : e = 0 := by simpa using g
  subst g
  have b0 : ∀ y, y ∈ ([0] ++ t) → byteB y := fun y hy => by
    rcases List.mem_append.1 hy with hy | hy
    · rw [List.mem_singleton] at hy; subst hy; exact ⟨by omega, by omega⟩
    · exact ht y hy
  refine ⟨⟨hcs, fun y hy => by simp at hy, n2⟩, fun c => CntOK (seaF x) c, cnd_iff.2 ⟨fun g => ?_, fun g => ?_⟩, ?_⟩
  · refine ⟨by show (1 + t.length) * 1 ≤ _; omega, ⟨hcs, b0, n2⟩, ?_⟩
    exact hcl _ b0
  · exact hcl [] (fun y hy => by simp at hy)
  rintro c hcn
  have main : okLists (seaS x) (seaF x) c l ((k1 : Int) == 1) ∧ fansO (seaF x) l = (seaF x).map (fun x => x.2.1) ∧ ∀ m, m ∈ l → m.length ≤ 1000 := by
    by_cases hk : k1 = 1
    · rw [if_pos hk] at he
      have el : l = (resLots (seaS x) (seaF x)).1 := congrArg Prod.fst he
      have e0 : (resLots (seaS x) (seaF x)).2 = 0 := (congrArg Prod.snd he).symm
      have := ct c hcn e0
      rw [← el] at this
      rw [show ((k1 : Int) == 1) = true by first | (simp; done) | (simp; omega)]
      exact this
    · rw [if_neg hk] at he
      have el : l = (resLeaves (seaS x) (seaF x)).1 := congrArg Prod.fst he
      have e0 : (resLeaves (seaS x) (seaF x)).2 = 0 := (congrArg Prod.snd he).symm
      have := cl c hcn e0
      rw [← el] at this
      rw [show ((k1 : Int) == 1) = false by simp; omega]
      exact this
  obtain ⟨m1, m2, m3⟩ := main
  have hcb : ∀ y, y ∈ c → 0 ≤ y ∧ y ≤ 1000 := fun y hy => by
    obtain ⟨j, hj, rfl⟩ := List.mem_iff_getElem.1 hy
    have hj' : j < (seaF x).length := by rw [← hcn.n]; exact hj
    have h1 := hcn.b j hj'
    rw [getD_lt hj] at h1
    have h2 := v.getS hj'
    omega
  have hll : l.length ≤ 1000 := by
    have := m1.1
    unfold manyO at this
    split at this <;> omega
  refine ⟨⟨⟨n2, hcn.n, hcb, ⟨hsm.1, by show (seaS x).2.1 ≤ 1000; omega⟩, hll, m3⟩, m1⟩, ?_⟩
  show cnd (!true) _ _
  refine cndF ?_
  refine forUpGL (n := (seaF x).length) (fun _ => True) trivial (fun j hj _ _ I2 μ2 hI2 hw2 => ?_) (fun _ => hI1 trivial)
  have hfl : (fansO (seaF x) l).length = (seaF x).length := by simp [fansO]
  refine ⟨by omega, by show (j : Int) < ((fansO (seaF x) l).length : Nat); omega, by omega, by show (j : Int) < ((seaF x).length : Nat); omega, ?_⟩
  show cnd ((fansO (seaF x) l).getD j 0 != ((seaF x).getD j ((0, 0), 0, 0)).2.1) _ _
  rw [hw2]
  refine cndN ?_ (hI2 trivial)
  rw [m2, List.getD_eq_getElem?_getD, List.getElem?_map, List.getElem?_eq_getElem hj, getD_lt hj]
  rfl
end Go.Proofs.Fa
set_option maxRecDepth 100000
set_option maxHeartbeats 0
namespace Go.Proofs.Fa
open Go Go.GX Go.Proofs
variable [Inhabited BaseD]
theorem ok43 : CallsOK Try.prog (assoc glT) 43 f43_ct :=
  callsOK_mkM [] st_ok mp_ok it_ok mk_ok in_ok (AllOK.cons ok55 AllOK.nil) f43_an Try.func43 (by kernel_rfl) (by kernel_rfl) f43_ct fun x _ Q h => (v43 x Q).mp (p43 h)
theorem ok44 : CallsOK Try.prog (assoc glT) 44 f44_ct :=
  callsOK_mkM [] st_ok mp_ok it_ok mk_ok in_ok AllOK.nil no_an Try.func44 (by kernel_rfl) (by kernel_rfl) f44_ct fun s _ Q h => (v44 s Q).mp (p44 h)
theorem ok45 : CallsOK Try.prog (assoc glT) 45 f45_ct :=
  callsOK_mkM [] st_ok mp_ok it_ok mk_ok in_ok AllOK.nil no_an Try.func45 (by kernel_rfl) (by kernel_rfl) f45_ct fun f _ Q h => (v45 f Q).mp (p45 h)
theorem ok48 : CallsOK Try.prog (assoc glT) 48 f48_ct :=
  callsOK_mkM [] st_ok mp_ok it_ok mk_ok in_ok AllOK.nil no_an Try.func48 (by kernel_rfl) (by kernel_rfl) f48_ct fun ⟨l, i, _⟩ _ Q h => (v48 l i Q).mp (p48 h)
theorem ok46 : CallsOK Try.prog (assoc glT) 46 f46_ct :=
  callsOK_mkM [] st_ok mp_ok it_ok mk_ok in_ok (AllOK.cons ok48 AllOK.nil) f46_an Try.func46 (by kernel_rfl) (by kernel_rfl) f46_ct fun ⟨f, t, _⟩ _ Q h => (v46 f t Q).mp (p46 h)
theorem ok47 : CallsOK Try.prog (assoc glT) 47 f47_ct :=
  callsOK_mkM [] st_ok mp_ok it_ok mk_ok in_ok AllOK.nil f47_an Try.func47 (by kernel_rfl) (by kernel_rfl) f47_ct fun ⟨s, f, c, l, b, _⟩ _ Q h => (v47 s f c l b Q).mp (p47 h)
theorem ok13 : CallsOK Try.prog (assoc glT) 13 f13_ct :=
  callsOK_mkM [1901] st_ok mp_ok it_ok mk_ok in_ok (AllOK.cons ok43 (AllOK.cons ok44 (AllOK.cons ok45 (AllOK.cons ok21 (AllOK.cons ok29 (AllOK.cons ok49 (AllOK.cons ok46 (AllOK.cons ok47 (AllOK.cons ok17 AllOK.nil))))))))) f13_an Try.func13 (by kernel_rfl) (by kernel_rfl) f13_ct fun ⟨x, t, _⟩ _ Q h => (v13 x t Q).mp (p13 h)
end Go.Proofs.Fa
