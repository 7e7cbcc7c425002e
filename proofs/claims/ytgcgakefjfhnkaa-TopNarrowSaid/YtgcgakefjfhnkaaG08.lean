/- Part 8 of the texts behind the proof: TqV5, TqP9, TqO3, TqPa, TqO4, TqV6, TqPb, TqO5. -/
import Derived.Test.YtgcgakefjfhnkaaG07
import Derived.Test.YtgcgakefjfhnkaaProg
set_option linter.unusedSimpArgs false
set_option linter.unusedVariables false
set_option linter.unusedSectionVars false
set_option linter.unusedVariables false
set_option maxRecDepth 100000
namespace Go.Proofs.Tq
open Go Go.GX Go.Proofs

def V9 (a : Int) (b : Int) (Q : Int × Int → Prop) : Prop :=
  Q (a, b)
theorem v9 (a : Int) (b : Int) (Q : Int × Int → Prop) : V9 a b Q = vcFunc (S1 [] [] [] []) f9_ct.own f9_ct.fresh no_an Try.f9 (bodyOf Try.f9) f9_ct.A f9_ct.C f9_ct.R (a, b, ()) () Q := by kernel_rfl

def V22 (b : List (Int × Int) × List (Int × Int) × Int × List ((Int × Int) × (Int × Int) × Int × Int)) (Q : List (Int × Int) × List (Int × Int) × Int × List ((Int × Int) × (Int × Int) × Int × Int) → Prop) : Prop :=
  (List.length ([] : List (Int × Int)) + List.length (Prod.fst b)) * (16 : Nat) ≤ (140737488355328 : Nat) ∧
    (List.length ([] : List (Int × Int)) + List.length (Prod.fst (Prod.snd b))) * (16 : Nat) ≤ (140737488355328 : Nat) ∧
      (List.length ([] : List ((Int × Int) × (Int × Int) × Int × Int)) + List.length (Prod.snd (Prod.snd (Prod.snd b)))) * (48 : Nat) ≤
          (140737488355328 : Nat) ∧
        Q
          (([] : List (Int × Int)) ++ Prod.fst b, ([] : List (Int × Int)) ++ Prod.fst (Prod.snd b), Prod.fst (Prod.snd (Prod.snd b)),
            ([] : List ((Int × Int) × (Int × Int) × Int × Int)) ++ Prod.snd (Prod.snd (Prod.snd b)))
theorem v22 (b : List (Int × Int) × List (Int × Int) × Int × List ((Int × Int) × (Int × Int) × Int × Int)) (Q : List (Int × Int) × List (Int × Int) × Int × List ((Int × Int) × (Int × Int) × Int × Int) → Prop) : V22 b Q = vcFunc (S1 [] [] [] [100,104,110]) f22_ct.own f22_ct.fresh no_an Try.f22 (bodyOf Try.f22) f22_ct.A f22_ct.C f22_ct.R b () Q := by kernel_rfl

def V16 (x : Int × ((Int × Int) × (Int × Int) × (Int × Int) × (Int × Int) × (Int × Int) × Int × Int) × ((Int × Int) × (Int × Int) × (Int × Int) × (Int × Int) × (Int × Int) × Int × Int) × List (Int × Int × Int) × Int × Int × Int × Int) (Q : (List (Int × Int) × List (Int × Int) × Int × List ((Int × Int) × (Int × Int) × Int × Int)) × (Int × Int × Int × Int) × Unit → Prop) : Prop :=
  (6 : Int) ≠ (0 : Int) ∧ ∃ (I : Int → List (Int × Int) × List (Int × Int) × Int × List ((Int × Int) × (Int × Int) × Int × Int) → Prop), ∃ (μ : Int → List (Int × Int) ×
  List (Int × Int) × Int × List ((Int × Int) × (Int × Int) × Int × Int) → Nat), I (0 : Int) (([] : List (Int × Int)), ([] : List (Int × Int)), (300 : Int), ([] : List ((Int
  × Int) × (Int × Int) × Int × Int))) ∧ ∀ (x_1 : Int) (x_2 : List (Int × Int) × List (Int × Int) × Int × List ((Int × Int) × (Int × Int) × Int × Int)), I x_1 x_2 → cnd
  (decide (x_1 < IntKind.wrap IntKind.i64 ((1 : Int) + Int.tmod (IntKind.wrap IntKind.i64 (Prod.fst x)) (6 : Int)))) (∃ (I_1 : Int → Int → Prop), ((0 : Int) ≤ x_1 ∧ x_1 <
  (↑(6 : Nat) : Int) ∧ cnd (decide (x_1 = (↑(0 : Nat) : Int))) ((20 : Int) ≠ (0 : Int) ∧ (0 : Int) ≤ x_1 ∧ x_1 < (↑(6 : Nat) : Int) ∧ cnd (decide (x_1 = (↑(0 : Nat) :
  Int))) ((60 : Int) ≠ (0 : Int) ∧ I_1 (Int.tmod (IntKind.wrap IntKind.i64 (Prod.fst (Prod.fst (Prod.fst (Prod.snd x))))) (20 : Int)) (IntKind.wrap IntKind.i64 ((40 : Int)
  + Int.tmod (IntKind.wrap IntKind.i64 (Prod.fst (Prod.fst (Prod.fst (Prod.snd (Prod.snd x)))))) (60 : Int)))) (cnd (decide (x_1 = (↑((0 : Nat) + (1 : Nat)) : Int))) ((60 :
  Int) ≠ (0 : Int) ∧ I_1 (Int.tmod (IntKind.wrap IntKind.i64 (Prod.fst (Prod.fst (Prod.fst (Prod.snd x))))) (20 : Int)) (IntKind.wrap IntKind.i64 ((40 : Int) + Int.tmod
  (IntKind.wrap IntKind.i64 (Prod.fst (Prod.fst (Prod.snd (Prod.fst (Prod.snd (Prod.snd x))))))) (60 : Int)))) (cnd (decide (x_1 = (↑((0 : Nat) + (1 : Nat) + (1 : Nat)) :
  Int))) ((60 : Int) ≠ (0 : Int) ∧ I_1 (Int.tmod (IntKind.wrap IntKind.i64 (Prod.fst (Prod.fst (Prod.fst (Prod.snd x))))) (20 : Int)) (IntKind.wrap IntKind.i64 ((40 : Int)
  + Int.tmod (IntKind.wrap IntKind.i64 (Prod.fst (Prod.fst (Prod.snd (Prod.snd (Prod.fst (Prod.snd (Prod.snd x)))))))) (60 : Int)))) (cnd (decide (x_1 = (↑((0 : Nat) + (1 :
  Nat) + (1 : Nat) + (1 : Nat)) : Int))) ((60 : Int) ≠ (0 : Int) ∧ I_1 (Int.tmod (IntKind.wrap IntKind.i64 (Prod.fst (Prod.fst (Prod.fst (Prod.snd x))))) (20 : Int))
  (IntKind.wrap IntKind.i64 ((40 : Int) + Int.tmod (IntKind.wrap IntKind.i64 (Prod.fst (Prod.fst (Prod.snd (Prod.snd (Prod.snd (Prod.fst (Prod.snd (Prod.snd x))))))))) (60
  : Int)))) (cnd (decide (x_1 = (↑((0 : Nat) + (1 : Nat) + (1 : Nat) + (1 : Nat) + (1 : Nat)) : Int))) ((60 : Int) ≠ (0 : Int) ∧ I_1 (Int.tmod (IntKind.wrap IntKind.i64
  (Prod.fst (Prod.fst (Prod.fst (Prod.snd x))))) (20 : Int)) (IntKind.wrap IntKind.i64 ((40 : Int) + Int.tmod (IntKind.wrap IntKind.i64 (Prod.fst (Prod.fst (Prod.snd
  (Prod.snd (Prod.snd (Prod.snd (Prod.fst (Prod.snd (Prod.snd x)))))))))) (60 : Int)))) (cnd (decide (x_1 = (↑((0 : Nat) + (1 : Nat) + (1 : Nat) + (1 : Nat) + (1 : Nat) +
  (1 : Nat)) : Int))) ((60 : Int) ≠ (0 : Int) ∧ I_1 (Int.tmod (IntKind.wrap IntKind.i64 (Prod.fst (Prod.fst (Prod.fst (Prod.snd x))))) (20 : Int)) (IntKind.wrap IntKind.i64
  ((40 : Int) + Int.tmod (IntKind.wrap IntKind.i64 (Prod.fst (Prod.snd (Prod.snd (Prod.snd (Prod.snd (Prod.snd (Prod.fst (Prod.snd (Prod.snd x)))))))))) (60 : Int))))
  False)))))) (cnd (decide (x_1 = (↑((0 : Nat) + (1 : Nat)) : Int))) ((20 : Int) ≠ (0 : Int) ∧ (0 : Int) ≤ x_1 ∧ x_1 < (↑(6 : Nat) : Int) ∧ cnd (decide (x_1 = (↑(0 : Nat) :
  Int))) ((60 : Int) ≠ (0 : Int) ∧ I_1 (Int.tmod (IntKind.wrap IntKind.i64 (Prod.fst (Prod.fst (Prod.snd (Prod.fst (Prod.snd x)))))) (20 : Int)) (IntKind.wrap IntKind.i64
  ((40 : Int) + Int.tmod (IntKind.wrap IntKind.i64 (Prod.fst (Prod.fst (Prod.fst (Prod.snd (Prod.snd x)))))) (60 : Int)))) (cnd (decide (x_1 = (↑((0 : Nat) + (1 : Nat)) :
  Int))) ((60 : Int) ≠ (0 : Int) ∧ I_1 (Int.tmod (IntKind.wrap IntKind.i64 (Prod.fst (Prod.fst (Prod.snd (Prod.fst (Prod.snd x)))))) (20 : Int)) (IntKind.wrap IntKind.i64
  ((40 : Int) + Int.tmod (IntKind.wrap IntKind.i64 (Prod.fst (Prod.fst (Prod.snd (Prod.fst (Prod.snd (Prod.snd x))))))) (60 : Int)))) (cnd (decide (x_1 = (↑((0 : Nat) + (1
  : Nat) + (1 : Nat)) : Int))) ((60 : Int) ≠ (0 : Int) ∧ I_1 (Int.tmod (IntKind.wrap IntKind.i64 (Prod.fst (Prod.fst (Prod.snd (Prod.fst (Prod.snd x)))))) (20 : Int))
  (IntKind.wrap IntKind.i64 ((40 : Int) + Int.tmod (IntKind.wrap IntKind.i64 (Prod.fst (Prod.fst (Prod.snd (Prod.snd (Prod.fst (Prod.snd (Prod.snd x)))))))) (60 : Int))))
  (cnd (decide (x_1 = (↑((0 : Nat) + (1 : Nat) + (1 : Nat) + (1 : Nat)) : Int))) ((60 : Int) ≠ (0 : Int) ∧ I_1 (Int.tmod (IntKind.wrap IntKind.i64 (Prod.fst (Prod.fst
  (Prod.snd (Prod.fst (Prod.snd x)))))) (20 : Int)) (IntKind.wrap IntKind.i64 ((40 : Int) + Int.tmod (IntKind.wrap IntKind.i64 (Prod.fst (Prod.fst (Prod.snd (Prod.snd
  (Prod.snd (Prod.fst (Prod.snd (Prod.snd x))))))))) (60 : Int)))) (cnd (decide (x_1 = (↑((0 : Nat) + (1 : Nat) + (1 : Nat) + (1 : Nat) + (1 : Nat)) : Int))) ((60 : Int) ≠
  (0 : Int) ∧ I_1 (Int.tmod (IntKind.wrap IntKind.i64 (Prod.fst (Prod.fst (Prod.snd (Prod.fst (Prod.snd x)))))) (20 : Int)) (IntKind.wrap IntKind.i64 ((40 : Int) + Int.tmod
  (IntKind.wrap IntKind.i64 (Prod.fst (Prod.fst (Prod.snd (Prod.snd (Prod.snd (Prod.snd (Prod.fst (Prod.snd (Prod.snd x)))))))))) (60 : Int)))) (cnd (decide (x_1 = (↑((0 :
  Nat) + (1 : Nat) + (1 : Nat) + (1 : Nat) + (1 : Nat) + (1 : Nat)) : Int))) ((60 : Int) ≠ (0 : Int) ∧ I_1 (Int.tmod (IntKind.wrap IntKind.i64 (Prod.fst (Prod.fst (Prod.snd
  (Prod.fst (Prod.snd x)))))) (20 : Int)) (IntKind.wrap IntKind.i64 ((40 : Int) + Int.tmod (IntKind.wrap IntKind.i64 (Prod.fst (Prod.snd (Prod.snd (Prod.snd (Prod.snd
  (Prod.snd (Prod.fst (Prod.snd (Prod.snd x)))))))))) (60 : Int)))) False)))))) (cnd (decide (x_1 = (↑((0 : Nat) + (1 : Nat) + (1 : Nat)) : Int))) ((20 : Int) ≠ (0 : Int) ∧
  (0 : Int) ≤ x_1 ∧ x_1 < (↑(6 : Nat) : Int) ∧ cnd (decide (x_1 = (↑(0 : Nat) : Int))) ((60 : Int) ≠ (0 : Int) ∧ I_1 (Int.tmod (IntKind.wrap IntKind.i64 (Prod.fst (Prod.fst
  (Prod.snd (Prod.snd (Prod.fst (Prod.snd x))))))) (20 : Int)) (IntKind.wrap IntKind.i64 ((40 : Int) + Int.tmod (IntKind.wrap IntKind.i64 (Prod.fst (Prod.fst (Prod.fst
  (Prod.snd (Prod.snd x)))))) (60 : Int)))) (cnd (decide (x_1 = (↑((0 : Nat) + (1 : Nat)) : Int))) ((60 : Int) ≠ (0 : Int) ∧ I_1 (Int.tmod (IntKind.wrap IntKind.i64
  (Prod.fst (Prod.fst (Prod.snd (Prod.snd (Prod.fst (Prod.snd x))))))) (20 : Int)) (IntKind.wrap IntKind.i64 ((40 : Int) + Int.tmod (IntKind.wrap IntKind.i64 (Prod.fst
  (Prod.fst (Prod.snd (Prod.fst (Prod.snd (Prod.snd x))))))) (60 : Int)))) (cnd (decide (x_1 = (↑((0 : Nat) + (1 : Nat) + (1 : Nat)) : Int))) ((60 : Int) ≠ (0 : Int) ∧ I_1
  (Int.tmod (IntKind.wrap IntKind.i64 (Prod.fst (Prod.fst (Prod.snd (Prod.snd (Prod.fst (Prod.snd x))))))) (20 : Int)) (IntKind.wrap IntKind.i64 ((40 : Int) + Int.tmod
  (IntKind.wrap IntKind.i64 (Prod.fst (Prod.fst (Prod.snd (Prod.snd (Prod.fst (Prod.snd (Prod.snd x)))))))) (60 : Int)))) (cnd (decide (x_1 = (↑((0 : Nat) + (1 : Nat) + (1
  : Nat) + (1 : Nat)) : Int))) ((60 : Int) ≠ (0 : Int) ∧ I_1 (Int.tmod (IntKind.wrap IntKind.i64 (Prod.fst (Prod.fst (Prod.snd (Prod.snd (Prod.fst (Prod.snd x))))))) (20 :
  Int)) (IntKind.wrap IntKind.i64 ((40 : Int) + Int.tmod (IntKind.wrap IntKind.i64 (Prod.fst (Prod.fst (Prod.snd (Prod.snd (Prod.snd (Prod.fst (Prod.snd (Prod.snd
  x))))))))) (60 : Int)))) (cnd (decide (x_1 = (↑((0 : Nat) + (1 : Nat) + (1 : Nat) + (1 : Nat) + (1 : Nat)) : Int))) ((60 : Int) ≠ (0 : Int) ∧ I_1 (Int.tmod (IntKind.wrap
  IntKind.i64 (Prod.fst (Prod.fst (Prod.snd (Prod.snd (Prod.fst (Prod.snd x))))))) (20 : Int)) (IntKind.wrap IntKind.i64 ((40 : Int) + Int.tmod (IntKind.wrap IntKind.i64
  (Prod.fst (Prod.fst (Prod.snd (Prod.snd (Prod.snd (Prod.snd (Prod.fst (Prod.snd (Prod.snd x)))))))))) (60 : Int)))) (cnd (decide (x_1 = (↑((0 : Nat) + (1 : Nat) + (1 :
  Nat) + (1 : Nat) + (1 : Nat) + (1 : Nat)) : Int))) ((60 : Int) ≠ (0 : Int) ∧ I_1 (Int.tmod (IntKind.wrap IntKind.i64 (Prod.fst (Prod.fst (Prod.snd (Prod.snd (Prod.fst
  (Prod.snd x))))))) (20 : Int)) (IntKind.wrap IntKind.i64 ((40 : Int) + Int.tmod (IntKind.wrap IntKind.i64 (Prod.fst (Prod.snd (Prod.snd (Prod.snd (Prod.snd (Prod.snd
  (Prod.fst (Prod.snd (Prod.snd x)))))))))) (60 : Int)))) False)))))) (cnd (decide (x_1 = (↑((0 : Nat) + (1 : Nat) + (1 : Nat) + (1 : Nat)) : Int))) ((20 : Int) ≠ (0 : Int)
  ∧ (0 : Int) ≤ x_1 ∧ x_1 < (↑(6 : Nat) : Int) ∧ cnd (decide (x_1 = (↑(0 : Nat) : Int))) ((60 : Int) ≠ (0 : Int) ∧ I_1 (Int.tmod (IntKind.wrap IntKind.i64 (Prod.fst
  (Prod.fst (Prod.snd (Prod.snd (Prod.snd (Prod.fst (Prod.snd x)))))))) (20 : Int)) (IntKind.wrap IntKind.i64 ((40 : Int) + Int.tmod (IntKind.wrap IntKind.i64 (Prod.fst
  (Prod.fst (Prod.fst (Prod.snd (Prod.snd x)))))) (60 : Int)))) (cnd (decide (x_1 = (↑((0 : Nat) + (1 : Nat)) : Int))) ((60 : Int) ≠ (0 : Int) ∧ I_1 (Int.tmod (IntKind.wrap
  IntKind.i64 (Prod.fst (Prod.fst (Prod.snd (Prod.snd (Prod.snd (Prod.fst (Prod.snd x)))))))) (20 : Int)) (IntKind.wrap IntKind.i64 ((40 : Int) + Int.tmod (IntKind.wrap
  IntKind.i64 (Prod.fst (Prod.fst (Prod.snd (Prod.fst (Prod.snd (Prod.snd x))))))) (60 : Int)))) (cnd (decide (x_1 = (↑((0 : Nat) + (1 : Nat) + (1 : Nat)) : Int))) ((60 :
  Int) ≠ (0 : Int) ∧ I_1 (Int.tmod (IntKind.wrap IntKind.i64 (Prod.fst (Prod.fst (Prod.snd (Prod.snd (Prod.snd (Prod.fst (Prod.snd x)))))))) (20 : Int)) (IntKind.wrap
  IntKind.i64 ((40 : Int) + Int.tmod (IntKind.wrap IntKind.i64 (Prod.fst (Prod.fst (Prod.snd (Prod.snd (Prod.fst (Prod.snd (Prod.snd x)))))))) (60 : Int)))) (cnd (decide
  (x_1 = (↑((0 : Nat) + (1 : Nat) + (1 : Nat) + (1 : Nat)) : Int))) ((60 : Int) ≠ (0 : Int) ∧ I_1 (Int.tmod (IntKind.wrap IntKind.i64 (Prod.fst (Prod.fst (Prod.snd
  (Prod.snd (Prod.snd (Prod.fst (Prod.snd x)))))))) (20 : Int)) (IntKind.wrap IntKind.i64 ((40 : Int) + Int.tmod (IntKind.wrap IntKind.i64 (Prod.fst (Prod.fst (Prod.snd
  (Prod.snd (Prod.snd (Prod.fst (Prod.snd (Prod.snd x))))))))) (60 : Int)))) (cnd (decide (x_1 = (↑((0 : Nat) + (1 : Nat) + (1 : Nat) + (1 : Nat) + (1 : Nat)) : Int))) ((60
  : Int) ≠ (0 : Int) ∧ I_1 (Int.tmod (IntKind.wrap IntKind.i64 (Prod.fst (Prod.fst (Prod.snd (Prod.snd (Prod.snd (Prod.fst (Prod.snd x)))))))) (20 : Int)) (IntKind.wrap
  IntKind.i64 ((40 : Int) + Int.tmod (IntKind.wrap IntKind.i64 (Prod.fst (Prod.fst (Prod.snd (Prod.snd (Prod.snd (Prod.snd (Prod.fst (Prod.snd (Prod.snd x)))))))))) (60 :
  Int)))) (cnd (decide (x_1 = (↑((0 : Nat) + (1 : Nat) + (1 : Nat) + (1 : Nat) + (1 : Nat) + (1 : Nat)) : Int))) ((60 : Int) ≠ (0 : Int) ∧ I_1 (Int.tmod (IntKind.wrap
  IntKind.i64 (Prod.fst (Prod.fst (Prod.snd (Prod.snd (Prod.snd (Prod.fst (Prod.snd x)))))))) (20 : Int)) (IntKind.wrap IntKind.i64 ((40 : Int) + Int.tmod (IntKind.wrap
  IntKind.i64 (Prod.fst (Prod.snd (Prod.snd (Prod.snd (Prod.snd (Prod.snd (Prod.fst (Prod.snd (Prod.snd x)))))))))) (60 : Int)))) False)))))) (cnd (decide (x_1 = (↑((0 :
  Nat) + (1 : Nat) + (1 : Nat) + (1 : Nat) + (1 : Nat)) : Int))) ((20 : Int) ≠ (0 : Int) ∧ (0 : Int) ≤ x_1 ∧ x_1 < (↑(6 : Nat) : Int) ∧ cnd (decide (x_1 = (↑(0 : Nat) :
  Int))) ((60 : Int) ≠ (0 : Int) ∧ I_1 (Int.tmod (IntKind.wrap IntKind.i64 (Prod.fst (Prod.fst (Prod.snd (Prod.snd (Prod.snd (Prod.snd (Prod.fst (Prod.snd x))))))))) (20 :
  Int)) (IntKind.wrap IntKind.i64 ((40 : Int) + Int.tmod (IntKind.wrap IntKind.i64 (Prod.fst (Prod.fst (Prod.fst (Prod.snd (Prod.snd x)))))) (60 : Int)))) (cnd (decide (x_1
  = (↑((0 : Nat) + (1 : Nat)) : Int))) ((60 : Int) ≠ (0 : Int) ∧ I_1 (Int.tmod (IntKind.wrap IntKind.i64 (Prod.fst (Prod.fst (Prod.snd (Prod.snd (Prod.snd (Prod.snd
  (Prod.fst (Prod.snd x))))))))) (20 : Int)) (IntKind.wrap IntKind.i64 ((40 : Int) + Int.tmod (IntKind.wrap IntKind.i64 (Prod.fst (Prod.fst (Prod.snd (Prod.fst (Prod.snd
  (Prod.snd x))))))) (60 : Int)))) (cnd (decide (x_1 = (↑((0 : Nat) + (1 : Nat) + (1 : Nat)) : Int))) ((60 : Int) ≠ (0 : Int) ∧ I_1 (Int.tmod (IntKind.wrap IntKind.i64
  (Prod.fst (Prod.fst (Prod.snd (Prod.snd (Prod.snd (Prod.snd (Prod.fst (Prod.snd x))))))))) (20 : Int)) (IntKind.wrap IntKind.i64 ((40 : Int) + Int.tmod (IntKind.wrap
  IntKind.i64 (Prod.fst (Prod.fst (Prod.snd (Prod.snd (Prod.fst (Prod.snd (Prod.snd x)))))))) (60 : Int)))) (cnd (decide (x_1 = (↑((0 : Nat) + (1 : Nat) + (1 : Nat) + (1 :
  Nat)) : Int))) ((60 : Int) ≠ (0 : Int) ∧ I_1 (Int.tmod (IntKind.wrap IntKind.i64 (Prod.fst (Prod.fst (Prod.snd (Prod.snd (Prod.snd (Prod.snd (Prod.fst (Prod.snd
  x))))))))) (20 : Int)) (IntKind.wrap IntKind.i64 ((40 : Int) + Int.tmod (IntKind.wrap IntKind.i64 (Prod.fst (Prod.fst (Prod.snd (Prod.snd (Prod.snd (Prod.fst (Prod.snd
  (Prod.snd x))))))))) (60 : Int)))) (cnd (decide (x_1 = (↑((0 : Nat) + (1 : Nat) + (1 : Nat) + (1 : Nat) + (1 : Nat)) : Int))) ((60 : Int) ≠ (0 : Int) ∧ I_1 (Int.tmod
  (IntKind.wrap IntKind.i64 (Prod.fst (Prod.fst (Prod.snd (Prod.snd (Prod.snd (Prod.snd (Prod.fst (Prod.snd x))))))))) (20 : Int)) (IntKind.wrap IntKind.i64 ((40 : Int) +
  Int.tmod (IntKind.wrap IntKind.i64 (Prod.fst (Prod.fst (Prod.snd (Prod.snd (Prod.snd (Prod.snd (Prod.fst (Prod.snd (Prod.snd x)))))))))) (60 : Int)))) (cnd (decide (x_1 =
  (↑((0 : Nat) + (1 : Nat) + (1 : Nat) + (1 : Nat) + (1 : Nat) + (1 : Nat)) : Int))) ((60 : Int) ≠ (0 : Int) ∧ I_1 (Int.tmod (IntKind.wrap IntKind.i64 (Prod.fst (Prod.fst
  (Prod.snd (Prod.snd (Prod.snd (Prod.snd (Prod.fst (Prod.snd x))))))))) (20 : Int)) (IntKind.wrap IntKind.i64 ((40 : Int) + Int.tmod (IntKind.wrap IntKind.i64 (Prod.fst
  (Prod.snd (Prod.snd (Prod.snd (Prod.snd (Prod.snd (Prod.fst (Prod.snd (Prod.snd x)))))))))) (60 : Int)))) False)))))) (cnd (decide (x_1 = (↑((0 : Nat) + (1 : Nat) + (1 :
  Nat) + (1 : Nat) + (1 : Nat) + (1 : Nat)) : Int))) ((20 : Int) ≠ (0 : Int) ∧ (0 : Int) ≤ x_1 ∧ x_1 < (↑(6 : Nat) : Int) ∧ cnd (decide (x_1 = (↑(0 : Nat) : Int))) ((60 :
  Int) ≠ (0 : Int) ∧ I_1 (Int.tmod (IntKind.wrap IntKind.i64 (Prod.fst (Prod.snd (Prod.snd (Prod.snd (Prod.snd (Prod.snd (Prod.fst (Prod.snd x))))))))) (20 : Int))
  (IntKind.wrap IntKind.i64 ((40 : Int) + Int.tmod (IntKind.wrap IntKind.i64 (Prod.fst (Prod.fst (Prod.fst (Prod.snd (Prod.snd x)))))) (60 : Int)))) (cnd (decide (x_1 =
  (↑((0 : Nat) + (1 : Nat)) : Int))) ((60 : Int) ≠ (0 : Int) ∧ I_1 (Int.tmod (IntKind.wrap IntKind.i64 (Prod.fst (Prod.snd (Prod.snd (Prod.snd (Prod.snd (Prod.snd (Prod.fst
  (Prod.snd x))))))))) (20 : Int)) (IntKind.wrap IntKind.i64 ((40 : Int) + Int.tmod (IntKind.wrap IntKind.i64 (Prod.fst (Prod.fst (Prod.snd (Prod.fst (Prod.snd (Prod.snd
  x))))))) (60 : Int)))) (cnd (decide (x_1 = (↑((0 : Nat) + (1 : Nat) + (1 : Nat)) : Int))) ((60 : Int) ≠ (0 : Int) ∧ I_1 (Int.tmod (IntKind.wrap IntKind.i64 (Prod.fst
  (Prod.snd (Prod.snd (Prod.snd (Prod.snd (Prod.snd (Prod.fst (Prod.snd x))))))))) (20 : Int)) (IntKind.wrap IntKind.i64 ((40 : Int) + Int.tmod (IntKind.wrap IntKind.i64
  (Prod.fst (Prod.fst (Prod.snd (Prod.snd (Prod.fst (Prod.snd (Prod.snd x)))))))) (60 : Int)))) (cnd (decide (x_1 = (↑((0 : Nat) + (1 : Nat) + (1 : Nat) + (1 : Nat)) :
  Int))) ((60 : Int) ≠ (0 : Int) ∧ I_1 (Int.tmod (IntKind.wrap IntKind.i64 (Prod.fst (Prod.snd (Prod.snd (Prod.snd (Prod.snd (Prod.snd (Prod.fst (Prod.snd x))))))))) (20 :
  Int)) (IntKind.wrap IntKind.i64 ((40 : Int) + Int.tmod (IntKind.wrap IntKind.i64 (Prod.fst (Prod.fst (Prod.snd (Prod.snd (Prod.snd (Prod.fst (Prod.snd (Prod.snd
  x))))))))) (60 : Int)))) (cnd (decide (x_1 = (↑((0 : Nat) + (1 : Nat) + (1 : Nat) + (1 : Nat) + (1 : Nat)) : Int))) ((60 : Int) ≠ (0 : Int) ∧ I_1 (Int.tmod (IntKind.wrap
  IntKind.i64 (Prod.fst (Prod.snd (Prod.snd (Prod.snd (Prod.snd (Prod.snd (Prod.fst (Prod.snd x))))))))) (20 : Int)) (IntKind.wrap IntKind.i64 ((40 : Int) + Int.tmod
  (IntKind.wrap IntKind.i64 (Prod.fst (Prod.fst (Prod.snd (Prod.snd (Prod.snd (Prod.snd (Prod.fst (Prod.snd (Prod.snd x)))))))))) (60 : Int)))) (cnd (decide (x_1 = (↑((0 :
  Nat) + (1 : Nat) + (1 : Nat) + (1 : Nat) + (1 : Nat) + (1 : Nat)) : Int))) ((60 : Int) ≠ (0 : Int) ∧ I_1 (Int.tmod (IntKind.wrap IntKind.i64 (Prod.fst (Prod.snd (Prod.snd
  (Prod.snd (Prod.snd (Prod.snd (Prod.fst (Prod.snd x))))))))) (20 : Int)) (IntKind.wrap IntKind.i64 ((40 : Int) + Int.tmod (IntKind.wrap IntKind.i64 (Prod.fst (Prod.snd
  (Prod.snd (Prod.snd (Prod.snd (Prod.snd (Prod.fst (Prod.snd (Prod.snd x)))))))))) (60 : Int)))) False)))))) False)))))) ∧ ∀ (x_3 x_4 : Int), I_1 x_3 x_4 → (0 : Int) ≤ x_1
  ∧ x_1 < (↑(6 : Nat) : Int) ∧ cnd (decide (x_1 = (↑(0 : Nat) : Int))) ((4 : Int) ≠ (0 : Int) ∧ ∃ (r : Int × Int), (f9_wp (x_3, IntKind.wrap IntKind.i64 (x_3 + Int.tmod
  (IntKind.wrap IntKind.i64 (Prod.snd (Prod.fst (Prod.fst (Prod.snd x))))) (4 : Int)), ()) () fun (r' : Int × Int) ↦ r' = r) ∧ (List.length (Prod.fst x_2) + List.length
  ((Prod.fst r, Prod.snd r) :: ([] : List (Int × Int)))) * (16 : Nat) ≤ (140737488355328 : Nat) ∧ (0 : Int) ≤ x_1 ∧ x_1 < (↑(6 : Nat) : Int) ∧ cnd (decide (x_1 = (↑(0 :
  Nat) : Int))) ((4 : Int) ≠ (0 : Int) ∧ ∃ (r_1 : Int × Int), (f9_wp (x_4, IntKind.wrap IntKind.i64 (x_4 + Int.tmod (IntKind.wrap IntKind.i64 (Prod.snd (Prod.fst (Prod.fst
  (Prod.snd (Prod.snd x)))))) (4 : Int)), ()) () fun (r' : Int × Int) ↦ r' = r_1) ∧ (List.length (Prod.fst (Prod.snd x_2)) + List.length ((Prod.fst r_1, Prod.snd r_1) ::
  ([] : List (Int × Int)))) * (16 : Nat) ≤ (140737488355328 : Nat) ∧ I (IntKind.wrap IntKind.i64 (x_1 + (1 : Int))) (Prod.fst x_2 ++ (Prod.fst r, Prod.snd r) :: ([] : List
  (Int × Int)), Prod.fst (Prod.snd x_2) ++ (Prod.fst r_1, Prod.snd r_1) :: ([] : List (Int × Int)), Prod.fst (Prod.snd (Prod.snd x_2)), Prod.snd (Prod.snd (Prod.snd x_2)))
  ∧ μ (IntKind.wrap IntKind.i64 (x_1 + (1 : Int))) (Prod.fst x_2 ++ (Prod.fst r, Prod.snd r) :: ([] : List (Int × Int)), Prod.fst (Prod.snd x_2) ++ (Prod.fst r_1, Prod.snd
  r_1) :: ([] : List (Int × Int)), Prod.fst (Prod.snd (Prod.snd x_2)), Prod.snd (Prod.snd (Prod.snd x_2))) < μ x_1 x_2) (cnd (decide (x_1 = (↑((0 : Nat) + (1 : Nat)) :
  Int))) ((4 : Int) ≠ (0 : Int) ∧ ∃ (r_1 : Int × Int), (f9_wp (x_4, IntKind.wrap IntKind.i64 (x_4 + Int.tmod (IntKind.wrap IntKind.i64 (Prod.snd (Prod.fst (Prod.snd
  (Prod.fst (Prod.snd (Prod.snd x))))))) (4 : Int)), ()) () fun (r' : Int × Int) ↦ r' = r_1) ∧ (List.length (Prod.fst (Prod.snd x_2)) + List.length ((Prod.fst r_1, Prod.snd
  r_1) :: ([] : List (Int × Int)))) * (16 : Nat) ≤ (140737488355328 : Nat) ∧ I (IntKind.wrap IntKind.i64 (x_1 + (1 : Int))) (Prod.fst x_2 ++ (Prod.fst r, Prod.snd r) :: ([]
  : List (Int × Int)), Prod.fst (Prod.snd x_2) ++ (Prod.fst r_1, Prod.snd r_1) :: ([] : List (Int × Int)), Prod.fst (Prod.snd (Prod.snd x_2)), Prod.snd (Prod.snd (Prod.snd
  x_2))) ∧ μ (IntKind.wrap IntKind.i64 (x_1 + (1 : Int))) (Prod.fst x_2 ++ (Prod.fst r, Prod.snd r) :: ([] : List (Int × Int)), Prod.fst (Prod.snd x_2) ++ (Prod.fst r_1,
  Prod.snd r_1) :: ([] : List (Int × Int)), Prod.fst (Prod.snd (Prod.snd x_2)), Prod.snd (Prod.snd (Prod.snd x_2))) < μ x_1 x_2) (cnd (decide (x_1 = (↑((0 : Nat) + (1 :
  Nat) + (1 : Nat)) : Int))) ((4 : Int) ≠ (0 : Int) ∧ ∃ (r_1 : Int × Int), (f9_wp (x_4, IntKind.wrap IntKind.i64 (x_4 + Int.tmod (IntKind.wrap IntKind.i64 (Prod.snd
  (Prod.fst (Prod.snd (Prod.snd (Prod.fst (Prod.snd (Prod.snd x)))))))) (4 : Int)), ()) () fun (r' : Int × Int) ↦ r' = r_1) ∧ (List.length (Prod.fst (Prod.snd x_2)) +
  List.length ((Prod.fst r_1, Prod.snd r_1) :: ([] : List (Int × Int)))) * (16 : Nat) ≤ (140737488355328 : Nat) ∧ I (IntKind.wrap IntKind.i64 (x_1 + (1 : Int))) (Prod.fst
  x_2 ++ (Prod.fst r, Prod.snd r) :: ([] : List (Int × Int)), Prod.fst (Prod.snd x_2) ++ (Prod.fst r_1, Prod.snd r_1) :: ([] : List (Int × Int)), Prod.fst (Prod.snd
  (Prod.snd x_2)), Prod.snd (Prod.snd (Prod.snd x_2))) ∧ μ (IntKind.wrap IntKind.i64 (x_1 + (1 : Int))) (Prod.fst x_2 ++ (Prod.fst r, Prod.snd r) :: ([] : List (Int ×
  Int)), Prod.fst (Prod.snd x_2) ++ (Prod.fst r_1, Prod.snd r_1) :: ([] : List (Int × Int)), Prod.fst (Prod.snd (Prod.snd x_2)), Prod.snd (Prod.snd (Prod.snd x_2))) < μ x_1
  x_2) (cnd (decide (x_1 = (↑((0 : Nat) + (1 : Nat) + (1 : Nat) + (1 : Nat)) : Int))) ((4 : Int) ≠ (0 : Int) ∧ ∃ (r_1 : Int × Int), (f9_wp (x_4, IntKind.wrap IntKind.i64
  (x_4 + Int.tmod (IntKind.wrap IntKind.i64 (Prod.snd (Prod.fst (Prod.snd (Prod.snd (Prod.snd (Prod.fst (Prod.snd (Prod.snd x))))))))) (4 : Int)), ()) () fun (r' : Int ×
  Int) ↦ r' = r_1) ∧ (List.length (Prod.fst (Prod.snd x_2)) + List.length ((Prod.fst r_1, Prod.snd r_1) :: ([] : List (Int × Int)))) * (16 : Nat) ≤ (140737488355328 : Nat)
  ∧ I (IntKind.wrap IntKind.i64 (x_1 + (1 : Int))) (Prod.fst x_2 ++ (Prod.fst r, Prod.snd r) :: ([] : List (Int × Int)), Prod.fst (Prod.snd x_2) ++ (Prod.fst r_1, Prod.snd
  r_1) :: ([] : List (Int × Int)), Prod.fst (Prod.snd (Prod.snd x_2)), Prod.snd (Prod.snd (Prod.snd x_2))) ∧ μ (IntKind.wrap IntKind.i64 (x_1 + (1 : Int))) (Prod.fst x_2 ++
  (Prod.fst r, Prod.snd r) :: ([] : List (Int × Int)), Prod.fst (Prod.snd x_2) ++ (Prod.fst r_1, Prod.snd r_1) :: ([] : List (Int × Int)), Prod.fst (Prod.snd (Prod.snd
  x_2)), Prod.snd (Prod.snd (Prod.snd x_2))) < μ x_1 x_2) (cnd (decide (x_1 = (↑((0 : Nat) + (1 : Nat) + (1 : Nat) + (1 : Nat) + (1 : Nat)) : Int))) ((4 : Int) ≠ (0 : Int)
  ∧ ∃ (r_1 : Int × Int), (f9_wp (x_4, IntKind.wrap IntKind.i64 (x_4 + Int.tmod (IntKind.wrap IntKind.i64 (Prod.snd (Prod.fst (Prod.snd (Prod.snd (Prod.snd (Prod.snd
  (Prod.fst (Prod.snd (Prod.snd x)))))))))) (4 : Int)), ()) () fun (r' : Int × Int) ↦ r' = r_1) ∧ (List.length (Prod.fst (Prod.snd x_2)) + List.length ((Prod.fst r_1,
  Prod.snd r_1) :: ([] : List (Int × Int)))) * (16 : Nat) ≤ (140737488355328 : Nat) ∧ I (IntKind.wrap IntKind.i64 (x_1 + (1 : Int))) (Prod.fst x_2 ++ (Prod.fst r, Prod.snd
  r) :: ([] : List (Int × Int)), Prod.fst (Prod.snd x_2) ++ (Prod.fst r_1, Prod.snd r_1) :: ([] : List (Int × Int)), Prod.fst (Prod.snd (Prod.snd x_2)), Prod.snd (Prod.snd
  (Prod.snd x_2))) ∧ μ (IntKind.wrap IntKind.i64 (x_1 + (1 : Int))) (Prod.fst x_2 ++ (Prod.fst r, Prod.snd r) :: ([] : List (Int × Int)), Prod.fst (Prod.snd x_2) ++
  (Prod.fst r_1, Prod.snd r_1) :: ([] : List (Int × Int)), Prod.fst (Prod.snd (Prod.snd x_2)), Prod.snd (Prod.snd (Prod.snd x_2))) < μ x_1 x_2) (cnd (decide (x_1 = (↑((0 :
  Nat) + (1 : Nat) + (1 : Nat) + (1 : Nat) + (1 : Nat) + (1 : Nat)) : Int))) ((4 : Int) ≠ (0 : Int) ∧ ∃ (r_1 : Int × Int), (f9_wp (x_4, IntKind.wrap IntKind.i64 (x_4 +
  Int.tmod (IntKind.wrap IntKind.i64 (Prod.snd (Prod.snd (Prod.snd (Prod.snd (Prod.snd (Prod.snd (Prod.fst (Prod.snd (Prod.snd x)))))))))) (4 : Int)), ()) () fun (r' : Int
  × Int) ↦ r' = r_1) ∧ (List.length (Prod.fst (Prod.snd x_2)) + List.length ((Prod.fst r_1, Prod.snd r_1) :: ([] : List (Int × Int)))) * (16 : Nat) ≤ (140737488355328 :
  Nat) ∧ I (IntKind.wrap IntKind.i64 (x_1 + (1 : Int))) (Prod.fst x_2 ++ (Prod.fst r, Prod.snd r) :: ([] : List (Int × Int)), Prod.fst (Prod.snd x_2) ++ (Prod.fst r_1,
  Prod.snd r_1) :: ([] : List (Int × Int)), Prod.fst (Prod.snd (Prod.snd x_2)), Prod.snd (Prod.snd (Prod.snd x_2))) ∧ μ (IntKind.wrap IntKind.i64 (x_1 + (1 : Int)))
  (Prod.fst x_2 ++ (Prod.fst r, Prod.snd r) :: ([] : List (Int × Int)), Prod.fst (Prod.snd x_2) ++ (Prod.fst r_1, Prod.snd r_1) :: ([] : List (Int × Int)), Prod.fst
  (Prod.snd (Prod.snd x_2)), Prod.snd (Prod.snd (Prod.snd x_2))) < μ x_1 x_2) False)))))) (cnd (decide (x_1 = (↑((0 : Nat) + (1 : Nat)) : Int))) ((4 : Int) ≠ (0 : Int) ∧ ∃
  (r : Int × Int), (f9_wp (x_3, IntKind.wrap IntKind.i64 (x_3 + Int.tmod (IntKind.wrap IntKind.i64 (Prod.snd (Prod.fst (Prod.snd (Prod.fst (Prod.snd x)))))) (4 : Int)), ())
  () fun (r' : Int × Int) ↦ r' = r) ∧ (List.length (Prod.fst x_2) + List.length ((Prod.fst r, Prod.snd r) :: ([] : List (Int × Int)))) * (16 : Nat) ≤ (140737488355328 :
  Nat) ∧ (0 : Int) ≤ x_1 ∧ x_1 < (↑(6 : Nat) : Int) ∧ cnd (decide (x_1 = (↑(0 : Nat) : Int))) ((4 : Int) ≠ (0 : Int) ∧ ∃ (r_1 : Int × Int), (f9_wp (x_4, IntKind.wrap
  IntKind.i64 (x_4 + Int.tmod (IntKind.wrap IntKind.i64 (Prod.snd (Prod.fst (Prod.fst (Prod.snd (Prod.snd x)))))) (4 : Int)), ()) () fun (r' : Int × Int) ↦ r' = r_1) ∧
  (List.length (Prod.fst (Prod.snd x_2)) + List.length ((Prod.fst r_1, Prod.snd r_1) :: ([] : List (Int × Int)))) * (16 : Nat) ≤ (140737488355328 : Nat) ∧ I (IntKind.wrap
  IntKind.i64 (x_1 + (1 : Int))) (Prod.fst x_2 ++ (Prod.fst r, Prod.snd r) :: ([] : List (Int × Int)), Prod.fst (Prod.snd x_2) ++ (Prod.fst r_1, Prod.snd r_1) :: ([] : List
  (Int × Int)), Prod.fst (Prod.snd (Prod.snd x_2)), Prod.snd (Prod.snd (Prod.snd x_2))) ∧ μ (IntKind.wrap IntKind.i64 (x_1 + (1 : Int))) (Prod.fst x_2 ++ (Prod.fst r,
  Prod.snd r) :: ([] : List (Int × Int)), Prod.fst (Prod.snd x_2) ++ (Prod.fst r_1, Prod.snd r_1) :: ([] : List (Int × Int)), Prod.fst (Prod.snd (Prod.snd x_2)), Prod.snd
  (Prod.snd (Prod.snd x_2))) < μ x_1 x_2) (cnd (decide (x_1 = (↑((0 : Nat) + (1 : Nat)) : Int))) ((4 : Int) ≠ (0 : Int) ∧ ∃ (r_1 : Int × Int), (f9_wp (x_4, IntKind.wrap
  IntKind.i64 (x_4 + Int.tmod (IntKind.wrap IntKind.i64 (Prod.snd (Prod.fst (Prod.snd (Prod.fst (Prod.snd (Prod.snd x))))))) (4 : Int)), ()) () fun (r' : Int × Int) ↦ r' =
  r_1) ∧ (List.length (Prod.fst (Prod.snd x_2)) + List.length ((Prod.fst r_1, Prod.snd r_1) :: ([] : List (Int × Int)))) * (16 : Nat) ≤ (140737488355328 : Nat) ∧ I
  (IntKind.wrap IntKind.i64 (x_1 + (1 : Int))) (Prod.fst x_2 ++ (Prod.fst r, Prod.snd r) :: ([] : List (Int × Int)), Prod.fst (Prod.snd x_2) ++ (Prod.fst r_1, Prod.snd r_1)
  :: ([] : List (Int × Int)), Prod.fst (Prod.snd (Prod.snd x_2)), Prod.snd (Prod.snd (Prod.snd x_2))) ∧ μ (IntKind.wrap IntKind.i64 (x_1 + (1 : Int))) (Prod.fst x_2 ++
  (Prod.fst r, Prod.snd r) :: ([] : List (Int × Int)), Prod.fst (Prod.snd x_2) ++ (Prod.fst r_1, Prod.snd r_1) :: ([] : List (Int × Int)), Prod.fst (Prod.snd (Prod.snd
  x_2)), Prod.snd (Prod.snd (Prod.snd x_2))) < μ x_1 x_2) (cnd (decide (x_1 = (↑((0 : Nat) + (1 : Nat) + (1 : Nat)) : Int))) ((4 : Int) ≠ (0 : Int) ∧ ∃ (r_1 : Int × Int),
  (f9_wp (x_4, IntKind.wrap IntKind.i64 (x_4 + Int.tmod (IntKind.wrap IntKind.i64 (Prod.snd (Prod.fst (Prod.snd (Prod.snd (Prod.fst (Prod.snd (Prod.snd x)))))))) (4 :
  Int)), ()) () fun (r' : Int × Int) ↦ r' = r_1) ∧ (List.length (Prod.fst (Prod.snd x_2)) + List.length ((Prod.fst r_1, Prod.snd r_1) :: ([] : List (Int × Int)))) * (16 :
  Nat) ≤ (140737488355328 : Nat) ∧ I (IntKind.wrap IntKind.i64 (x_1 + (1 : Int))) (Prod.fst x_2 ++ (Prod.fst r, Prod.snd r) :: ([] : List (Int × Int)), Prod.fst (Prod.snd
  x_2) ++ (Prod.fst r_1, Prod.snd r_1) :: ([] : List (Int × Int)), Prod.fst (Prod.snd (Prod.snd x_2)), Prod.snd (Prod.snd (Prod.snd x_2))) ∧ μ (IntKind.wrap IntKind.i64
  (x_1 + (1 : Int))) (Prod.fst x_2 ++ (Prod.fst r, Prod.snd r) :: ([] : List (Int × Int)), Prod.fst (Prod.snd x_2) ++ (Prod.fst r_1, Prod.snd r_1) :: ([] : List (Int ×
  Int)), Prod.fst (Prod.snd (Prod.snd x_2)), Prod.snd (Prod.snd (Prod.snd x_2))) < μ x_1 x_2) (cnd (decide (x_1 = (↑((0 : Nat) + (1 : Nat) + (1 : Nat) + (1 : Nat)) : Int)))
  ((4 : Int) ≠ (0 : Int) ∧ ∃ (r_1 : Int × Int), (f9_wp (x_4, IntKind.wrap IntKind.i64 (x_4 + Int.tmod (IntKind.wrap IntKind.i64 (Prod.snd (Prod.fst (Prod.snd (Prod.snd
  (Prod.snd (Prod.fst (Prod.snd (Prod.snd x))))))))) (4 : Int)), ()) () fun (r' : Int × Int) ↦ r' = r_1) ∧ (List.length (Prod.fst (Prod.snd x_2)) + List.length ((Prod.fst
  r_1, Prod.snd r_1) :: ([] : List (Int × Int)))) * (16 : Nat) ≤ (140737488355328 : Nat) ∧ I (IntKind.wrap IntKind.i64 (x_1 + (1 : Int))) (Prod.fst x_2 ++ (Prod.fst r,
  Prod.snd r) :: ([] : List (Int × Int)), Prod.fst (Prod.snd x_2) ++ (Prod.fst r_1, Prod.snd r_1) :: ([] : List (Int × Int)), Prod.fst (Prod.snd (Prod.snd x_2)), Prod.snd
  (Prod.snd (Prod.snd x_2))) ∧ μ (IntKind.wrap IntKind.i64 (x_1 + (1 : Int))) (Prod.fst x_2 ++ (Prod.fst r, Prod.snd r) :: ([] : List (Int × Int)), Prod.fst (Prod.snd x_2)
  ++ (Prod.fst r_1, Prod.snd r_1) :: ([] : List (Int × Int)), Prod.fst (Prod.snd (Prod.snd x_2)), Prod.snd (Prod.snd (Prod.snd x_2))) < μ x_1 x_2) (cnd (decide (x_1 = (↑((0
  : Nat) + (1 : Nat) + (1 : Nat) + (1 : Nat) + (1 : Nat)) : Int))) ((4 : Int) ≠ (0 : Int) ∧ ∃ (r_1 : Int × Int), (f9_wp (x_4, IntKind.wrap IntKind.i64 (x_4 + Int.tmod
  (IntKind.wrap IntKind.i64 (Prod.snd (Prod.fst (Prod.snd (Prod.snd (Prod.snd (Prod.snd (Prod.fst (Prod.snd (Prod.snd x)))))))))) (4 : Int)), ()) () fun (r' : Int × Int) ↦
  r' = r_1) ∧ (List.length (Prod.fst (Prod.snd x_2)) + List.length ((Prod.fst r_1, Prod.snd r_1) :: ([] : List (Int × Int)))) * (16 : Nat) ≤ (140737488355328 : Nat) ∧ I
  (IntKind.wrap IntKind.i64 (x_1 + (1 : Int))) (Prod.fst x_2 ++ (Prod.fst r, Prod.snd r) :: ([] : List (Int × Int)), Prod.fst (Prod.snd x_2) ++ (Prod.fst r_1, Prod.snd r_1)
  :: ([] : List (Int × Int)), Prod.fst (Prod.snd (Prod.snd x_2)), Prod.snd (Prod.snd (Prod.snd x_2))) ∧ μ (IntKind.wrap IntKind.i64 (x_1 + (1 : Int))) (Prod.fst x_2 ++
  (Prod.fst r, Prod.snd r) :: ([] : List (Int × Int)), Prod.fst (Prod.snd x_2) ++ (Prod.fst r_1, Prod.snd r_1) :: ([] : List (Int × Int)), Prod.fst (Prod.snd (Prod.snd
  x_2)), Prod.snd (Prod.snd (Prod.snd x_2))) < μ x_1 x_2) (cnd (decide (x_1 = (↑((0 : Nat) + (1 : Nat) + (1 : Nat) + (1 : Nat) + (1 : Nat) + (1 : Nat)) : Int))) ((4 : Int)
  ≠ (0 : Int) ∧ ∃ (r_1 : Int × Int), (f9_wp (x_4, IntKind.wrap IntKind.i64 (x_4 + Int.tmod (IntKind.wrap IntKind.i64 (Prod.snd (Prod.snd (Prod.snd (Prod.snd (Prod.snd
  (Prod.snd (Prod.fst (Prod.snd (Prod.snd x)))))))))) (4 : Int)), ()) () fun (r' : Int × Int) ↦ r' = r_1) ∧ (List.length (Prod.fst (Prod.snd x_2)) + List.length ((Prod.fst
  r_1, Prod.snd r_1) :: ([] : List (Int × Int)))) * (16 : Nat) ≤ (140737488355328 : Nat) ∧ I (IntKind.wrap IntKind.i64 (x_1 + (1 : Int))) (Prod.fst x_2 ++ (Prod.fst r,
  Prod.snd r) :: ([] : List (Int × Int)), Prod.fst (Prod.snd x_2) ++ (Prod.fst r_1, Prod.snd r_1) :: ([] : List (Int × Int)), Prod.fst (Prod.snd (Prod.snd x_2)), Prod.snd
  (Prod.snd (Prod.snd x_2))) ∧ μ (IntKind.wrap IntKind.i64 (x_1 + (1 : Int))) (Prod.fst x_2 ++ (Prod.fst r, Prod.snd r) :: ([] : List (Int × Int)), Prod.fst (Prod.snd x_2)
  ++ (Prod.fst r_1, Prod.snd r_1) :: ([] : List (Int × Int)), Prod.fst (Prod.snd (Prod.snd x_2)), Prod.snd (Prod.snd (Prod.snd x_2))) < μ x_1 x_2) False)))))) (cnd (decide
  (x_1 = (↑((0 : Nat) + (1 : Nat) + (1 : Nat)) : Int))) ((4 : Int) ≠ (0 : Int) ∧ ∃ (r : Int × Int), (f9_wp (x_3, IntKind.wrap IntKind.i64 (x_3 + Int.tmod (IntKind.wrap
  IntKind.i64 (Prod.snd (Prod.fst (Prod.snd (Prod.snd (Prod.fst (Prod.snd x))))))) (4 : Int)), ()) () fun (r' : Int × Int) ↦ r' = r) ∧ (List.length (Prod.fst x_2) +
  List.length ((Prod.fst r, Prod.snd r) :: ([] : List (Int × Int)))) * (16 : Nat) ≤ (140737488355328 : Nat) ∧ (0 : Int) ≤ x_1 ∧ x_1 < (↑(6 : Nat) : Int) ∧ cnd (decide (x_1
  = (↑(0 : Nat) : Int))) ((4 : Int) ≠ (0 : Int) ∧ ∃ (r_1 : Int × Int), (f9_wp (x_4, IntKind.wrap IntKind.i64 (x_4 + Int.tmod (IntKind.wrap IntKind.i64 (Prod.snd (Prod.fst
  (Prod.fst (Prod.snd (Prod.snd x)))))) (4 : Int)), ()) () fun (r' : Int × Int) ↦ r' = r_1) ∧ (List.length (Prod.fst (Prod.snd x_2)) + List.length ((Prod.fst r_1, Prod.snd
  r_1) :: ([] : List (Int × Int)))) * (16 : Nat) ≤ (140737488355328 : Nat) ∧ I (IntKind.wrap IntKind.i64 (x_1 + (1 : Int))) (Prod.fst x_2 ++ (Prod.fst r, Prod.snd r) :: ([]
  : List (Int × Int)), Prod.fst (Prod.snd x_2) ++ (Prod.fst r_1, Prod.snd r_1) :: ([] : List (Int × Int)), Prod.fst (Prod.snd (Prod.snd x_2)), Prod.snd (Prod.snd (Prod.snd
  x_2))) ∧ μ (IntKind.wrap IntKind.i64 (x_1 + (1 : Int))) (Prod.fst x_2 ++ (Prod.fst r, Prod.snd r) :: ([] : List (Int × Int)), Prod.fst (Prod.snd x_2) ++ (Prod.fst r_1,
  Prod.snd r_1) :: ([] : List (Int × Int)), Prod.fst (Prod.snd (Prod.snd x_2)), Prod.snd (Prod.snd (Prod.snd x_2))) < μ x_1 x_2) (cnd (decide (x_1 = (↑((0 : Nat) + (1 :
  Nat)) : Int))) ((4 : Int) ≠ (0 : Int) ∧ ∃ (r_1 : Int × Int), (f9_wp (x_4, IntKind.wrap IntKind.i64 (x_4 + Int.tmod (IntKind.wrap IntKind.i64 (Prod.snd (Prod.fst (Prod.snd
  (Prod.fst (Prod.snd (Prod.snd x))))))) (4 : Int)), ()) () fun (r' : Int × Int) ↦ r' = r_1) ∧ (List.length (Prod.fst (Prod.snd x_2)) + List.length ((Prod.fst r_1, Prod.snd
  r_1) :: ([] : List (Int × Int)))) * (16 : Nat) ≤ (140737488355328 : Nat) ∧ I (IntKind.wrap IntKind.i64 (x_1 + (1 : Int))) (Prod.fst x_2 ++ (Prod.fst r, Prod.snd r) :: ([]
  : List (Int × Int)), Prod.fst (Prod.snd x_2) ++ (Prod.fst r_1, Prod.snd r_1) :: ([] : List (Int × Int)), Prod.fst (Prod.snd (Prod.snd x_2)), Prod.snd (Prod.snd (Prod.snd
  x_2))) ∧ μ (IntKind.wrap IntKind.i64 (x_1 + (1 : Int))) (Prod.fst x_2 ++ (Prod.fst r, Prod.snd r) :: ([] : List (Int × Int)), Prod.fst (Prod.snd x_2) ++ (Prod.fst r_1,
  Prod.snd r_1) :: ([] : List (Int × Int)), Prod.fst (Prod.snd (Prod.snd x_2)), Prod.snd (Prod.snd (Prod.snd x_2))) < μ x_1 x_2) (cnd (decide (x_1 = (↑((0 : Nat) + (1 :
  Nat) + (1 : Nat)) : Int))) ((4 : Int) ≠ (0 : Int) ∧ ∃ (r_1 : Int × Int), (f9_wp (x_4, IntKind.wrap IntKind.i64 (x_4 + Int.tmod (IntKind.wrap IntKind.i64 (Prod.snd
  (Prod.fst (Prod.snd (Prod.snd (Prod.fst (Prod.snd (Prod.snd x)))))))) (4 : Int)), ()) () fun (r' : Int × Int) ↦ r' = r_1) ∧ (List.length (Prod.fst (Prod.snd x_2)) +
  List.length ((Prod.fst r_1, Prod.snd r_1) :: ([] : List (Int × Int)))) * (16 : Nat) ≤ (140737488355328 : Nat) ∧ I (IntKind.wrap IntKind.i64 (x_1 + (1 : Int))) (Prod.fst
  x_2 ++ (Prod.fst r, Prod.snd r) :: ([] : List (Int × Int)), Prod.fst (Prod.snd x_2) ++ (Prod.fst r_1, Prod.snd r_1) :: ([] : List (Int × Int)), Prod.fst (Prod.snd
  (Prod.snd x_2)), Prod.snd (Prod.snd (Prod.snd x_2))) ∧ μ (IntKind.wrap IntKind.i64 (x_1 + (1 : Int))) (Prod.fst x_2 ++ (Prod.fst r, Prod.snd r) :: ([] : List (Int ×
  Int)), Prod.fst (Prod.snd x_2) ++ (Prod.fst r_1, Prod.snd r_1) :: ([] : List (Int × Int)), Prod.fst (Prod.snd (Prod.snd x_2)), Prod.snd (Prod.snd (Prod.snd x_2))) < μ x_1
  x_2) (cnd (decide (x_1 = (↑((0 : Nat) + (1 : Nat) + (1 : Nat) + (1 : Nat)) : Int))) ((4 : Int) ≠ (0 : Int) ∧ ∃ (r_1 : Int × Int), (f9_wp (x_4, IntKind.wrap IntKind.i64
  (x_4 + Int.tmod (IntKind.wrap IntKind.i64 (Prod.snd (Prod.fst (Prod.snd (Prod.snd (Prod.snd (Prod.fst (Prod.snd (Prod.snd x))))))))) (4 : Int)), ()) () fun (r' : Int ×
  Int) ↦ r' = r_1) ∧ (List.length (Prod.fst (Prod.snd x_2)) + List.length ((Prod.fst r_1, Prod.snd r_1) :: ([] : List (Int × Int)))) * (16 : Nat) ≤ (140737488355328 : Nat)
  ∧ I (IntKind.wrap IntKind.i64 (x_1 + (1 : Int))) (Prod.fst x_2 ++ (Prod.fst r, Prod.snd r) :: ([] : List (Int × Int)), Prod.fst (Prod.snd x_2) ++ (Prod.fst r_1, Prod.snd
  r_1) :: ([] : List (Int × Int)), Prod.fst (Prod.snd (Prod.snd x_2)), Prod.snd (Prod.snd (Prod.snd x_2))) ∧ μ (IntKind.wrap IntKind.i64 (x_1 + (1 : Int))) (Prod.fst x_2 ++
  (Prod.fst r, Prod.snd r) :: ([] : List (Int × Int)), Prod.fst (Prod.snd x_2) ++ (Prod.fst r_1, Prod.snd r_1) :: ([] : List (Int × Int)), Prod.fst (Prod.snd (Prod.snd
  x_2)), Prod.snd (Prod.snd (Prod.snd x_2))) < μ x_1 x_2) (cnd (decide (x_1 = (↑((0 : Nat) + (1 : Nat) + (1 : Nat) + (1 : Nat) + (1 : Nat)) : Int))) ((4 : Int) ≠ (0 : Int)
  ∧ ∃ (r_1 : Int × Int), (f9_wp (x_4, IntKind.wrap IntKind.i64 (x_4 + Int.tmod (IntKind.wrap IntKind.i64 (Prod.snd (Prod.fst (Prod.snd (Prod.snd (Prod.snd (Prod.snd
  (Prod.fst (Prod.snd (Prod.snd x)))))))))) (4 : Int)), ()) () fun (r' : Int × Int) ↦ r' = r_1) ∧ (List.length (Prod.fst (Prod.snd x_2)) + List.length ((Prod.fst r_1,
  Prod.snd r_1) :: ([] : List (Int × Int)))) * (16 : Nat) ≤ (140737488355328 : Nat) ∧ I (IntKind.wrap IntKind.i64 (x_1 + (1 : Int))) (Prod.fst x_2 ++ (Prod.fst r, Prod.snd
  r) :: ([] : List (Int × Int)), Prod.fst (Prod.snd x_2) ++ (Prod.fst r_1, Prod.snd r_1) :: ([] : List (Int × Int)), Prod.fst (Prod.snd (Prod.snd x_2)), Prod.snd (Prod.snd
  (Prod.snd x_2))) ∧ μ (IntKind.wrap IntKind.i64 (x_1 + (1 : Int))) (Prod.fst x_2 ++ (Prod.fst r, Prod.snd r) :: ([] : List (Int × Int)), Prod.fst (Prod.snd x_2) ++
  (Prod.fst r_1, Prod.snd r_1) :: ([] : List (Int × Int)), Prod.fst (Prod.snd (Prod.snd x_2)), Prod.snd (Prod.snd (Prod.snd x_2))) < μ x_1 x_2) (cnd (decide (x_1 = (↑((0 :
  Nat) + (1 : Nat) + (1 : Nat) + (1 : Nat) + (1 : Nat) + (1 : Nat)) : Int))) ((4 : Int) ≠ (0 : Int) ∧ ∃ (r_1 : Int × Int), (f9_wp (x_4, IntKind.wrap IntKind.i64 (x_4 +
  Int.tmod (IntKind.wrap IntKind.i64 (Prod.snd (Prod.snd (Prod.snd (Prod.snd (Prod.snd (Prod.snd (Prod.fst (Prod.snd (Prod.snd x)))))))))) (4 : Int)), ()) () fun (r' : Int
  × Int) ↦ r' = r_1) ∧ (List.length (Prod.fst (Prod.snd x_2)) + List.length ((Prod.fst r_1, Prod.snd r_1) :: ([] : List (Int × Int)))) * (16 : Nat) ≤ (140737488355328 :
  Nat) ∧ I (IntKind.wrap IntKind.i64 (x_1 + (1 : Int))) (Prod.fst x_2 ++ (Prod.fst r, Prod.snd r) :: ([] : List (Int × Int)), Prod.fst (Prod.snd x_2) ++ (Prod.fst r_1,
  Prod.snd r_1) :: ([] : List (Int × Int)), Prod.fst (Prod.snd (Prod.snd x_2)), Prod.snd (Prod.snd (Prod.snd x_2))) ∧ μ (IntKind.wrap IntKind.i64 (x_1 + (1 : Int)))
  (Prod.fst x_2 ++ (Prod.fst r, Prod.snd r) :: ([] : List (Int × Int)), Prod.fst (Prod.snd x_2) ++ (Prod.fst r_1, Prod.snd r_1) :: ([] : List (Int × Int)), Prod.fst
  (Prod.snd (Prod.snd x_2)), Prod.snd (Prod.snd (Prod.snd x_2))) < μ x_1 x_2) False)))))) (cnd (decide (x_1 = (↑((0 : Nat) + (1 : Nat) + (1 : Nat) + (1 : Nat)) : Int))) ((4
  : Int) ≠ (0 : Int) ∧ ∃ (r : Int × Int), (f9_wp (x_3, IntKind.wrap IntKind.i64 (x_3 + Int.tmod (IntKind.wrap IntKind.i64 (Prod.snd (Prod.fst (Prod.snd (Prod.snd (Prod.snd
  (Prod.fst (Prod.snd x)))))))) (4 : Int)), ()) () fun (r' : Int × Int) ↦ r' = r) ∧ (List.length (Prod.fst x_2) + List.length ((Prod.fst r, Prod.snd r) :: ([] : List (Int ×
  Int)))) * (16 : Nat) ≤ (140737488355328 : Nat) ∧ (0 : Int) ≤ x_1 ∧ x_1 < (↑(6 : Nat) : Int) ∧ cnd (decide (x_1 = (↑(0 : Nat) : Int))) ((4 : Int) ≠ (0 : Int) ∧ ∃ (r_1 :
  Int × Int), (f9_wp (x_4, IntKind.wrap IntKind.i64 (x_4 + Int.tmod (IntKind.wrap IntKind.i64 (Prod.snd (Prod.fst (Prod.fst (Prod.snd (Prod.snd x)))))) (4 : Int)), ()) ()
  fun (r' : Int × Int) ↦ r' = r_1) ∧ (List.length (Prod.fst (Prod.snd x_2)) + List.length ((Prod.fst r_1, Prod.snd r_1) :: ([] : List (Int × Int)))) * (16 : Nat) ≤
  (140737488355328 : Nat) ∧ I (IntKind.wrap IntKind.i64 (x_1 + (1 : Int))) (Prod.fst x_2 ++ (Prod.fst r, Prod.snd r) :: ([] : List (Int × Int)), Prod.fst (Prod.snd x_2) ++
  (Prod.fst r_1, Prod.snd r_1) :: ([] : List (Int × Int)), Prod.fst (Prod.snd (Prod.snd x_2)), Prod.snd (Prod.snd (Prod.snd x_2))) ∧ μ (IntKind.wrap IntKind.i64 (x_1 + (1 :
  Int))) (Prod.fst x_2 ++ (Prod.fst r, Prod.snd r) :: ([] : List (Int × Int)), Prod.fst (Prod.snd x_2) ++ (Prod.fst r_1, Prod.snd r_1) :: ([] : List (Int × Int)), Prod.fst
  (Prod.snd (Prod.snd x_2)), Prod.snd (Prod.snd (Prod.snd x_2))) < μ x_1 x_2) (cnd (decide (x_1 = (↑((0 : Nat) + (1 : Nat)) : Int))) ((4 : Int) ≠ (0 : Int) ∧ ∃ (r_1 : Int ×
  Int), (f9_wp (x_4, IntKind.wrap IntKind.i64 (x_4 + Int.tmod (IntKind.wrap IntKind.i64 (Prod.snd (Prod.fst (Prod.snd (Prod.fst (Prod.snd (Prod.snd x))))))) (4 : Int)), ())
  () fun (r' : Int × Int) ↦ r' = r_1) ∧ (List.length (Prod.fst (Prod.snd x_2)) + List.length ((Prod.fst r_1, Prod.snd r_1) :: ([] : List (Int × Int)))) * (16 : Nat) ≤
  (140737488355328 : Nat) ∧ I (IntKind.wrap IntKind.i64 (x_1 + (1 : Int))) (Prod.fst x_2 ++ (Prod.fst r, Prod.snd r) :: ([] : List (Int × Int)), Prod.fst (Prod.snd x_2) ++
  (Prod.fst r_1, Prod.snd r_1) :: ([] : List (Int × Int)), Prod.fst (Prod.snd (Prod.snd x_2)), Prod.snd (Prod.snd (Prod.snd x_2))) ∧ μ (IntKind.wrap IntKind.i64 (x_1 + (1 :
  Int))) (Prod.fst x_2 ++ (Prod.fst r, Prod.snd r) :: ([] : List (Int × Int)), Prod.fst (Prod.snd x_2) ++ (Prod.fst r_1, Prod.snd r_1) :: ([] : List (Int × Int)), Prod.fst
  (Prod.snd (Prod.snd x_2)), Prod.snd (Prod.snd (Prod.snd x_2))) < μ x_1 x_2) (cnd (decide (x_1 = (↑((0 : Nat) + (1 : Nat) + (1 : Nat)) : Int))) ((4 : Int) ≠ (0 : Int) ∧ ∃
  (r_1 : Int × Int), (f9_wp (x_4, IntKind.wrap IntKind.i64 (x_4 + Int.tmod (IntKind.wrap IntKind.i64 (Prod.snd (Prod.fst (Prod.snd (Prod.snd (Prod.fst (Prod.snd (Prod.snd
  x)))))))) (4 : Int)), ()) () fun (r' : Int × Int) ↦ r' = r_1) ∧ (List.length (Prod.fst (Prod.snd x_2)) + List.length ((Prod.fst r_1, Prod.snd r_1) :: ([] : List (Int ×
  Int)))) * (16 : Nat) ≤ (140737488355328 : Nat) ∧ I (IntKind.wrap IntKind.i64 (x_1 + (1 : Int))) (Prod.fst x_2 ++ (Prod.fst r, Prod.snd r) :: ([] : List (Int × Int)),
  Prod.fst (Prod.snd x_2) ++ (Prod.fst r_1, Prod.snd r_1) :: ([] : List (Int × Int)), Prod.fst (Prod.snd (Prod.snd x_2)), Prod.snd (Prod.snd (Prod.snd x_2))) ∧ μ
  (IntKind.wrap IntKind.i64 (x_1 + (1 : Int))) (Prod.fst x_2 ++ (Prod.fst r, Prod.snd r) :: ([] : List (Int × Int)), Prod.fst (Prod.snd x_2) ++ (Prod.fst r_1, Prod.snd r_1)
  :: ([] : List (Int × Int)), Prod.fst (Prod.snd (Prod.snd x_2)), Prod.snd (Prod.snd (Prod.snd x_2))) < μ x_1 x_2) (cnd (decide (x_1 = (↑((0 : Nat) + (1 : Nat) + (1 : Nat)
  + (1 : Nat)) : Int))) ((4 : Int) ≠ (0 : Int) ∧ ∃ (r_1 : Int × Int), (f9_wp (x_4, IntKind.wrap IntKind.i64 (x_4 + Int.tmod (IntKind.wrap IntKind.i64 (Prod.snd (Prod.fst
  (Prod.snd (Prod.snd (Prod.snd (Prod.fst (Prod.snd (Prod.snd x))))))))) (4 : Int)), ()) () fun (r' : Int × Int) ↦ r' = r_1) ∧ (List.length (Prod.fst (Prod.snd x_2)) +
  List.length ((Prod.fst r_1, Prod.snd r_1) :: ([] : List (Int × Int)))) * (16 : Nat) ≤ (140737488355328 : Nat) ∧ I (IntKind.wrap IntKind.i64 (x_1 + (1 : Int))) (Prod.fst
  x_2 ++ (Prod.fst r, Prod.snd r) :: ([] : List (Int × Int)), Prod.fst (Prod.snd x_2) ++ (Prod.fst r_1, Prod.snd r_1) :: ([] : List (Int × Int)), Prod.fst (Prod.snd
  (Prod.snd x_2)), Prod.snd (Prod.snd (Prod.snd x_2))) ∧ μ (IntKind.wrap IntKind.i64 (x_1 + (1 : Int))) (Prod.fst x_2 ++ (Prod.fst r, Prod.snd r) :: ([] : List (Int ×
  Int)), Prod.fst (Prod.snd x_2) ++ (Prod.fst r_1, Prod.snd r_1) :: ([] : List (Int × Int)), Prod.fst (Prod.snd (Prod.snd x_2)), Prod.snd (Prod.snd (Prod.snd x_2))) < μ x_1
  x_2) (cnd (decide (x_1 = (↑((0 : Nat) + (1 : Nat) + (1 : Nat) + (1 : Nat) + (1 : Nat)) : Int))) ((4 : Int) ≠ (0 : Int) ∧ ∃ (r_1 : Int × Int), (f9_wp (x_4, IntKind.wrap
  IntKind.i64 (x_4 + Int.tmod (IntKind.wrap IntKind.i64 (Prod.snd (Prod.fst (Prod.snd (Prod.snd (Prod.snd (Prod.snd (Prod.fst (Prod.snd (Prod.snd x)))))))))) (4 : Int)),
  ()) () fun (r' : Int × Int) ↦ r' = r_1) ∧ (List.length (Prod.fst (Prod.snd x_2)) + List.length ((Prod.fst r_1, Prod.snd r_1) :: ([] : List (Int × Int)))) * (16 : Nat) ≤
  (140737488355328 : Nat) ∧ I (IntKind.wrap IntKind.i64 (x_1 + (1 : Int))) (Prod.fst x_2 ++ (Prod.fst r, Prod.snd r) :: ([] : List (Int × Int)), Prod.fst (Prod.snd x_2) ++
  (Prod.fst r_1, Prod.snd r_1) :: ([] : List (Int × Int)), Prod.fst (Prod.snd (Prod.snd x_2)), Prod.snd (Prod.snd (Prod.snd x_2))) ∧ μ (IntKind.wrap IntKind.i64 (x_1 + (1 :
  Int))) (Prod.fst x_2 ++ (Prod.fst r, Prod.snd r) :: ([] : List (Int × Int)), Prod.fst (Prod.snd x_2) ++ (Prod.fst r_1, Prod.snd r_1) :: ([] : List (Int × Int)), Prod.fst
  (Prod.snd (Prod.snd x_2)), Prod.snd (Prod.snd (Prod.snd x_2))) < μ x_1 x_2) (cnd (decide (x_1 = (↑((0 : Nat) + (1 : Nat) + (1 : Nat) + (1 : Nat) + (1 : Nat) + (1 : Nat))
  : Int))) ((4 : Int) ≠ (0 : Int) ∧ ∃ (r_1 : Int × Int), (f9_wp (x_4, IntKind.wrap IntKind.i64 (x_4 + Int.tmod (IntKind.wrap IntKind.i64 (Prod.snd (Prod.snd (Prod.snd
  (Prod.snd (Prod.snd (Prod.snd (Prod.fst (Prod.snd (Prod.snd x)))))))))) (4 : Int)), ()) () fun (r' : Int × Int) ↦ r' = r_1) ∧ (List.length (Prod.fst (Prod.snd x_2)) +
  List.length ((Prod.fst r_1, Prod.snd r_1) :: ([] : List (Int × Int)))) * (16 : Nat) ≤ (140737488355328 : Nat) ∧ I (IntKind.wrap IntKind.i64 (x_1 + (1 : Int))) (Prod.fst
  x_2 ++ (Prod.fst r, Prod.snd r) :: ([] : List (Int × Int)), Prod.fst (Prod.snd x_2) ++ (Prod.fst r_1, Prod.snd r_1) :: ([] : List (Int × Int)), Prod.fst (Prod.snd
  (Prod.snd x_2)), Prod.snd (Prod.snd (Prod.snd x_2))) ∧ μ (IntKind.wrap IntKind.i64 (x_1 + (1 : Int))) (Prod.fst x_2 ++ (Prod.fst r, Prod.snd r) :: ([] : List (Int ×
  Int)), Prod.fst (Prod.snd x_2) ++ (Prod.fst r_1, Prod.snd r_1) :: ([] : List (Int × Int)), Prod.fst (Prod.snd (Prod.snd x_2)), Prod.snd (Prod.snd (Prod.snd x_2))) < μ x_1
  x_2) False)))))) (cnd (decide (x_1 = (↑((0 : Nat) + (1 : Nat) + (1 : Nat) + (1 : Nat) + (1 : Nat)) : Int))) ((4 : Int) ≠ (0 : Int) ∧ ∃ (r : Int × Int), (f9_wp (x_3,
  IntKind.wrap IntKind.i64 (x_3 + Int.tmod (IntKind.wrap IntKind.i64 (Prod.snd (Prod.fst (Prod.snd (Prod.snd (Prod.snd (Prod.snd (Prod.fst (Prod.snd x))))))))) (4 : Int)),
  ()) () fun (r' : Int × Int) ↦ r' = r) ∧ (List.length (Prod.fst x_2) + List.length ((Prod.fst r, Prod.snd r) :: ([] : List (Int × Int)))) * (16 : Nat) ≤ (140737488355328 :
  Nat) ∧ (0 : Int) ≤ x_1 ∧ x_1 < (↑(6 : Nat) : Int) ∧ cnd (decide (x_1 = (↑(0 : Nat) : Int))) ((4 : Int) ≠ (0 : Int) ∧ ∃ (r_1 : Int × Int), (f9_wp (x_4, IntKind.wrap
  IntKind.i64 (x_4 + Int.tmod (IntKind.wrap IntKind.i64 (Prod.snd (Prod.fst (Prod.fst (Prod.snd (Prod.snd x)))))) (4 : Int)), ()) () fun (r' : Int × Int) ↦ r' = r_1) ∧
  (List.length (Prod.fst (Prod.snd x_2)) + List.length ((Prod.fst r_1, Prod.snd r_1) :: ([] : List (Int × Int)))) * (16 : Nat) ≤ (140737488355328 : Nat) ∧ I (IntKind.wrap
  IntKind.i64 (x_1 + (1 : Int))) (Prod.fst x_2 ++ (Prod.fst r, Prod.snd r) :: ([] : List (Int × Int)), Prod.fst (Prod.snd x_2) ++ (Prod.fst r_1, Prod.snd r_1) :: ([] : List
  (Int × Int)), Prod.fst (Prod.snd (Prod.snd x_2)), Prod.snd (Prod.snd (Prod.snd x_2))) ∧ μ (IntKind.wrap IntKind.i64 (x_1 + (1 : Int))) (Prod.fst x_2 ++ (Prod.fst r,
  Prod.snd r) :: ([] : List (Int × Int)), Prod.fst (Prod.snd x_2) ++ (Prod.fst r_1, Prod.snd r_1) :: ([] : List (Int × Int)), Prod.fst (Prod.snd (Prod.snd x_2)), Prod.snd
  (Prod.snd (Prod.snd x_2))) < μ x_1 x_2) (cnd (decide (x_1 = (↑((0 : Nat) + (1 : Nat)) : Int))) ((4 : Int) ≠ (0 : Int) ∧ ∃ (r_1 : Int × Int), (f9_wp (x_4, IntKind.wrap
  IntKind.i64 (x_4 + Int.tmod (IntKind.wrap IntKind.i64 (Prod.snd (Prod.fst (Prod.snd (Prod.fst (Prod.snd (Prod.snd x))))))) (4 : Int)), ()) () fun (r' : Int × Int) ↦ r' =
  r_1) ∧ (List.length (Prod.fst (Prod.snd x_2)) + List.length ((Prod.fst r_1, Prod.snd r_1) :: ([] : List (Int × Int)))) * (16 : Nat) ≤ (140737488355328 : Nat) ∧ I
  (IntKind.wrap IntKind.i64 (x_1 + (1 : Int))) (Prod.fst x_2 ++ (Prod.fst r, Prod.snd r) :: ([] : List (Int × Int)), Prod.fst (Prod.snd x_2) ++ (Prod.fst r_1, Prod.snd r_1)
  :: ([] : List (Int × Int)), Prod.fst (Prod.snd (Prod.snd x_2)), Prod.snd (Prod.snd (Prod.snd x_2))) ∧ μ (IntKind.wrap IntKind.i64 (x_1 + (1 : Int))) (Prod.fst x_2 ++
  (Prod.fst r, Prod.snd r) :: ([] : List (Int × Int)), Prod.fst (Prod.snd x_2) ++ (Prod.fst r_1, Prod.snd r_1) :: ([] : List (Int × Int)), Prod.fst (Prod.snd (Prod.snd
  x_2)), Prod.snd (Prod.snd (Prod.snd x_2))) < μ x_1 x_2) (cnd (decide (x_1 = (↑((0 : Nat) + (1 : Nat) + (1 : Nat)) : Int))) ((4 : Int) ≠ (0 : Int) ∧ ∃ (r_1 : Int × Int),
  (f9_wp (x_4, IntKind.wrap IntKind.i64 (x_4 + Int.tmod (IntKind.wrap IntKind.i64 (Prod.snd (Prod.fst (Prod.snd (Prod.snd (Prod.fst (Prod.snd (Prod.snd x)))))))) (4 :
  Int)), ()) () fun (r' : Int × Int) ↦ r' = r_1) ∧ (List.length (Prod.fst (Prod.snd x_2)) + List.length ((Prod.fst r_1, Prod.snd r_1) :: ([] : List (Int × Int)))) * (16 :
  Nat) ≤ (140737488355328 : Nat) ∧ I (IntKind.wrap IntKind.i64 (x_1 + (1 : Int))) (Prod.fst x_2 ++ (Prod.fst r, Prod.snd r) :: ([] : List (Int × Int)), Prod.fst (Prod.snd
  x_2) ++ (Prod.fst r_1, Prod.snd r_1) :: ([] : List (Int × Int)), Prod.fst (Prod.snd (Prod.snd x_2)), Prod.snd (Prod.snd (Prod.snd x_2))) ∧ μ (IntKind.wrap IntKind.i64
  (x_1 + (1 : Int))) (Prod.fst x_2 ++ (Prod.fst r, Prod.snd r) :: ([] : List (Int × Int)), Prod.fst (Prod.snd x_2) ++ (Prod.fst r_1, Prod.snd r_1) :: ([] : List (Int ×
  Int)), Prod.fst (Prod.snd (Prod.snd x_2)), Prod.snd (Prod.snd (Prod.snd x_2))) < μ x_1 x_2) (cnd (decide (x_1 = (↑((0 : Nat) + (1 : Nat) + (1 : Nat) + (1 : Nat)) : Int)))
  ((4 : Int) ≠ (0 : Int) ∧ ∃ (r_1 : Int × Int), (f9_wp (x_4, IntKind.wrap IntKind.i64 (x_4 + Int.tmod (IntKind.wrap IntKind.i64 (Prod.snd (Prod.fst (Prod.snd (Prod.snd
  (Prod.snd (Prod.fst (Prod.snd (Prod.snd x))))))))) (4 : Int)), ()) () fun (r' : Int × Int) ↦ r' = r_1) ∧ (List.length (Prod.fst (Prod.snd x_2)) + List.length ((Prod.fst
  r_1, Prod.snd r_1) :: ([] : List (Int × Int)))) * (16 : Nat) ≤ (140737488355328 : Nat) ∧ I (IntKind.wrap IntKind.i64 (x_1 + (1 : Int))) (Prod.fst x_2 ++ (Prod.fst r,
  Prod.snd r) :: ([] : List (Int × Int)), Prod.fst (Prod.snd x_2) ++ (Prod.fst r_1, Prod.snd r_1) :: ([] : List (Int × Int)), Prod.fst (Prod.snd (Prod.snd x_2)), Prod.snd
  (Prod.snd (Prod.snd x_2))) ∧ μ (IntKind.wrap IntKind.i64 (x_1 + (1 : Int))) (Prod.fst x_2 ++ (Prod.fst r, Prod.snd r) :: ([] : List (Int × Int)), Prod.fst (Prod.snd x_2)
  ++ (Prod.fst r_1, Prod.snd r_1) :: ([] : List (Int × Int)), Prod.fst (Prod.snd (Prod.snd x_2)), Prod.snd (Prod.snd (Prod.snd x_2))) < μ x_1 x_2) (cnd (decide (x_1 = (↑((0
  : Nat) + (1 : Nat) + (1 : Nat) + (1 : Nat) + (1 : Nat)) : Int))) ((4 : Int) ≠ (0 : Int) ∧ ∃ (r_1 : Int × Int), (f9_wp (x_4, IntKind.wrap IntKind.i64 (x_4 + Int.tmod
  (IntKind.wrap IntKind.i64 (Prod.snd (Prod.fst (Prod.snd (Prod.snd (Prod.snd (Prod.snd (Prod.fst (Prod.snd (Prod.snd x)))))))))) (4 : Int)), ()) () fun (r' : Int × Int) ↦
  r' = r_1) ∧ (List.length (Prod.fst (Prod.snd x_2)) + List.length ((Prod.fst r_1, Prod.snd r_1) :: ([] : List (Int × Int)))) * (16 : Nat) ≤ (140737488355328 : Nat) ∧ I
  (IntKind.wrap IntKind.i64 (x_1 + (1 : Int))) (Prod.fst x_2 ++ (Prod.fst r, Prod.snd r) :: ([] : List (Int × Int)), Prod.fst (Prod.snd x_2) ++ (Prod.fst r_1, Prod.snd r_1)
  :: ([] : List (Int × Int)), Prod.fst (Prod.snd (Prod.snd x_2)), Prod.snd (Prod.snd (Prod.snd x_2))) ∧ μ (IntKind.wrap IntKind.i64 (x_1 + (1 : Int))) (Prod.fst x_2 ++
  (Prod.fst r, Prod.snd r) :: ([] : List (Int × Int)), Prod.fst (Prod.snd x_2) ++ (Prod.fst r_1, Prod.snd r_1) :: ([] : List (Int × Int)), Prod.fst (Prod.snd (Prod.snd
  x_2)), Prod.snd (Prod.snd (Prod.snd x_2))) < μ x_1 x_2) (cnd (decide (x_1 = (↑((0 : Nat) + (1 : Nat) + (1 : Nat) + (1 : Nat) + (1 : Nat) + (1 : Nat)) : Int))) ((4 : Int)
  ≠ (0 : Int) ∧ ∃ (r_1 : Int × Int), (f9_wp (x_4, IntKind.wrap IntKind.i64 (x_4 + Int.tmod (IntKind.wrap IntKind.i64 (Prod.snd (Prod.snd (Prod.snd (Prod.snd (Prod.snd
  (Prod.snd (Prod.fst (Prod.snd (Prod.snd x)))))))))) (4 : Int)), ()) () fun (r' : Int × Int) ↦ r' = r_1) ∧ (List.length (Prod.fst (Prod.snd x_2)) + List.length ((Prod.fst
  r_1, Prod.snd r_1) :: ([] : List (Int × Int)))) * (16 : Nat) ≤ (140737488355328 : Nat) ∧ I (IntKind.wrap IntKind.i64 (x_1 + (1 : Int))) (Prod.fst x_2 ++ (Prod.fst r,
  Prod.snd r) :: ([] : List (Int × Int)), Prod.fst (Prod.snd x_2) ++ (Prod.fst r_1, Prod.snd r_1) :: ([] : List (Int × Int)), Prod.fst (Prod.snd (Prod.snd x_2)), Prod.snd
  (Prod.snd (Prod.snd x_2))) ∧ μ (IntKind.wrap IntKind.i64 (x_1 + (1 : Int))) (Prod.fst x_2 ++ (Prod.fst r, Prod.snd r) :: ([] : List (Int × Int)), Prod.fst (Prod.snd x_2)
  ++ (Prod.fst r_1, Prod.snd r_1) :: ([] : List (Int × Int)), Prod.fst (Prod.snd (Prod.snd x_2)), Prod.snd (Prod.snd (Prod.snd x_2))) < μ x_1 x_2) False)))))) (cnd (decide
  (x_1 = (↑((0 : Nat) + (1 : Nat) + (1 : Nat) + (1 : Nat) + (1 : Nat) + (1 : Nat)) : Int))) ((4 : Int) ≠ (0 : Int) ∧ ∃ (r : Int × Int), (f9_wp (x_3, IntKind.wrap
  IntKind.i64 (x_3 + Int.tmod (IntKind.wrap IntKind.i64 (Prod.snd (Prod.snd (Prod.snd (Prod.snd (Prod.snd (Prod.snd (Prod.fst (Prod.snd x))))))))) (4 : Int)), ()) () fun
  (r' : Int × Int) ↦ r' = r) ∧ (List.length (Prod.fst x_2) + List.length ((Prod.fst r, Prod.snd r) :: ([] : List (Int × Int)))) * (16 : Nat) ≤ (140737488355328 : Nat) ∧ (0
  : Int) ≤ x_1 ∧ x_1 < (↑(6 : Nat) : Int) ∧ cnd (decide (x_1 = (↑(0 : Nat) : Int))) ((4 : Int) ≠ (0 : Int) ∧ ∃ (r_1 : Int × Int), (f9_wp (x_4, IntKind.wrap IntKind.i64 (x_4
  + Int.tmod (IntKind.wrap IntKind.i64 (Prod.snd (Prod.fst (Prod.fst (Prod.snd (Prod.snd x)))))) (4 : Int)), ()) () fun (r' : Int × Int) ↦ r' = r_1) ∧ (List.length
  (Prod.fst (Prod.snd x_2)) + List.length ((Prod.fst r_1, Prod.snd r_1) :: ([] : List (Int × Int)))) * (16 : Nat) ≤ (140737488355328 : Nat) ∧ I (IntKind.wrap IntKind.i64
  (x_1 + (1 : Int))) (Prod.fst x_2 ++ (Prod.fst r, Prod.snd r) :: ([] : List (Int × Int)), Prod.fst (Prod.snd x_2) ++ (Prod.fst r_1, Prod.snd r_1) :: ([] : List (Int ×
  Int)), Prod.fst (Prod.snd (Prod.snd x_2)), Prod.snd (Prod.snd (Prod.snd x_2))) ∧ μ (IntKind.wrap IntKind.i64 (x_1 + (1 : Int))) (Prod.fst x_2 ++ (Prod.fst r, Prod.snd r)
  :: ([] : List (Int × Int)), Prod.fst (Prod.snd x_2) ++ (Prod.fst r_1, Prod.snd r_1) :: ([] : List (Int × Int)), Prod.fst (Prod.snd (Prod.snd x_2)), Prod.snd (Prod.snd
  (Prod.snd x_2))) < μ x_1 x_2) (cnd (decide (x_1 = (↑((0 : Nat) + (1 : Nat)) : Int))) ((4 : Int) ≠ (0 : Int) ∧ ∃ (r_1 : Int × Int), (f9_wp (x_4, IntKind.wrap IntKind.i64
  (x_4 + Int.tmod (IntKind.wrap IntKind.i64 (Prod.snd (Prod.fst (Prod.snd (Prod.fst (Prod.snd (Prod.snd x))))))) (4 : Int)), ()) () fun (r' : Int × Int) ↦ r' = r_1) ∧
  (List.length (Prod.fst (Prod.snd x_2)) + List.length ((Prod.fst r_1, Prod.snd r_1) :: ([] : List (Int × Int)))) * (16 : Nat) ≤ (140737488355328 : Nat) ∧ I (IntKind.wrap
  IntKind.i64 (x_1 + (1 : Int))) (Prod.fst x_2 ++ (Prod.fst r, Prod.snd r) :: ([] : List (Int × Int)), Prod.fst (Prod.snd x_2) ++ (Prod.fst r_1, Prod.snd r_1) :: ([] : List
  (Int × Int)), Prod.fst (Prod.snd (Prod.snd x_2)), Prod.snd (Prod.snd (Prod.snd x_2))) ∧ μ (IntKind.wrap IntKind.i64 (x_1 + (1 : Int))) (Prod.fst x_2 ++ (Prod.fst r,
  Prod.snd r) :: ([] : List (Int × Int)), Prod.fst (Prod.snd x_2) ++ (Prod.fst r_1, Prod.snd r_1) :: ([] : List (Int × Int)), Prod.fst (Prod.snd (Prod.snd x_2)), Prod.snd
  (Prod.snd (Prod.snd x_2))) < μ x_1 x_2) (cnd (decide (x_1 = (↑((0 : Nat) + (1 : Nat) + (1 : Nat)) : Int))) ((4 : Int) ≠ (0 : Int) ∧ ∃ (r_1 : Int × Int), (f9_wp (x_4,
  IntKind.wrap IntKind.i64 (x_4 + Int.tmod (IntKind.wrap IntKind.i64 (Prod.snd (Prod.fst (Prod.snd (Prod.snd (Prod.fst (Prod.snd (Prod.snd x)))))))) (4 : Int)), ()) () fun
  (r' : Int × Int) ↦ r' = r_1) ∧ (List.length (Prod.fst (Prod.snd x_2)) + List.length ((Prod.fst r_1, Prod.snd r_1) :: ([] : List (Int × Int)))) * (16 : Nat) ≤
  (140737488355328 : Nat) ∧ I (IntKind.wrap IntKind.i64 (x_1 + (1 : Int))) (Prod.fst x_2 ++ (Prod.fst r, Prod.snd r) :: ([] : List (Int × Int)), Prod.fst (Prod.snd x_2) ++
  (Prod.fst r_1, Prod.snd r_1) :: ([] : List (Int × Int)), Prod.fst (Prod.snd (Prod.snd x_2)), Prod.snd (Prod.snd (Prod.snd x_2))) ∧ μ (IntKind.wrap IntKind.i64 (x_1 + (1 :
  Int))) (Prod.fst x_2 ++ (Prod.fst r, Prod.snd r) :: ([] : List (Int × Int)), Prod.fst (Prod.snd x_2) ++ (Prod.fst r_1, Prod.snd r_1) :: ([] : List (Int × Int)), Prod.fst
  (Prod.snd (Prod.snd x_2)), Prod.snd (Prod.snd (Prod.snd x_2))) < μ x_1 x_2) (cnd (decide (x_1 = (↑((0 : Nat) + (1 : Nat) + (1 : Nat) + (1 : Nat)) : Int))) ((4 : Int) ≠ (0
  : Int) ∧ ∃ (r_1 : Int × Int), (f9_wp (x_4, IntKind.wrap IntKind.i64 (x_4 + Int.tmod (IntKind.wrap IntKind.i64 (Prod.snd (Prod.fst (Prod.snd (Prod.snd (Prod.snd (Prod.fst
  (Prod.snd (Prod.snd x))))))))) (4 : Int)), ()) () fun (r' : Int × Int) ↦ r' = r_1) ∧ (List.length (Prod.fst (Prod.snd x_2)) + List.length ((Prod.fst r_1, Prod.snd r_1) ::
  ([] : List (Int × Int)))) * (16 : Nat) ≤ (140737488355328 : Nat) ∧ I (IntKind.wrap IntKind.i64 (x_1 + (1 : Int))) (Prod.fst x_2 ++ (Prod.fst r, Prod.snd r) :: ([] : List
  (Int × Int)), Prod.fst (Prod.snd x_2) ++ (Prod.fst r_1, Prod.snd r_1) :: ([] : List (Int × Int)), Prod.fst (Prod.snd (Prod.snd x_2)), Prod.snd (Prod.snd (Prod.snd x_2)))
  ∧ μ (IntKind.wrap IntKind.i64 (x_1 + (1 : Int))) (Prod.fst x_2 ++ (Prod.fst r, Prod.snd r) :: ([] : List (Int × Int)), Prod.fst (Prod.snd x_2) ++ (Prod.fst r_1, Prod.snd
  r_1) :: ([] : List (Int × Int)), Prod.fst (Prod.snd (Prod.snd x_2)), Prod.snd (Prod.snd (Prod.snd x_2))) < μ x_1 x_2) (cnd (decide (x_1 = (↑((0 : Nat) + (1 : Nat) + (1 :
  Nat) + (1 : Nat) + (1 : Nat)) : Int))) ((4 : Int) ≠ (0 : Int) ∧ ∃ (r_1 : Int × Int), (f9_wp (x_4, IntKind.wrap IntKind.i64 (x_4 + Int.tmod (IntKind.wrap IntKind.i64
  (Prod.snd (Prod.fst (Prod.snd (Prod.snd (Prod.snd (Prod.snd (Prod.fst (Prod.snd (Prod.snd x)))))))))) (4 : Int)), ()) () fun (r' : Int × Int) ↦ r' = r_1) ∧ (List.length
  (Prod.fst (Prod.snd x_2)) + List.length ((Prod.fst r_1, Prod.snd r_1) :: ([] : List (Int × Int)))) * (16 : Nat) ≤ (140737488355328 : Nat) ∧ I (IntKind.wrap IntKind.i64
  (x_1 + (1 : Int))) (Prod.fst x_2 ++ (Prod.fst r, Prod.snd r) :: ([] : List (Int × Int)), Prod.fst (Prod.snd x_2) ++ (Prod.fst r_1, Prod.snd r_1) :: ([] : List (Int ×
  Int)), Prod.fst (Prod.snd (Prod.snd x_2)), Prod.snd (Prod.snd (Prod.snd x_2))) ∧ μ (IntKind.wrap IntKind.i64 (x_1 + (1 : Int))) (Prod.fst x_2 ++ (Prod.fst r, Prod.snd r)
  :: ([] : List (Int × Int)), Prod.fst (Prod.snd x_2) ++ (Prod.fst r_1, Prod.snd r_1) :: ([] : List (Int × Int)), Prod.fst (Prod.snd (Prod.snd x_2)), Prod.snd (Prod.snd
  (Prod.snd x_2))) < μ x_1 x_2) (cnd (decide (x_1 = (↑((0 : Nat) + (1 : Nat) + (1 : Nat) + (1 : Nat) + (1 : Nat) + (1 : Nat)) : Int))) ((4 : Int) ≠ (0 : Int) ∧ ∃ (r_1 : Int
  × Int), (f9_wp (x_4, IntKind.wrap IntKind.i64 (x_4 + Int.tmod (IntKind.wrap IntKind.i64 (Prod.snd (Prod.snd (Prod.snd (Prod.snd (Prod.snd (Prod.snd (Prod.fst (Prod.snd
  (Prod.snd x)))))))))) (4 : Int)), ()) () fun (r' : Int × Int) ↦ r' = r_1) ∧ (List.length (Prod.fst (Prod.snd x_2)) + List.length ((Prod.fst r_1, Prod.snd r_1) :: ([] :
  List (Int × Int)))) * (16 : Nat) ≤ (140737488355328 : Nat) ∧ I (IntKind.wrap IntKind.i64 (x_1 + (1 : Int))) (Prod.fst x_2 ++ (Prod.fst r, Prod.snd r) :: ([] : List (Int ×
  Int)), Prod.fst (Prod.snd x_2) ++ (Prod.fst r_1, Prod.snd r_1) :: ([] : List (Int × Int)), Prod.fst (Prod.snd (Prod.snd x_2)), Prod.snd (Prod.snd (Prod.snd x_2))) ∧ μ
  (IntKind.wrap IntKind.i64 (x_1 + (1 : Int))) (Prod.fst x_2 ++ (Prod.fst r, Prod.snd r) :: ([] : List (Int × Int)), Prod.fst (Prod.snd x_2) ++ (Prod.fst r_1, Prod.snd r_1)
  :: ([] : List (Int × Int)), Prod.fst (Prod.snd (Prod.snd x_2)), Prod.snd (Prod.snd (Prod.snd x_2))) < μ x_1 x_2) False)))))) False)))))) (∃ (I : Int → List (Int × Int) ×
  List (Int × Int) × Int × List ((Int × Int) × (Int × Int) × Int × Int) → Prop), ∃ (μ : Int → List (Int × Int) × List (Int × Int) × Int × List ((Int × Int) × (Int × Int) ×
  Int × Int) → Nat), I (0 : Int) (Prod.fst x_2, Prod.fst (Prod.snd x_2), Prod.fst (Prod.snd (Prod.snd x_2)), Prod.snd (Prod.snd (Prod.snd x_2))) ∧ ∀ (x_3 : Int) (x_4 : List
  (Int × Int) × List (Int × Int) × Int × List ((Int × Int) × (Int × Int) × Int × Int)), I x_3 x_4 → List.length (Prod.fst (Prod.snd (Prod.snd (Prod.snd x)))) ≤
  (9223372036854775807 : Nat) → cnd (decide (x_3 < (↑(List.length (Prod.fst (Prod.snd (Prod.snd (Prod.snd x))))) : Int))) (cnd (decide (x_3 < (2 : Int))) ((0 : Int) ≤ x_3 ∧
  x_3 < (↑(List.length (Prod.fst (Prod.snd (Prod.snd (Prod.snd x))))) : Int) ∧ (0 : Int) ≤ x_3 ∧ x_3 < (↑(List.length (Prod.fst (Prod.snd (Prod.snd (Prod.snd x))))) : Int)
  ∧ IntKind.wrap IntKind.i64 ((1 : Int) + Int.tmod (IntKind.wrap IntKind.i64 (Prod.fst x)) (6 : Int)) ≠ (0 : Int) ∧ (60 : Int) ≠ (0 : Int) ∧ ∃ (r : Int × Int), (f9_wp
  (Int.tmod (IntKind.wrap IntKind.i64 (Prod.fst (List.getD (Prod.fst (Prod.snd (Prod.snd (Prod.snd x)))) (Int.toNat x_3) ((0 : Int), (0 : Int), (0 : Int))))) (IntKind.wrap
  IntKind.i64 ((1 : Int) + Int.tmod (IntKind.wrap IntKind.i64 (Prod.fst x)) (6 : Int))), Int.tmod (IntKind.wrap IntKind.i64 (Prod.fst (List.getD (Prod.fst (Prod.snd
  (Prod.snd (Prod.snd x)))) (Int.toNat x_3) ((0 : Int), (0 : Int), (0 : Int))))) (IntKind.wrap IntKind.i64 ((1 : Int) + Int.tmod (IntKind.wrap IntKind.i64 (Prod.fst x)) (6
  : Int))), ()) () fun (r' : Int × Int) ↦ r' = r) ∧ ∃ (r_1 : Int × Int), (f9_wp (IntKind.wrap IntKind.i64 ((5 : Int) + Int.tmod (IntKind.wrap IntKind.i64 (Prod.fst
  (Prod.snd (List.getD (Prod.fst (Prod.snd (Prod.snd (Prod.snd x)))) (Int.toNat x_3) ((0 : Int), (0 : Int), (0 : Int)))))) (60 : Int)), IntKind.wrap IntKind.i64
  (IntKind.wrap IntKind.i64 ((5 : Int) + Int.tmod (IntKind.wrap IntKind.i64 (Prod.fst (Prod.snd (List.getD (Prod.fst (Prod.snd (Prod.snd (Prod.snd x)))) (Int.toNat x_3) ((0
  : Int), (0 : Int), (0 : Int)))))) (60 : Int)) + (1 : Int)), ()) () fun (r' : Int × Int) ↦ r' = r_1) ∧ (6 : Int) ≠ (0 : Int) ∧ ∃ (r_2 : Int × Int), (f9_wp (IntKind.wrap
  IntKind.i64 (IntKind.wrap IntKind.i64 ((5 : Int) + Int.tmod (IntKind.wrap IntKind.i64 (Prod.fst (Prod.snd (List.getD (Prod.fst (Prod.snd (Prod.snd (Prod.snd x))))
  (Int.toNat x_3) ((0 : Int), (0 : Int), (0 : Int)))))) (60 : Int)) + (1 : Int)), IntKind.wrap IntKind.i64 (IntKind.wrap IntKind.i64 (IntKind.wrap IntKind.i64 ((5 : Int) +
  Int.tmod (IntKind.wrap IntKind.i64 (Prod.fst (Prod.snd (List.getD (Prod.fst (Prod.snd (Prod.snd (Prod.snd x)))) (Int.toNat x_3) ((0 : Int), (0 : Int), (0 : Int)))))) (60
  : Int)) + (2 : Int)) + Int.tmod (IntKind.wrap IntKind.i64 (Prod.snd (Prod.snd (List.getD (Prod.fst (Prod.snd (Prod.snd (Prod.snd x)))) (Int.toNat x_3) ((0 : Int), (0 :
  Int), (0 : Int)))))) (6 : Int)), ()) () fun (r' : Int × Int) ↦ r' = r_2) ∧ (List.length (Prod.snd (Prod.snd (Prod.snd x_4))) + List.length (((Prod.fst r, Prod.snd r),
  (Prod.fst r_1, Prod.snd r_1), Prod.fst r_2, Prod.snd r_2) :: ([] : List ((Int × Int) × (Int × Int) × Int × Int)))) * (48 : Nat) ≤ (140737488355328 : Nat) ∧ I
  (IntKind.wrap IntKind.i64 (x_3 + (1 : Int))) (Prod.fst x_4, Prod.fst (Prod.snd x_4), Prod.fst (Prod.snd (Prod.snd x_4)), Prod.snd (Prod.snd (Prod.snd x_4)) ++ ((Prod.fst
  r, Prod.snd r), (Prod.fst r_1, Prod.snd r_1), Prod.fst r_2, Prod.snd r_2) :: ([] : List ((Int × Int) × (Int × Int) × Int × Int))) ∧ μ (IntKind.wrap IntKind.i64 (x_3 + (1
  : Int))) (Prod.fst x_4, Prod.fst (Prod.snd x_4), Prod.fst (Prod.snd (Prod.snd x_4)), Prod.snd (Prod.snd (Prod.snd x_4)) ++ ((Prod.fst r, Prod.snd r), (Prod.fst r_1,
  Prod.snd r_1), Prod.fst r_2, Prod.snd r_2) :: ([] : List ((Int × Int) × (Int × Int) × Int × Int))) < μ x_3 x_4) ((3 : Int) ≠ (0 : Int) ∧ (14 : Int) ≠ (0 : Int) ∧ (4 :
  Int) ≠ (0 : Int) ∧ (2 : Int) ≠ (0 : Int) ∧ Q ((Prod.fst x_4, Prod.fst (Prod.snd x_4), Prod.fst (Prod.snd (Prod.snd x_4)), Prod.snd (Prod.snd (Prod.snd x_4))),
  (IntKind.wrap IntKind.i64 ((1 : Int) + Int.tmod (IntKind.wrap IntKind.i64 (Prod.fst (Prod.snd (Prod.snd (Prod.snd (Prod.snd x)))))) (3 : Int)), IntKind.wrap IntKind.i64
  ((3 : Int) + Int.tmod (IntKind.wrap IntKind.i64 (Prod.fst (Prod.snd (Prod.snd (Prod.snd (Prod.snd (Prod.snd x))))))) (14 : Int)), Int.tmod (IntKind.wrap IntKind.i64
  (Prod.fst (Prod.snd (Prod.snd (Prod.snd (Prod.snd (Prod.snd (Prod.snd x)))))))) (4 : Int), Int.tmod (IntKind.wrap IntKind.i64 (Prod.snd (Prod.snd (Prod.snd (Prod.snd
  (Prod.snd (Prod.snd (Prod.snd x)))))))) (2 : Int)), ()))) ((3 : Int) ≠ (0 : Int) ∧ (14 : Int) ≠ (0 : Int) ∧ (4 : Int) ≠ (0 : Int) ∧ (2 : Int) ≠ (0 : Int) ∧ Q ((Prod.fst
  x_4, Prod.fst (Prod.snd x_4), Prod.fst (Prod.snd (Prod.snd x_4)), Prod.snd (Prod.snd (Prod.snd x_4))), (IntKind.wrap IntKind.i64 ((1 : Int) + Int.tmod (IntKind.wrap
  IntKind.i64 (Prod.fst (Prod.snd (Prod.snd (Prod.snd (Prod.snd x)))))) (3 : Int)), IntKind.wrap IntKind.i64 ((3 : Int) + Int.tmod (IntKind.wrap IntKind.i64 (Prod.fst
  (Prod.snd (Prod.snd (Prod.snd (Prod.snd (Prod.snd x))))))) (14 : Int)), Int.tmod (IntKind.wrap IntKind.i64 (Prod.fst (Prod.snd (Prod.snd (Prod.snd (Prod.snd (Prod.snd
  (Prod.snd x)))))))) (4 : Int), Int.tmod (IntKind.wrap IntKind.i64 (Prod.snd (Prod.snd (Prod.snd (Prod.snd (Prod.snd (Prod.snd (Prod.snd x)))))))) (2 : Int)), ())))
theorem v16 (x : Int × ((Int × Int) × (Int × Int) × (Int × Int) × (Int × Int) × (Int × Int) × Int × Int) × ((Int × Int) × (Int × Int) × (Int × Int) × (Int × Int) × (Int × Int) × Int × Int) × List (Int × Int × Int) × Int × Int × Int × Int) (Q : (List (Int × Int) × List (Int × Int) × Int × List ((Int × Int) × (Int × Int) × Int × Int)) × (Int × Int × Int × Int) × Unit → Prop) : V16 x Q = vcFunc (S1 [(9, f9_ct)] [] [] []) f16_ct.own f16_ct.fresh f16_an Try.f16 (bodyOf Try.f16) f16_ct.A f16_ct.C f16_ct.R x () Q := by kernel_rfl

def V17 (b : List (Int × Int) × List (Int × Int) × Int × List ((Int × Int) × (Int × Int) × Int × Int)) (s : Int × Int × Int × Int) (most : Int) (Q : Int → Prop) : Prop :=
  ∃ (r : List (Int × Int) × List (Int × Int) × Int × List ((Int × Int) × (Int × Int) × Int × Int)),
    (f22_wp (Prod.fst b, Prod.fst (Prod.snd b), Prod.fst (Prod.snd (Prod.snd b)), Prod.snd (Prod.snd (Prod.snd b))) ()
        fun (r' : List (Int × Int) × List (Int × Int) × Int × List ((Int × Int) × (Int × Int) × Int × Int)) ↦ r' = r) ∧
      ∃ (r_1 : List (Int × Int) × Int × Unit),
        (f35_wp
            ((Prod.fst r, Prod.fst (Prod.snd r), Prod.fst (Prod.snd (Prod.snd r)), Prod.snd (Prod.snd (Prod.snd r))),
              (Prod.fst s, Prod.fst (Prod.snd s), Prod.fst (Prod.snd (Prod.snd s)), Prod.snd (Prod.snd (Prod.snd s))), ())
            () fun (r' : List (Int × Int) × Int × Unit) ↦ r' = r_1) ∧
          cnd (Prod.fst (Prod.snd r_1) != (0 : Int)) (Q (-1 : Int))
            (List.length (Prod.fst r_1) ≤ (9223372036854775807 : Nat) → Q (mnI (↑(List.length (Prod.fst r_1)) : Int) most))
theorem v17 (b : List (Int × Int) × List (Int × Int) × Int × List ((Int × Int) × (Int × Int) × Int × Int)) (s : Int × Int × Int × Int) (most : Int) (Q : Int → Prop) : V17 b s most Q = vcFunc (S1 [(22, f22_ct), (35, f35_ct)] [] [] []) f17_ct.own f17_ct.fresh no_an Try.f17 (bodyOf Try.f17) f17_ct.A f17_ct.C f17_ct.R (b, s, most, ()) () Q := by kernel_rfl

def V5 (x : Int × ((Int × Int) × (Int × Int) × (Int × Int) × (Int × Int) × (Int × Int) × Int × Int) × ((Int × Int) × (Int × Int) × (Int × Int) × (Int × Int) × (Int × Int) × Int × Int) × List (Int × Int × Int) × Int × Int × Int × Int) (v : Int × Int) (Q : Bool → Prop) : Prop :=
  f16_wp
    (Prod.fst x,
      ((Prod.fst (Prod.fst (Prod.fst (Prod.snd x))), Prod.snd (Prod.fst (Prod.fst (Prod.snd x)))),
        (Prod.fst (Prod.fst (Prod.snd (Prod.fst (Prod.snd x)))), Prod.snd (Prod.fst (Prod.snd (Prod.fst (Prod.snd x))))),
        (Prod.fst (Prod.fst (Prod.snd (Prod.snd (Prod.fst (Prod.snd x))))), Prod.snd (Prod.fst (Prod.snd (Prod.snd (Prod.fst (Prod.snd x)))))),
        (Prod.fst (Prod.fst (Prod.snd (Prod.snd (Prod.snd (Prod.fst (Prod.snd x)))))),
          Prod.snd (Prod.fst (Prod.snd (Prod.snd (Prod.snd (Prod.fst (Prod.snd x))))))),
        (Prod.fst (Prod.fst (Prod.snd (Prod.snd (Prod.snd (Prod.snd (Prod.fst (Prod.snd x))))))),
          Prod.snd (Prod.fst (Prod.snd (Prod.snd (Prod.snd (Prod.snd (Prod.fst (Prod.snd x)))))))),
        Prod.fst (Prod.snd (Prod.snd (Prod.snd (Prod.snd (Prod.snd (Prod.fst (Prod.snd x))))))),
        Prod.snd (Prod.snd (Prod.snd (Prod.snd (Prod.snd (Prod.snd (Prod.fst (Prod.snd x)))))))),
      ((Prod.fst (Prod.fst (Prod.fst (Prod.snd (Prod.snd x)))), Prod.snd (Prod.fst (Prod.fst (Prod.snd (Prod.snd x))))),
        (Prod.fst (Prod.fst (Prod.snd (Prod.fst (Prod.snd (Prod.snd x))))), Prod.snd (Prod.fst (Prod.snd (Prod.fst (Prod.snd (Prod.snd x)))))),
        (Prod.fst (Prod.fst (Prod.snd (Prod.snd (Prod.fst (Prod.snd (Prod.snd x)))))),
          Prod.snd (Prod.fst (Prod.snd (Prod.snd (Prod.fst (Prod.snd (Prod.snd x))))))),
        (Prod.fst (Prod.fst (Prod.snd (Prod.snd (Prod.snd (Prod.fst (Prod.snd (Prod.snd x))))))),
          Prod.snd (Prod.fst (Prod.snd (Prod.snd (Prod.snd (Prod.fst (Prod.snd (Prod.snd x)))))))),
        (Prod.fst (Prod.fst (Prod.snd (Prod.snd (Prod.snd (Prod.snd (Prod.fst (Prod.snd (Prod.snd x)))))))),
          Prod.snd (Prod.fst (Prod.snd (Prod.snd (Prod.snd (Prod.snd (Prod.fst (Prod.snd (Prod.snd x))))))))),
        Prod.fst (Prod.snd (Prod.snd (Prod.snd (Prod.snd (Prod.snd (Prod.fst (Prod.snd (Prod.snd x)))))))),
        Prod.snd (Prod.snd (Prod.snd (Prod.snd (Prod.snd (Prod.snd (Prod.fst (Prod.snd (Prod.snd x))))))))),
      Prod.fst (Prod.snd (Prod.snd (Prod.snd x))), Prod.fst (Prod.snd (Prod.snd (Prod.snd (Prod.snd x)))),
      Prod.fst (Prod.snd (Prod.snd (Prod.snd (Prod.snd (Prod.snd x))))), Prod.fst (Prod.snd (Prod.snd (Prod.snd (Prod.snd (Prod.snd (Prod.snd x)))))),
      Prod.snd (Prod.snd (Prod.snd (Prod.snd (Prod.snd (Prod.snd (Prod.snd x)))))))
    () fun (r : (List (Int × Int) × List (Int × Int) × Int × List ((Int × Int) × (Int × Int) × Int × Int)) × (Int × Int × Int × Int) × Unit) ↦
    f17_wp
      ((Prod.fst (Prod.fst r), Prod.fst (Prod.snd (Prod.fst r)), Prod.fst (Prod.snd (Prod.snd (Prod.fst r))),
          Prod.snd (Prod.snd (Prod.snd (Prod.fst r)))),
        (Prod.fst (Prod.fst (Prod.snd r)), Prod.fst (Prod.snd (Prod.fst (Prod.snd r))), Prod.fst (Prod.snd (Prod.snd (Prod.fst (Prod.snd r)))),
          Prod.snd (Prod.snd (Prod.snd (Prod.fst (Prod.snd r))))),
        (1000 : Int), ())
      () fun (r : Int) ↦
      (9 : Int) ≠ (0 : Int) ∧
        IntKind.wrap IntKind.i64 ((2 : Int) + Int.tmod (IntKind.wrap IntKind.i64 (Prod.fst v)) (9 : Int)) ≠ (0 : Int) ∧
          f18_wp
            ((IntKind.wrap IntKind.i64 ((2 : Int) + Int.tmod (IntKind.wrap IntKind.i64 (Prod.fst v)) (9 : Int)),
                Int.tmod (IntKind.wrap IntKind.i64 (Prod.snd v))
                  (IntKind.wrap IntKind.i64 ((2 : Int) + Int.tmod (IntKind.wrap IntKind.i64 (Prod.fst v)) (9 : Int)))),
              r, ())
            () fun (r_1 : (Int × Int) × Int × Unit) ↦
            cnd (decide (r < (0 : Int))) (Q false)
              (cnd (Prod.fst (Prod.snd r_1) != (0 : Int)) (Q false)
                (cnd (decide (Prod.fst (Prod.fst r_1) < (0 : Int))) (Q false)
                  (cnd (decide (Prod.fst (Prod.fst r_1) > r)) (Q false)
                    (cnd (Prod.snd (Prod.fst r_1) != r) (Q false)
                      (f19_wp
                        ((IntKind.wrap IntKind.i64 ((2 : Int) + Int.tmod (IntKind.wrap IntKind.i64 (Prod.fst v)) (9 : Int)),
                            Int.tmod (IntKind.wrap IntKind.i64 (Prod.snd v))
                              (IntKind.wrap IntKind.i64 ((2 : Int) + Int.tmod (IntKind.wrap IntKind.i64 (Prod.fst v)) (9 : Int)))),
                          Prod.fst (Prod.fst r_1), ())
                        () fun (r_2 : Int × Int × Unit) ↦
                        f19_wp
                          ((IntKind.wrap IntKind.i64 ((2 : Int) + Int.tmod (IntKind.wrap IntKind.i64 (Prod.fst v)) (9 : Int)),
                              Int.tmod (IntKind.wrap IntKind.i64 (Prod.snd v))
                                (IntKind.wrap IntKind.i64 ((2 : Int) + Int.tmod (IntKind.wrap IntKind.i64 (Prod.fst v)) (9 : Int)))),
                            IntKind.wrap IntKind.i64 (Prod.fst (Prod.fst r_1) + (1 : Int)), ())
                          () fun (r_3 : Int × Int × Unit) ↦
                          cnd (Prod.fst (Prod.snd r_2) == (0 : Int))
                            (cnd (Prod.fst (Prod.snd r_3) == (0 : Int))
                              (cnd (decide (Prod.fst r_2 ≤ r)) (cnd (decide (Prod.fst r_3 > r)) (f20_wp () () fun (r : Bool) ↦ Q r) (Q false))
                                (Q false))
                              (Q false))
                            (Q false))))))
end Go.Proofs.Tq
set_option maxRecDepth 100000
set_option linter.unusedVariables false
namespace Go.Proofs.Tq
open Go Go.GX

theorem sure_ok {b : Blade} (hb : BladeOK b) : ViewOK (sureOf b) := by
  have n2 := hb.n2
  refine ⟨by show (b.1.map (·.2)).length ≤ 30; rw [List.length_map]; omega, ?_, ?_, ?_, ?_⟩
  · show (b.2.1.map (·.1)).length = (b.1.map (·.2)).length
    rw [List.length_map, List.length_map, hb.nt]
  · intro y hy
    obtain ⟨s, hs, rfl⟩ := List.mem_map.1 hy
    obtain ⟨h1, h2, h3⟩ := hb.bo s hs
    exact ⟨by omega, by omega⟩
  · intro y hy
    obtain ⟨s, hs, rfl⟩ := List.mem_map.1 hy
    obtain ⟨h1, h2, h3⟩ := hb.to s hs
    exact ⟨by omega, by omega⟩
  · intro s hs
    obtain ⟨c, hc, rfl⟩ := List.mem_map.1 hs
    have h := hb.cr c hc
    unfold crackB edgesB at h
    simp only [Bool.and_eq_true, spanB_iff, decide_eq_true_eq] at h
    obtain ⟨⟨h1, h2⟩, ⟨h3, h4⟩, h5⟩ := h
    refine ⟨?_, ?_, ?_, ?_⟩
    · show 0 ≤ c.1.1; omega
    · show c.1.2 ≤ 30; omega
    · show 0 ≤ c.2.1.1; omega
    · show c.2.2.2 ≤ 300; omega
theorem p35 {b : Blade} {s : Saw} {Q : List Place × Int × Unit → Prop} (h : f35_wp (b, s, ()) () Q) : V35 b s Q := by
  obtain ⟨⟨hb, hs⟩, h⟩ := h
  have hb : BladeOK b := hb
  have n2 := hb.n2
  have nt := hb.nt
  have nc := hb.nc
  refine ⟨⟨hb, hs⟩, ?_⟩
  show cnd ((0 : Int) != 0) _ _
  refine cnd_iff.2 ⟨fun e => by simp at e, fun _ => ?_⟩
  refine ⟨sureOf b, ⟨⟨by show b.1.length ≤ 30; omega, by show b.2.1.length ≤ 30; omega, by show b.2.2.2.length ≤ 4; omega⟩, rfl⟩, mostL (sureOf b) s, ⟨⟨sure_ok hb, hs⟩, fun l hl => hl⟩, ?_⟩
  exact h _ rfl
theorem p9 {a b : Int} {Q : Span → Prop} (h : f9_wp (a, b, ()) () Q) : V9 a b Q := h
theorem p22 {b : Blade} {Q : Blade → Prop} (h : f22_wp b () Q) : V22 b Q := by
  obtain ⟨⟨h1, h2, h3⟩, h⟩ := h
  refine ⟨by simp only [List.length_nil, Nat.zero_add]; omega, by simp only [List.length_nil, Nat.zero_add]; omega, by simp only [List.length_nil, Nat.zero_add]; omega, ?_⟩
  exact h
theorem p17 {b : Blade} {s : Saw} {most : Int} {Q : Int → Prop} (h : f17_wp (b, s, most, ()) () Q) : V17 b s most Q := by
  obtain ⟨⟨hb, hs⟩, h⟩ := h
  have hb : BladeOK b := hb
  have hs : SawOK s := hs
  have n2 := hb.n2
  have nt := hb.nt
  have nc := hb.nc
  refine ⟨b, ⟨⟨by show b.1.length ≤ 1000000; omega, by show b.2.1.length ≤ 1000000; omega, by show b.2.2.2.length ≤ 1000000; omega⟩, rfl⟩, (mostL (sureOf b) s, 0, ()), ⟨⟨hb, hs⟩, fun l hl => by rw [hl]⟩, ?_⟩
  show cnd ((0 : Int) != 0) _ _
  refine cnd_iff.2 ⟨fun e => by simp at e, fun _ _ => ?_⟩
  show Q (mnI ((mostL (sureOf b) s).length : Int) most)
  rw [mnI_min, most_len hs.l1]; exact h

theorem tmB {a m : Int} (ha : byteB a) (hm : 0 < m) : 0 ≤ Int.tmod (IntKind.wrap .i64 a) m ∧ Int.tmod (IntKind.wrap .i64 a) m ≤ m - 1 := by
  obtain ⟨a1, a2⟩ := ha
  rw [wrapS (by omega) (by omega), Int.tmod_eq_emod_of_nonneg a1]
  have h1 := Int.emod_nonneg a (show m ≠ 0 by omega)
  have h2 := Int.emod_lt_of_pos a hm
  exact ⟨h1, by omega⟩
theorem fork6 {x : Int} {P0 P1 P2 P3 P4 P5 : Prop} (h0 : 0 ≤ x) (h6 : x < ((6 : Nat) : Int)) (p0 : P0) (p1 : P1) (p2 : P2) (p3 : P3) (p4 : P4) (p5 : P5) :
    cnd (decide (x = ((0 : Nat) : Int))) P0 (cnd (decide (x = ((0 + 1 : Nat) : Int))) P1 (cnd (decide (x = ((0 + 1 + 1 : Nat) : Int))) P2 (cnd (decide (x = ((0 + 1 + 1 + 1 : Nat) : Int))) P3 (cnd (decide (x = ((0 + 1 + 1 + 1 + 1 : Nat) : Int))) P4 (cnd (decide (x = ((0 + 1 + 1 + 1 + 1 + 1 : Nat) : Int))) P5 False))))) := by
  refine cnd_iff.2 ⟨fun _ => p0, fun e0 => cnd_iff.2 ⟨fun _ => p1, fun e1 => cnd_iff.2 ⟨fun _ => p2, fun e2 => cnd_iff.2 ⟨fun _ => p3, fun e3 => cnd_iff.2 ⟨fun _ => p4, fun e4 => cnd_iff.2 ⟨fun _ => p5, fun e5 => ?_⟩⟩⟩⟩⟩⟩
  have e0 := of_decide_eq_false e0
  have e1 := of_decide_eq_false e1
  have e2 := of_decide_eq_false e2
  have e3 := of_decide_eq_false e3
  have e4 := of_decide_eq_false e4
  have e5 := of_decide_eq_false e5
  omega
structure Mid (i : Int) (st : Blade) : Prop where
  n : (st.1.length : Int) = i
  t : (st.2.1.length : Int) = i
  bo : ∀ s, s ∈ st.1 → 0 ≤ s.1 ∧ s.1 ≤ s.2 ∧ s.2 ≤ 39
  to : ∀ s, s ∈ st.2.1 → 40 ≤ s.1 ∧ s.1 ≤ s.2 ∧ s.2 ≤ 110
  be : st.2.2.1 = 300
def lowhi (lo hi : Int) : Prop := (0 ≤ lo ∧ lo ≤ 19) ∧ 40 ≤ hi ∧ hi ≤ 99
theorem leaf1 {a b : Int} (ha : byteB a) (hb : byteB b) : lowhi (Int.tmod (IntKind.wrap .i64 a) 20) (IntKind.wrap .i64 (40 + Int.tmod (IntKind.wrap .i64 b) 60)) := by
  have h1 := tmB (m := 20) ha (by omega)
  have h2 := tmB (m := 60) hb (by omega)
  unfold lowhi
  rw [wrapS (x := 40 + Int.tmod (IntKind.wrap .i64 b) 60) (by omega) (by omega)]
  omega
theorem leaf2 {i : Int} {st : Blade} {lo hi a b : Int} (hm : Mid i st) (hl : lowhi lo hi) (ha : byteB a) (hb : byteB b) :
    Mid (i + 1) (st.1 ++ [(lo, IntKind.wrap .i64 (lo + Int.tmod (IntKind.wrap .i64 a) 4))], st.2.1 ++ [(hi, IntKind.wrap .i64 (hi + Int.tmod (IntKind.wrap .i64 b) 4))], st.2.2.1, st.2.2.2) := by
  obtain ⟨⟨l1, l2⟩, l3, l4⟩ := hl
  have h1 := tmB (m := 4) ha (by omega)
  have h2 := tmB (m := 4) hb (by omega)
  rw [wrapS (x := lo + Int.tmod (IntKind.wrap .i64 a) 4) (by omega) (by omega), wrapS (x := hi + Int.tmod (IntKind.wrap .i64 b) 4) (by omega) (by omega)]
  have n := hm.n
  have t := hm.t
  refine ⟨?_, ?_, fun s hs => ?_, fun s hs => ?_, hm.be⟩
  · show ((st.1 ++ [_]).length : Int) = i + 1
    rw [List.length_append]; simp only [List.length_cons, List.length_nil]; omega
  · show ((st.2.1 ++ [_]).length : Int) = i + 1
    rw [List.length_append]; simp only [List.length_cons, List.length_nil]; omega
  · rcases List.mem_append.1 hs with h | h
    · exact hm.bo s h
    · rw [List.mem_singleton.1 h]; exact ⟨l1, by show lo ≤ lo + _; omega, by show lo + _ ≤ 39; omega⟩
  · rcases List.mem_append.1 hs with h | h
    · exact hm.to s h
    · rw [List.mem_singleton.1 h]; exact ⟨l3, by show hi ≤ hi + _; omega, by show hi + _ ≤ 110; omega⟩
theorem saw_ok {a b c d : Int} (ha : byteB a) (hb : byteB b) (hc : byteB c) (hd : byteB d) : SawOK (IntKind.wrap .i64 (1 + Int.tmod (IntKind.wrap .i64 a) 3), IntKind.wrap .i64 (3 + Int.tmod (IntKind.wrap .i64 b) 14), Int.tmod (IntKind.wrap .i64 c) 4, Int.tmod (IntKind.wrap .i64 d) 2) := by
  have h1 := tmB (m := 3) ha (by omega)
  have h2 := tmB (m := 14) hb (by omega)
  have h3 := tmB (m := 4) hc (by omega)
  have h4 := tmB (m := 2) hd (by omega)
  rw [wrapS (x := 1 + Int.tmod (IntKind.wrap .i64 a) 3) (by omega) (by omega), wrapS (x := 3 + Int.tmod (IntKind.wrap .i64 b) 14) (by omega) (by omega)]
  constructor <;> simp only <;> omega
theorem crack_ok {N a f t : Int} (h1 : 1 ≤ N) (h2 : N ≤ 6) (ha : 0 ≤ a ∧ a ≤ N - 1) (hf : 5 ≤ f ∧ f ≤ 64) (ht : f + 1 ≤ t ∧ t ≤ 100) : crackB N ((a, a), (f, f + 1), (f + 1, t)) = true := by
  unfold crackB edgesB
  simp only [Bool.and_eq_true, spanB_iff, decide_eq_true_eq]
  omega
theorem p16 {x : OakT} {Q : Blade × Saw × Unit → Prop} (h : f16_wp x () Q) : V16 x Q := by
  obtain ⟨hx, h⟩ := h
  obtain ⟨hm, ⟨⟨b1, b1'⟩, ⟨b2, b2'⟩, ⟨b3, b3'⟩, ⟨b4, b4'⟩, ⟨b5, b5'⟩, ⟨b6, b6'⟩⟩, ⟨⟨t1, t1'⟩, ⟨t2, t2'⟩, ⟨t3, t3'⟩, ⟨t4, t4'⟩, ⟨t5, t5'⟩, ⟨t6, t6'⟩⟩, hc, hs1, hs2, hs3, hs4⟩ := hx
  have hN := tmB (m := 6) hm (by omega)
  obtain ⟨N, eN⟩ : ∃ N, N = 1 + Int.tmod (IntKind.wrap .i64 x.1) 6 := ⟨_, rfl⟩
  unfold V16
  rw [wrapS (x := 1 + Int.tmod (IntKind.wrap .i64 x.1) 6) (by omega) (by omega), ← eN]
  have N1 : 1 ≤ N := by omega
  have N2 : N ≤ 6 := by omega
  refine ⟨by decide, fun i st => (0 ≤ i ∧ i ≤ N) ∧ Mid i st ∧ st.2.2.2 = [], fun i _ => (10 - i).toNat, ⟨⟨by omega, by omega⟩, ⟨rfl, rfl, (fun s hs => by cases hs), (fun s hs => by cases hs), rfl⟩, rfl⟩, ?_⟩
  rintro i st ⟨⟨i1, i2⟩, im, i3⟩
  have nn := im.n
  have tt := im.t
  refine cnd_iff.2 ⟨fun e => ?_, fun e => ?_⟩
  · have e : i < N := of_decide_eq_true e
    have h6 : i < ((6 : Nat) : Int) := by omega
    refine ⟨lowhi, ⟨i1, h6, ?_⟩, ?_⟩
    · refine fork6 i1 h6 ?_ ?_ ?_ ?_ ?_ ?_ <;> refine ⟨by decide, i1, h6, fork6 i1 h6 ?_ ?_ ?_ ?_ ?_ ?_⟩ <;> refine ⟨by decide, leaf1 ?_ ?_⟩ <;> assumption
    · intro lo hi hl
      have sz1 : ∀ p : Span, (st.1.length + [p].length) * 16 ≤ 140737488355328 := fun p => by simp only [List.length_cons, List.length_nil]; omega
      have sz2 : ∀ p : Span, (st.2.1.length + [p].length) * 16 ≤ 140737488355328 := fun p => by simp only [List.length_cons, List.length_nil]; omega
      have hw : IntKind.wrap .i64 (i + 1) = i + 1 := wrapS (by omega) (by omega)
      have fin : ∀ a b : Int, byteB a → byteB b → ((0 ≤ IntKind.wrap .i64 (i + 1) ∧ IntKind.wrap .i64 (i + 1) ≤ N) ∧ Mid (IntKind.wrap .i64 (i + 1)) (st.1 ++ [(lo, IntKind.wrap .i64 (lo + Int.tmod (IntKind.wrap .i64 a) 4))], st.2.1 ++ [(hi, IntKind.wrap .i64 (hi + Int.tmod (IntKind.wrap .i64 b) 4))], st.2.2.1, st.2.2.2) ∧ st.2.2.2 = []) ∧ (10 - IntKind.wrap .i64 (i + 1)).toNat < (10 - i).toNat := fun a b ha hb => by
        rw [hw]; exact ⟨⟨⟨by omega, by omega⟩, leaf2 im hl ha hb, i3⟩, by omega⟩
      refine ⟨i1, h6, ?_⟩
      refine fork6 i1 h6 ?_ ?_ ?_ ?_ ?_ ?_ <;> refine ⟨by decide, _, rfl, sz1 _, i1, h6, fork6 i1 h6 ?_ ?_ ?_ ?_ ?_ ?_⟩ <;> refine ⟨by decide, _, rfl, sz2 _, fin _ _ ?_ ?_⟩ <;> assumption
  · have e : ¬ i < N := of_decide_eq_false e
    have hiN : i = N := by omega
    rw [hiN] at im nn tt
    refine ⟨fun j st' => (0 ≤ j ∧ j ≤ 2) ∧ Mid N st' ∧ (st'.2.2.2.length : Int) = j ∧ ∀ c, c ∈ st'.2.2.2 → crackB N c = true, fun j _ => (10 - j).toNat, ⟨⟨by omega, by omega⟩, im, by show ((st.2.2.2).length : Int) = 0; rw [i3]; rfl, fun c hcm => by rw [show (st.1, st.2.1, st.2.2.1, st.2.2.2).2.2.2 = [] from i3] at hcm; cases hcm⟩, ?_⟩
    rintro j st' ⟨⟨j1, j2⟩, jm, j3, j4⟩ hlen
    have fin : Q ((st'.1, st'.2.1, st'.2.2.1, st'.2.2.2), (IntKind.wrap .i64 (1 + Int.tmod (IntKind.wrap .i64 x.2.2.2.2.1) 3), IntKind.wrap .i64 (3 + Int.tmod (IntKind.wrap .i64 x.2.2.2.2.2.1) 14), Int.tmod (IntKind.wrap .i64 x.2.2.2.2.2.2.1) 4, Int.tmod (IntKind.wrap .i64 x.2.2.2.2.2.2.2) 2), ()) := by
      have kn := jm.n
      have kt := jm.t
      refine h _ _ ⟨?_, ?_, ?_, jm.bo, jm.to, jm.be, ?_, ?_⟩ (saw_ok hs1 hs2 hs3 hs4)
      · show 1 ≤ st'.1.length; omega
      · show st'.1.length ≤ 6; omega
      · show st'.2.1.length = st'.1.length; omega
      · show st'.2.2.2.length ≤ 2; omega
      · intro c hcm
        show crackB (st'.1.length : Int) c = true
        rw [kn]; exact j4 c hcm
    have n1 : (3 : Int) ≠ 0 := by decide
    have n2 : (14 : Int) ≠ 0 := by decide
    have n3 : (4 : Int) ≠ 0 := by decide
    have n4 : (2 : Int) ≠ 0 := by decide
    refine cnd_iff.2 ⟨fun g => cnd_iff.2 ⟨fun g2 => ?_, fun g2 => ⟨n1, n2, n3, n4, fin⟩⟩, fun g => ⟨n1, n2, n3, n4, fin⟩⟩
    have g : j < (x.2.2.2.1.length : Int) := of_decide_eq_true g
    have g2 : j < 2 := of_decide_eq_true g2
    obtain ⟨c, ec⟩ : ∃ c, c = x.2.2.2.1.getD j.toNat (0, 0, 0) := ⟨_, rfl⟩
    have hcc := hc c (by rw [ec]; exact getD_mem (by omega))
    rw [← ec]
    obtain ⟨c1, c2, c3⟩ := hcc
    have m1 := tmB (m := N) c1 (by omega)
    have m2 := tmB (m := 60) c2 (by omega)
    have m3 := tmB (m := 6) c3 (by omega)
    obtain ⟨f, ef⟩ : ∃ f, f = 5 + Int.tmod (IntKind.wrap .i64 c.2.1) 60 := ⟨_, rfl⟩
    rw [wrapS (x := 5 + Int.tmod (IntKind.wrap .i64 c.2.1) 60) (by omega) (by omega), ← ef, wrapS (x := f + 1) (by omega) (by omega), wrapS (x := f + 2) (by omega) (by omega), wrapS (x := f + 2 + Int.tmod (IntKind.wrap .i64 c.2.2) 6) (by omega) (by omega), wrapS (x := j + 1) (by omega) (by omega)]
    refine ⟨j1, g, j1, g, by omega, by decide, _, rfl, _, rfl, by decide, _, rfl, by simp only [List.length_cons, List.length_nil]; omega, ⟨⟨by omega, by omega⟩, ⟨jm.n, jm.t, jm.bo, jm.to, jm.be⟩, ?_, fun q hq => ?_⟩, by show (10 - (j + 1)).toNat < (10 - j).toNat; omega⟩
    · show ((st'.2.2.2 ++ [_]).length : Int) = j + 1
      rw [List.length_append]; simp only [List.length_cons, List.length_nil]; omega
    · rcases List.mem_append.1 hq with hq | hq
      · exact j4 q hq
      · rw [List.mem_singleton.1 hq]
        exact crack_ok N1 N2 m1 ⟨by omega, by omega⟩ ⟨by show f + 1 ≤ f + 2 + Int.tmod (IntKind.wrap .i64 c.2.2) 6; omega, by show f + 2 + Int.tmod (IntKind.wrap .i64 c.2.2) 6 ≤ 100; omega⟩
end Go.Proofs.Tq
set_option maxRecDepth 100000
set_option maxHeartbeats 2000000
namespace Go.Proofs.Tq
open Go Go.GX Go.Proofs
variable [Inhabited BaseD]
theorem ok69 : CallsOK Try.prog (assoc glT) 69 f69_ct :=
  callsOK_E (env (ct := []) (ios := []) (hos := []) (lits := []) AllOK.nil AllW.nil AllH.nil) no_an Try.func69 (by kernel_rfl) (by kernel_rfl) f69_ct fun n ⟨lo, hi, _⟩ Q h => (v69 n lo hi Q).mp (p69 h)
theorem ok41 : CallsOK Try.prog (assoc glT) 41 f41_ct :=
  callsOK_E (env (ct := [(65, f65_ct), (69, f69_ct)]) (ios := []) (hos := []) (lits := []) (AllOK.cons ok65 (AllOK.cons ok69 AllOK.nil)) AllW.nil AllH.nil) no_an Try.func41 (by kernel_rfl) (by kernel_rfl) f41_ct fun ⟨lo, hi, l, _⟩ _ Q h => (v41 lo hi l Q).mp (p41 h)
theorem ok158 : CallsOK Try.prog (assoc glT) 158 f158_ct :=
  callsOK_E (env (ct := [(41, f41_ct)]) (ios := []) (hos := []) (lits := []) (AllOK.cons ok41 AllOK.nil) AllW.nil AllH.nil) no_an Try.func158 (by kernel_rfl) (by kernel_rfl) f158_ct fun ⟨s, lo, hi, _⟩ _ Q h => (v158 s lo hi Q).mp (p158 h)
theorem ok159 : CallsOK Try.prog (assoc glT) 159 f159_ct :=
  callsOK_E (env (ct := [(158, f158_ct)]) (ios := []) (hos := []) (lits := []) (AllOK.cons ok158 AllOK.nil) AllW.nil AllH.nil) no_an Try.func159 (by kernel_rfl) (by kernel_rfl) f159_ct fun s _ Q h => (v159 s Q).mp (p159 h)
theorem ok131 : CallsOK Try.prog (assoc glT) 131 f131_ct :=
  callsOK_E (env (ct := [(159, f159_ct)]) (ios := []) (hos := []) (lits := []) (AllOK.cons ok159 AllOK.nil) AllW.nil AllH.nil) no_an Try.func131 (by kernel_rfl) (by kernel_rfl) f131_ct fun ⟨b, t, _⟩ _ Q h => (v131 b t Q).mp (p131 h)
theorem ok130 : CallsOK Try.prog (assoc glT) 130 f130_ct :=
  callsOK_E (env (ct := [(158, f158_ct), (131, f131_ct)]) (ios := []) (hos := []) (lits := []) (AllOK.cons ok158 (AllOK.cons ok131 AllOK.nil)) AllW.nil AllH.nil) no_an Try.func130 (by kernel_rfl) (by kernel_rfl) f130_ct fun ⟨c, n, _⟩ _ Q h => (v130 c n Q).mp (p130 h)
theorem ok129 : CallsOK Try.prog (assoc glT) 129 f129_ct :=
  callsOK_E (env (ct := [(130, f130_ct)]) (ios := []) (hos := []) (lits := []) (AllOK.cons ok130 AllOK.nil) AllW.nil AllH.nil) no_an Try.func129 (by kernel_rfl) (by kernel_rfl) f129_ct fun c ⟨n, _⟩ Q h => (v129 c n Q).mp (p129 h)
theorem ok157 : CallsOK Try.prog (assoc glT) 157 f157_ct :=
  callsOK_E (env (ct := []) (ios := []) (hos := []) (lits := []) AllOK.nil AllW.nil AllH.nil) idx_an Try.func157 (by kernel_rfl) (by kernel_rfl) f157_ct fun ⟨xs, f, _⟩ _ Q h => (v157 xs f Q).mp (p157 h)
theorem ok128 : CallsOK Try.prog (assoc glT) 128 f128_ct :=
  callsOK_E (env (ct := [(157, f157_ct)]) (ios := []) (hos := []) (lits := []) (AllOK.cons ok157 AllOK.nil) AllW.nil AllH.nil) no_an Try.func128 (by kernel_rfl) (by kernel_rfl) f128_ct fun ⟨xs, f, _⟩ _ Q h => (v128 xs f Q).mp (p128 h)
theorem ok105 : CallsOK Try.prog (assoc glT) 105 f105_ct :=
  callsOK_E (env (ct := [(41, f41_ct), (128, f128_ct), (129, f129_ct), (131, f131_ct)]) (ios := []) (hos := []) (lits := []) (AllOK.cons ok41 (AllOK.cons ok128 (AllOK.cons ok129 (AllOK.cons ok131 AllOK.nil)))) AllW.nil AllH.nil) f105_an Try.func105 (by kernel_rfl) (by kernel_rfl) f105_ct fun b _ Q h => (v105 b Q).mp (p105 h)
theorem ok133 : CallsOK Try.prog (assoc glT) 133 f133_ct :=
  callsOK_E (env (ct := []) (ios := []) (hos := []) (lits := []) AllOK.nil AllW.nil AllH.nil) no_an Try.func133 (by kernel_rfl) (by kernel_rfl) f133_ct fun ⟨a, b, _⟩ _ Q h => (v133 a b Q).mp (p133 h)
theorem ok132 : CallsOK Try.prog (assoc glT) 132 f132_ct :=
  callsOK_E (env (ct := []) (ios := []) (hos := []) (lits := [300]) AllOK.nil AllW.nil AllH.nil) no_an Try.func132 (by kernel_rfl) (by kernel_rfl) f132_ct fun xs _ Q h => (v132 xs Q).mp (p132 h)
theorem ok134 : CallsW Try.prog (assoc glT) 134 f134_ct :=
  callsW_E (env (ct := []) (ios := []) (hos := []) (lits := []) AllOK.nil AllW.nil AllH.nil) f134_an Try.func134 (by kernel_rfl) (by kernel_rfl) rfl f134_ct fun ys () _ Q h => (v134 ys  Q).mp (p134 h)
theorem ok106 : CallsOK Try.prog (assoc glT) 106 f106_ct :=
  callsOK_E (env (ct := [(132, f132_ct), (133, f133_ct)]) (ios := [(134, f134_ct)]) (hos := []) (lits := []) (AllOK.cons ok132 (AllOK.cons ok133 AllOK.nil)) (AllW.cons ok134 AllW.nil) AllH.nil) f106_an Try.func106 (by kernel_rfl) (by kernel_rfl) f106_ct fun ⟨l, bend, _⟩ _ Q h => (v106 l bend Q).mp (p106 h)
theorem ok68 : CallsOK Try.prog (assoc glT) 68 f68_ct :=
  callsOK_E (env (ct := [(105, f105_ct), (106, f106_ct)]) (ios := []) (hos := []) (lits := []) (AllOK.cons ok105 (AllOK.cons ok106 AllOK.nil)) AllW.nil AllH.nil) no_an Try.func68 (by kernel_rfl) (by kernel_rfl) f68_ct fun b _ Q h => (v68 b Q).mp (p68 h)
theorem ok40 : CallsOK Try.prog (assoc glT) 40 f40_ct :=
  callsOK_E (env (ct := [(68, f68_ct), (41, f41_ct)]) (ios := []) (hos := []) (lits := []) (AllOK.cons ok68 (AllOK.cons ok41 AllOK.nil)) AllW.nil AllH.nil) no_an Try.func40 (by kernel_rfl) (by kernel_rfl) f40_ct fun ⟨b, s, _⟩ _ Q h => (v40 b s Q).mp (p40 h)
theorem ok71 : CallsOK Try.prog (assoc glT) 71 f71_ct :=
  callsOK_E (env (ct := []) (ios := []) (hos := []) (lits := []) AllOK.nil AllW.nil AllH.nil) no_an Try.func71 (by kernel_rfl) (by kernel_rfl) f71_ct fun s _ Q h => (v71 s Q).mp (p71 h)
theorem ok72 : CallsOK Try.prog (assoc glT) 72 f72_ct :=
  callsOK_E (env (ct := []) (ios := []) (hos := []) (lits := []) AllOK.nil AllW.nil AllH.nil) no_an Try.func72 (by kernel_rfl) (by kernel_rfl) f72_ct fun s _ Q h => (v72 s Q).mp (p72 h)
theorem ok70 : CallsOK Try.prog (assoc glT) 70 f70_ct :=
  callsOK_E (env (ct := []) (ios := []) (hos := []) (lits := []) AllOK.nil AllW.nil AllH.nil) f70_an Try.func70 (by kernel_rfl) (by kernel_rfl) f70_ct fun ⟨l, f, _⟩ _ Q h => (v70 l f Q).mp (p70 h)
theorem ok42 : CallsOK Try.prog (assoc glT) 42 f42_ct :=
  callsOK_E (env (ct := [(70, f70_ct), (71, f71_ct), (72, f72_ct)]) (ios := []) (hos := []) (lits := []) (AllOK.cons ok70 (AllOK.cons ok71 (AllOK.cons ok72 AllOK.nil))) AllW.nil AllH.nil) f42_an Try.func42 (by kernel_rfl) (by kernel_rfl) f42_ct fun b _ Q h => (v42 b Q).mp (p42 h)
theorem ok135 : CallsOK Try.prog (assoc glT) 135 f135_ct :=
  callsOK_E (env (ct := []) (ios := []) (hos := []) (lits := []) AllOK.nil AllW.nil AllH.nil) f135_an Try.func135 (by kernel_rfl) (by kernel_rfl) f135_ct fun xs _ Q h => (v135 xs Q).mp (p135 h)
theorem ok136 : CallsOK Try.prog (assoc glT) 136 f136_ct :=
  callsOK_E (env (ct := []) (ios := []) (hos := []) (lits := []) AllOK.nil AllW.nil AllH.nil) f135_an Try.func136 (by kernel_rfl) (by kernel_rfl) f136_ct fun xs _ Q h => (v136 xs Q).mp (p136 h)
theorem ok107 : CallsOK Try.prog (assoc glT) 107 f107_ct :=
  callsOK_E (env (ct := [(135, f135_ct), (136, f136_ct)]) (ios := []) (hos := []) (lits := []) (AllOK.cons ok135 (AllOK.cons ok136 AllOK.nil)) AllW.nil AllH.nil) no_an Try.func107 (by kernel_rfl) (by kernel_rfl) f107_ct fun ⟨v, x, long, _⟩ _ Q h => (v107 v x long Q).mp (p107 h)
theorem ok108 : CallsOK Try.prog (assoc glT) 108 f108_ct :=
  callsOK_E (env (ct := [(133, f133_ct)]) (ios := []) (hos := []) (lits := []) (AllOK.cons ok133 AllOK.nil) AllW.nil AllH.nil) f108_an Try.func108 (by kernel_rfl) (by kernel_rfl) f108_ct fun ⟨v, x, long, y, wide, _⟩ _ Q h => (v108 v x long y wide Q).mp (p108 h)
theorem ok73 : CallsOK Try.prog (assoc glT) 73 f73_ct :=
  callsOK_E (env (ct := [(107, f107_ct), (108, f108_ct)]) (ios := []) (hos := []) (lits := []) (AllOK.cons ok107 (AllOK.cons ok108 AllOK.nil)) AllW.nil AllH.nil) f73_an Try.func73 (by kernel_rfl) (by kernel_rfl) f73_ct fun ⟨v, s, x, _⟩ _ Q h => (v73 v s x Q).mp (p73 h)
theorem ok44 : CallsOK Try.prog (assoc glT) 44 f44_ct :=
  callsOK_E (env (ct := [(73, f73_ct)]) (ios := []) (hos := []) (lits := []) (AllOK.cons ok73 AllOK.nil) AllW.nil AllH.nil) f44_an Try.func44 (by kernel_rfl) (by kernel_rfl) f44_ct fun ⟨v, s, _⟩ _ Q h => (v44 v s Q).mp (p44 h)
theorem ok35 : CallsOK Try.prog (assoc glT) 35 f35_ct :=
  callsOK_E (env (ct := [(40, f40_ct), (42, f42_ct), (44, f44_ct)]) (ios := []) (hos := []) (lits := []) (AllOK.cons ok40 (AllOK.cons ok42 (AllOK.cons ok44 AllOK.nil))) AllW.nil AllH.nil) no_an Try.func35 (by kernel_rfl) (by kernel_rfl) f35_ct fun ⟨b, s, _⟩ _ Q h => (v35 b s Q).mp (p35 h)
end Go.Proofs.Tq
set_option maxRecDepth 100000
set_option linter.unusedVariables false
namespace Go.Proofs.Tq
open Go Go.GX

theorem in19 {l : Loss} {w : Int} {K : Int × Int × Unit → Prop} (hl : lossB l = true) (h0 : 0 ≤ w) (h1 : w ≤ 1000000) (hf : fewB l w 1000000 = false)
    (h : ∀ n : Nat, fewB l w n = false → (∀ m : Nat, m < n → fewB l w m = true) → K ((n : Int), 0, ())) : f19_wp (l, w, ()) () K := by
  refine ⟨fun e => ?_, fun _ => ⟨fun e => ?_, fun _ => ⟨fun e => ?_, fun _ n hn hf hm => h n hf hm⟩⟩⟩
  · rw [hl] at e; cases e
  · have e : inB 0 1000000 w = false := e
    rw [inB_iff.2 ⟨h0, h1⟩] at e; cases e
  · have e : fewB l w 1000000 = true := e
    rw [hf] at e; cases e
theorem few_no {l : Loss} (hl : lossB l = true) {w : Int} {a b : Nat} (hab : a ≤ b) (h : fewB l w (a : Int) = false) : fewB l w (b : Int) = false := by
  cases hb : fewB l w (b : Int) with
  | false => rfl
  | true =>
    have := few_mono hl (w := w) (a := a) (b - a) (by rw [show a + (b - a) = b by omega]; exact hb)
    rw [h] at this; cases this
theorem in18 {l : Loss} {n : Int} {K : Span × Int × Unit → Prop} (h : K (wholeF l n)) : f18_wp (l, n, ()) () K := h
theorem p5 {x : OakT} {v : Two} {Q : Bool → Prop} (h : f5_wp (x, v, ()) () Q) : V5 x v Q := by
  obtain ⟨⟨hx, hv1, hv2⟩, h⟩ := h
  have hx : ToothOK x := hx
  have hv1 : byteB v.1 := hv1
  have hv2 : byteB v.2 := hv2
  have h : Q true := h
  have m1 := tmB (m := 9) hv1 (by omega)
  obtain ⟨o, eo⟩ : ∃ o, o = 2 + Int.tmod (IntKind.wrap .i64 v.1) 9 := ⟨_, rfl⟩
  have m2 := tmB (m := o) hv2 (by omega)
  obtain ⟨g, eg⟩ : ∃ g, g = Int.tmod (IntKind.wrap .i64 v.2) o := ⟨_, rfl⟩
  have hl : lossB (o, g) = true := lossB_iff.2 ⟨⟨by show 2 ≤ o; omega, by show o ≤ 10; omega⟩, by show 0 ≤ g; omega, by show g ≤ o; omega⟩
  refine ⟨hx, fun b s hb hs => ?_⟩
  refine ⟨⟨hb, hs⟩, ?_⟩
  show (9 : Int) ≠ 0 ∧ _
  have e2 : IntKind.wrap .i64 (2 + Int.tmod (IntKind.wrap .i64 v.1) 9) = o := by rw [eo]; exact wrapS (by omega) (by omega)
  rw [e2, ← eg]
  obtain ⟨n, en⟩ : ∃ n : Nat, n = min (sticksF (sureOf b) s) 1000 := ⟨_, rfl⟩
  have en' : min ((sticksF (sureOf b) s : Nat) : Int) 1000 = (n : Int) := by rw [en]; omega
  have n1 : n ≤ 1000 := by omega
  refine ⟨by decide, by omega, ?_⟩
  obtain ⟨b1, b2, b3, b4⟩ := br_bound hl (n := (n : Int)) (by omega) (by omega)
  obtain ⟨w, ew⟩ : ∃ w, w = (n : Int) - brF (o, g) n := ⟨_, rfl⟩
  have hwh : wholeF (o, g) (n : Int) = ((w, (n : Int)), 0, ()) := by
    unfold wholeF
    rw [if_neg (by rw [hl]; simp), if_neg (by rw [inB_iff.2 ⟨by omega, by omega⟩]; simp), ew]
  have f1 : fewB (o, g) w (n : Int) = false := by unfold fewB; rw [← ew]; simp
  have f2 : fewB (o, g) (w + 1) (n : Int) = true := by unfold fewB; rw [← ew]; simp only [decide_eq_true_eq]; omega
  have f3 : fewB (o, g) w 1000000 = false := few_no hl (a := n) (b := 1000000) (by omega) f1
  have f4 : fewB (o, g) (w + 1) ((o.toNat * 1001 : Nat) : Int) = false := by
    have ho : (((o.toNat * 1001 : Nat)) : Int) = o * 1001 := by push_cast; omega
    rw [ho]
    unfold fewB brF
    show decide (o * 1001 - (o * 1001 / o * g + min (o * 1001 % o) g) < w + 1) = false
    rw [Int.mul_ediv_cancel_left _ (by omega), Int.mul_emod_right]
    have : (1001 : Int) * g ≤ 1001 * (o - 1) := by omega
    rw [decide_eq_false_iff_not]
    rw [Int.min_eq_left (by omega)]
    omega
  have f5 : fewB (o, g) (w + 1) 1000000 = false := few_no hl (a := o.toNat * 1001) (b := 1000000) (by omega) f4
  show f18_wp ((o, g), min ((sticksF (sureOf b) s : Nat) : Int) 1000, ()) () _
  rw [en']
  refine in18 ?_
  rw [hwh]
  show cnd (decide ((n : Int) < 0)) (Q false) (cnd ((0 : Int) != 0) (Q false) (cnd (decide (w < 0)) (Q false) (cnd (decide (w > (n : Int))) (Q false) (cnd ((n : Int) != (n : Int)) (Q false) _))))
  refine cnd_iff.2 ⟨fun e => absurd (of_decide_eq_true e) (by omega), fun _ => ?_⟩
  refine cnd_iff.2 ⟨fun e => by simp at e, fun _ => ?_⟩
  refine cnd_iff.2 ⟨fun e => absurd (of_decide_eq_true e) (by omega), fun _ => ?_⟩
  refine cnd_iff.2 ⟨fun e => absurd (of_decide_eq_true e) (by omega), fun _ => ?_⟩
  refine cnd_iff.2 ⟨fun e => by simp at e, fun _ => ?_⟩
  refine in19 (w := w) hl (by omega) (by omega) f3 fun m hm1 hm2 => ?_
  show f19_wp ((o, g), IntKind.wrap .i64 (w + 1), ()) () _
  rw [wrapS (x := w + 1) (by omega) (by omega)]
  refine in19 (w := w + 1) hl (by omega) (by omega) f5 fun m' hm3 hm4 => ?_
  show cnd ((0 : Int) == 0) (cnd ((0 : Int) == 0) (cnd (decide ((m : Int) ≤ (n : Int))) (cnd (decide ((m' : Int) > (n : Int))) (Q true) (Q false)) (Q false)) (Q false)) (Q false)
  refine cnd_iff.2 ⟨fun _ => ?_, fun e => by simp at e⟩
  refine cnd_iff.2 ⟨fun _ => ?_, fun e => by simp at e⟩
  refine cnd_iff.2 ⟨fun _ => ?_, fun e => ?_⟩
  · refine cnd_iff.2 ⟨fun _ => h, fun e => ?_⟩
    exfalso
    have e : ¬ (m' : Int) > (n : Int) := of_decide_eq_false e
    have := few_no hl (a := m') (b := n) (by omega) hm3
    rw [f2] at this; cases this
  · exfalso
    have e : ¬ (m : Int) ≤ (n : Int) := of_decide_eq_false e
    have := hm2 n (by omega)
    rw [f1] at this; cases this
end Go.Proofs.Tq
set_option maxRecDepth 100000
set_option maxHeartbeats 2000000
namespace Go.Proofs.Tq
open Go Go.GX Go.Proofs
variable [Inhabited BaseD]
theorem ok9 : CallsOK Try.prog (assoc glT) 9 f9_ct :=
  callsOK_E (env (ct := []) (ios := []) (hos := []) (lits := []) AllOK.nil AllW.nil AllH.nil) no_an Try.func9 (by kernel_rfl) (by kernel_rfl) f9_ct fun ⟨a, b, _⟩ _ Q h => (v9 a b Q).mp (p9 h)
theorem ok22 : CallsOK Try.prog (assoc glT) 22 f22_ct :=
  callsOK_E (env (ct := []) (ios := []) (hos := []) (lits := [100,104,110]) AllOK.nil AllW.nil AllH.nil) no_an Try.func22 (by kernel_rfl) (by kernel_rfl) f22_ct fun b _ Q h => (v22 b Q).mp (p22 h)
theorem ok16 : CallsOK Try.prog (assoc glT) 16 f16_ct :=
  callsOK_E (env (ct := [(9, f9_ct)]) (ios := []) (hos := []) (lits := []) (AllOK.cons ok9 AllOK.nil) AllW.nil AllH.nil) f16_an Try.func16 (by kernel_rfl) (by kernel_rfl) f16_ct fun x _ Q h => (v16 x Q).mp (p16 h)
theorem ok17 : CallsOK Try.prog (assoc glT) 17 f17_ct :=
  callsOK_E (env (ct := [(22, f22_ct), (35, f35_ct)]) (ios := []) (hos := []) (lits := []) (AllOK.cons ok22 (AllOK.cons ok35 AllOK.nil)) AllW.nil AllH.nil) no_an Try.func17 (by kernel_rfl) (by kernel_rfl) f17_ct fun ⟨b, s, most, _⟩ _ Q h => (v17 b s most Q).mp (p17 h)
end Go.Proofs.Tq
set_option linter.unusedVariables false
set_option maxRecDepth 100000
namespace Go.Proofs.Tq
open Go Go.GX Go.Proofs

def V43 (wide : Int) (s : Int × Int × Int × Int) (v : List Int × List Int × List ((Int × Int) × Int × Int)) (sticks : Int) (Q : Bool → Prop) : Prop :=
  ∃ (r : List (Int × Int)),
    (f44_wp
        ((Prod.fst v, Prod.fst (Prod.snd v), Prod.snd (Prod.snd v)),
          (Prod.fst s, wide, Prod.fst (Prod.snd (Prod.snd s)), Prod.snd (Prod.snd (Prod.snd s))), ())
        () fun (r' : List (Int × Int)) ↦ r' = r) ∧
      Q (decide ((↑(List.length r) : Int) ≥ sticks))
theorem v43 (wide : Int) (s : Int × Int × Int × Int) (v : List Int × List Int × List ((Int × Int) × Int × Int)) (sticks : Int) (Q : Bool → Prop) : V43 wide s v sticks Q = vcFunc (S1 [(44, f44_ct)] [] [] []) f43_ct.own f43_ct.fresh no_an Try.f43 (bodyOf Try.f43) f43_ct.A f43_ct.C f43_ct.R wide (s, v, sticks, ()) Q := by kernel_rfl

def V21 (b : List (Int × Int) × List (Int × Int) × Int × List ((Int × Int) × (Int × Int) × Int × Int)) (s : Int × Int × Int × Int) (sticks : Int) (Q : Int × Int × Unit → Prop) : Prop :=
  f40_wp
    ((Prod.fst b, Prod.fst (Prod.snd b), Prod.fst (Prod.snd (Prod.snd b)), Prod.snd (Prod.snd (Prod.snd b))),
      (Prod.fst s, Prod.fst (Prod.snd s), Prod.fst (Prod.snd (Prod.snd s)), Prod.snd (Prod.snd (Prod.snd s))), ())
    ()
    fun
      (r :
        ((List (Int × Int) × List (Int × Int) × Int × List ((Int × Int) × (Int × Int) × Int × Int)) × List (Int × Int) × List (Int × Int)) ×
          Int × Unit) ↦
    cnd (Prod.fst (Prod.snd r) != (0 : Int)) (Q ((0 : Int), Prod.fst (Prod.snd r), ()))
      (f41_wp ((1 : Int), (400 : Int), sticks :: ([] : List Int), ()) () fun (r_1 : Bool) ↦
        cnd (!r_1) (Q ((0 : Int), (2 : Int), ()))
          (f42_wp
            ((Prod.fst (Prod.fst (Prod.fst r)), Prod.fst (Prod.snd (Prod.fst (Prod.fst r))), Prod.fst (Prod.snd (Prod.snd (Prod.fst (Prod.fst r)))),
                Prod.snd (Prod.snd (Prod.snd (Prod.fst (Prod.fst r))))),
              Prod.fst (Prod.snd (Prod.fst r)), Prod.snd (Prod.snd (Prod.fst r)))
            () fun (r : List Int × List Int × List ((Int × Int) × Int × Int)) ↦
            ∃ (I : Int → Int → Prop),
              ∃ (μ : Int → Int → Nat),
                I (0 : Int) (300 : Int) ∧
                  ∀ (x x_1 : Int),
                    I x x_1 →
                      cnd (decide (x < x_1))
                        ((2 : Int) ≠ (0 : Int) ∧
                          f43_wp
                            (IntKind.wrap IntKind.i64 (Int.tdiv (IntKind.wrap IntKind.i64 (IntKind.wrap IntKind.i64 (x + x_1) + (1 : Int))) (2 : Int)))
                            ((Prod.fst s, Prod.fst (Prod.snd s), Prod.fst (Prod.snd (Prod.snd s)), Prod.snd (Prod.snd (Prod.snd s))),
                              (Prod.fst r, Prod.fst (Prod.snd r), Prod.snd (Prod.snd r)), sticks, ())
                            fun (r : Bool) ↦
                            cnd r
                              (I
                                  (IntKind.wrap IntKind.i64
                                    (Int.tdiv (IntKind.wrap IntKind.i64 (IntKind.wrap IntKind.i64 (x + x_1) + (1 : Int))) (2 : Int)))
                                  x_1 ∧
                                μ
                                    (IntKind.wrap IntKind.i64
                                      (Int.tdiv (IntKind.wrap IntKind.i64 (IntKind.wrap IntKind.i64 (x + x_1) + (1 : Int))) (2 : Int)))
                                    x_1 <
                                  μ x x_1)
                              (I x
                                  (IntKind.wrap IntKind.i64
                                    (IntKind.wrap IntKind.i64
                                        (Int.tdiv (IntKind.wrap IntKind.i64 (IntKind.wrap IntKind.i64 (x + x_1) + (1 : Int))) (2 : Int)) -
                                      (1 : Int))) ∧
                                μ x
                                    (IntKind.wrap IntKind.i64
                                      (IntKind.wrap IntKind.i64
                                          (Int.tdiv (IntKind.wrap IntKind.i64 (IntKind.wrap IntKind.i64 (x + x_1) + (1 : Int))) (2 : Int)) -
                                        (1 : Int))) <
                                  μ x x_1))
                        (cnd (x == (0 : Int)) (Q ((0 : Int), (7 : Int), ())) (Q (x, (0 : Int), ())))))
theorem v21 (b : List (Int × Int) × List (Int × Int) × Int × List ((Int × Int) × (Int × Int) × Int × Int)) (s : Int × Int × Int × Int) (sticks : Int) (Q : Int × Int × Unit → Prop) : V21 b s sticks Q = vcFunc (S1 [(40, f40_ct), (41, f41_ct), (42, f42_ct), (43, f43_ct)] [] [] []) f21_ct.own f21_ct.fresh f21_an Try.f21 (bodyOf Try.f21) f21_ct.A f21_ct.C f21_ct.R (b, s, sticks, ()) () Q := by kernel_rfl

def V6 (x : Int × ((Int × Int) × (Int × Int) × (Int × Int) × (Int × Int) × (Int × Int) × Int × Int) × ((Int × Int) × (Int × Int) × (Int × Int) × (Int × Int) × (Int × Int) × Int × Int) × List (Int × Int × Int) × Int × Int × Int × Int) (v : Int × Int) (Q : Bool → Prop) : Prop :=
  f16_wp
    (Prod.fst x,
      ((Prod.fst (Prod.fst (Prod.fst (Prod.snd x))), Prod.snd (Prod.fst (Prod.fst (Prod.snd x)))),
        (Prod.fst (Prod.fst (Prod.snd (Prod.fst (Prod.snd x)))), Prod.snd (Prod.fst (Prod.snd (Prod.fst (Prod.snd x))))),
        (Prod.fst (Prod.fst (Prod.snd (Prod.snd (Prod.fst (Prod.snd x))))), Prod.snd (Prod.fst (Prod.snd (Prod.snd (Prod.fst (Prod.snd x)))))),
        (Prod.fst (Prod.fst (Prod.snd (Prod.snd (Prod.snd (Prod.fst (Prod.snd x)))))),
          Prod.snd (Prod.fst (Prod.snd (Prod.snd (Prod.snd (Prod.fst (Prod.snd x))))))),
        (Prod.fst (Prod.fst (Prod.snd (Prod.snd (Prod.snd (Prod.snd (Prod.fst (Prod.snd x))))))),
          Prod.snd (Prod.fst (Prod.snd (Prod.snd (Prod.snd (Prod.snd (Prod.fst (Prod.snd x)))))))),
        Prod.fst (Prod.snd (Prod.snd (Prod.snd (Prod.snd (Prod.snd (Prod.fst (Prod.snd x))))))),
        Prod.snd (Prod.snd (Prod.snd (Prod.snd (Prod.snd (Prod.snd (Prod.fst (Prod.snd x)))))))),
      ((Prod.fst (Prod.fst (Prod.fst (Prod.snd (Prod.snd x)))), Prod.snd (Prod.fst (Prod.fst (Prod.snd (Prod.snd x))))),
        (Prod.fst (Prod.fst (Prod.snd (Prod.fst (Prod.snd (Prod.snd x))))), Prod.snd (Prod.fst (Prod.snd (Prod.fst (Prod.snd (Prod.snd x)))))),
        (Prod.fst (Prod.fst (Prod.snd (Prod.snd (Prod.fst (Prod.snd (Prod.snd x)))))),
          Prod.snd (Prod.fst (Prod.snd (Prod.snd (Prod.fst (Prod.snd (Prod.snd x))))))),
        (Prod.fst (Prod.fst (Prod.snd (Prod.snd (Prod.snd (Prod.fst (Prod.snd (Prod.snd x))))))),
          Prod.snd (Prod.fst (Prod.snd (Prod.snd (Prod.snd (Prod.fst (Prod.snd (Prod.snd x)))))))),
        (Prod.fst (Prod.fst (Prod.snd (Prod.snd (Prod.snd (Prod.snd (Prod.fst (Prod.snd (Prod.snd x)))))))),
          Prod.snd (Prod.fst (Prod.snd (Prod.snd (Prod.snd (Prod.snd (Prod.fst (Prod.snd (Prod.snd x))))))))),
        Prod.fst (Prod.snd (Prod.snd (Prod.snd (Prod.snd (Prod.snd (Prod.fst (Prod.snd (Prod.snd x)))))))),
        Prod.snd (Prod.snd (Prod.snd (Prod.snd (Prod.snd (Prod.snd (Prod.fst (Prod.snd (Prod.snd x))))))))),
      Prod.fst (Prod.snd (Prod.snd (Prod.snd x))), Prod.fst (Prod.snd (Prod.snd (Prod.snd (Prod.snd x)))),
      Prod.fst (Prod.snd (Prod.snd (Prod.snd (Prod.snd (Prod.snd x))))), Prod.fst (Prod.snd (Prod.snd (Prod.snd (Prod.snd (Prod.snd (Prod.snd x)))))),
      Prod.snd (Prod.snd (Prod.snd (Prod.snd (Prod.snd (Prod.snd (Prod.snd x)))))))
    () fun (r : (List (Int × Int) × List (Int × Int) × Int × List ((Int × Int) × (Int × Int) × Int × Int)) × (Int × Int × Int × Int) × Unit) ↦
    (6 : Int) ≠ (0 : Int) ∧
      ∃ (r_1 : Int),
        (f17_wp
            ((Prod.fst (Prod.fst r), Prod.fst (Prod.snd (Prod.fst r)), Prod.fst (Prod.snd (Prod.snd (Prod.fst r))),
                Prod.snd (Prod.snd (Prod.snd (Prod.fst r)))),
              (Prod.fst (Prod.fst (Prod.snd r)), Prod.fst (Prod.snd (Prod.fst (Prod.snd r))), Prod.fst (Prod.snd (Prod.snd (Prod.fst (Prod.snd r)))),
                Prod.snd (Prod.snd (Prod.snd (Prod.fst (Prod.snd r))))),
              (12 : Int), ())
            () fun (r' : Int) ↦ r' = r_1) ∧
          ∃ (r_2 : Int),
            (f17_wp
                ((Prod.fst (Prod.fst r), Prod.fst (Prod.snd (Prod.fst r)), Prod.fst (Prod.snd (Prod.snd (Prod.fst r))),
                    Prod.snd (Prod.snd (Prod.snd (Prod.fst r)))),
                  (Prod.fst (Prod.fst (Prod.snd r)),
                    mxI (1 : Int)
                      (IntKind.wrap IntKind.i64
                        (Prod.fst (Prod.snd (Prod.fst (Prod.snd r))) - Int.tmod (IntKind.wrap IntKind.i64 (Prod.fst v)) (6 : Int))),
                    Prod.fst (Prod.snd (Prod.snd (Prod.fst (Prod.snd r)))), Prod.snd (Prod.snd (Prod.snd (Prod.fst (Prod.snd r))))),
                  (12 : Int), ())
                () fun (r' : Int) ↦ r' = r_2) ∧
              cnd (decide (r_1 < (0 : Int))) (Q false)
                (cnd (decide (r_2 < r_1)) (Q false)
                  ((4 : Int) ≠ (0 : Int) ∧
                    ∃ (r_3 : List (Int × Int × Int)),
                      (f13_wp ((1 : Int), r_1, (7 : Int), ()) () fun (r' : List (Int × Int × Int)) ↦ r' = r_3) ∧
                        ∃ (r_4 : Int × Int × Unit),
                          (f12_wp
                              (r_3,
                                (IntKind.wrap IntKind.i64 ((2 : Int) + Int.tmod (IntKind.wrap IntKind.i64 (Prod.snd v)) (4 : Int)), (0 : Int),
                                  (0 : Int)),
                                ())
                              () fun (r' : Int × Int × Unit) ↦ r' = r_4) ∧
                            ∃ (r_5 : List (Int × Int × Int)),
                              (f13_wp ((1 : Int), r_2, (7 : Int), ()) () fun (r' : List (Int × Int × Int)) ↦ r' = r_5) ∧
                                ∃ (r_6 : Int × Int × Unit),
                                  (f12_wp
                                      (r_5,
                                        (IntKind.wrap IntKind.i64 ((2 : Int) + Int.tmod (IntKind.wrap IntKind.i64 (Prod.snd v)) (4 : Int)), (0 : Int),
                                          (0 : Int)),
                                        ())
                                      () fun (r' : Int × Int × Unit) ↦ r' = r_6) ∧
                                    cnd (Prod.fst (Prod.snd r_4) != (0 : Int)) (Q false)
                                      (cnd (Prod.fst (Prod.snd r_6) != (0 : Int)) (Q false)
                                        (cnd (decide (Prod.fst r_6 < Prod.fst r_4)) (Q false)
                                          (IntKind.wrap IntKind.i64 ((2 : Int) + Int.tmod (IntKind.wrap IntKind.i64 (Prod.snd v)) (4 : Int)) ≠
                                              (0 : Int) ∧
                                            cnd
                                              (Prod.fst r_4 !=
                                                IntKind.wrap IntKind.i64
                                                  (Int.tdiv r_1
                                                    (IntKind.wrap IntKind.i64
                                                      ((2 : Int) + Int.tmod (IntKind.wrap IntKind.i64 (Prod.snd v)) (4 : Int)))))
                                              (Q false)
                                              (cnd (decide (r_1 > (0 : Int)))
                                                (∃ (r_7 : List (Int × Int) × List (Int × Int) × Int × List ((Int × Int) × (Int × Int) × Int × Int)),
                                                  (f22_wp
                                                      (Prod.fst (Prod.fst r), Prod.fst (Prod.snd (Prod.fst r)),
                                                        Prod.fst (Prod.snd (Prod.snd (Prod.fst r))), Prod.snd (Prod.snd (Prod.snd (Prod.fst r))))
                                                      ()
                                                      fun
                                                        (r' :
                                                          List (Int × Int) × List (Int × Int) × Int × List ((Int × Int) × (Int × Int) × Int × Int)) ↦
                                                      r' = r_7) ∧
                                                    ∃ (r_8 : Int × Int × Unit),
                                                      (f21_wp
                                                          ((Prod.fst r_7, Prod.fst (Prod.snd r_7), Prod.fst (Prod.snd (Prod.snd r_7)),
                                                              Prod.snd (Prod.snd (Prod.snd r_7))),
                                                            (Prod.fst (Prod.fst (Prod.snd r)), Prod.fst (Prod.snd (Prod.fst (Prod.snd r))),
                                                              Prod.fst (Prod.snd (Prod.snd (Prod.fst (Prod.snd r)))),
                                                              Prod.snd (Prod.snd (Prod.snd (Prod.fst (Prod.snd r))))),
                                                            r_1, ())
                                                          () fun (r' : Int × Int × Unit) ↦ r' = r_8) ∧
                                                        cnd (Prod.fst (Prod.snd r_8) != (0 : Int)) (Q false)
                                                          (cnd (decide (Prod.fst r_8 < Prod.fst (Prod.snd (Prod.fst (Prod.snd r))))) (Q false)
                                                            (f20_wp () () fun (r : Bool) ↦ Q r)))
                                                (f20_wp () () fun (r : Bool) ↦ Q r)))))))
theorem v6 (x : Int × ((Int × Int) × (Int × Int) × (Int × Int) × (Int × Int) × (Int × Int) × Int × Int) × ((Int × Int) × (Int × Int) × (Int × Int) × (Int × Int) × (Int × Int) × Int × Int) × List (Int × Int × Int) × Int × Int × Int × Int) (v : Int × Int) (Q : Bool → Prop) : V6 x v Q = vcFunc (S1 [(16, f16_ct), (17, f17_ct), (13, f13_ct), (12, f12_ct), (22, f22_ct), (21, f21_ct), (20, f20_ct)] [] [] []) f6_ct.own f6_ct.fresh no_an Try.f6 (bodyOf Try.f6) f6_ct.A f6_ct.C f6_ct.R (x, v, ()) () Q := by kernel_rfl

end Go.Proofs.Tq
set_option maxRecDepth 100000
set_option linter.unusedVariables false
namespace Go.Proofs.Tq
open Go Go.GX

theorem p43 {w : Int} {s : Saw} {v : View} {sticks : Int} {Q : Bool → Prop} (h : f43_wp w (s, v, sticks, ()) Q) : V43 w s v sticks Q := by
  obtain ⟨⟨hv, hs, h1, h2⟩, h⟩ := h
  have hv : ViewOK v := hv
  have hs : SawOK s := hs
  have hs' : SawOK (wideS s w) := ⟨hs.l1, hs.l2, h1, h2, hs.k1, hs.k2, hs.a1, hs.a2⟩
  refine ⟨mostL v (wideS s w), ⟨⟨hv, hs'⟩, fun l hl => hl⟩, ?_⟩
  refine h _ ?_
  rw [most_len hs'.l1]; rfl
theorem p21 {b : Blade} {s : Saw} {sticks : Int} {Q : Int × Int × Unit → Prop} (h : f21_wp (b, s, sticks, ()) () Q) : V21 b s sticks Q := by
  obtain ⟨⟨hb, hs, h1, h2⟩, h⟩ := h
  have hb : BladeOK b := hb
  have hs : SawOK s := hs
  have h1 : 1 ≤ sticks := h1
  have h2 : sticks ≤ 400 := h2
  have n2 := hb.n2
  have nt := hb.nt
  have nc := hb.nc
  obtain ⟨p, ep⟩ : ∃ p, p = enB (sureOf b) s sticks := ⟨_, rfl⟩
  have h : ∀ r : Int, r = wsN p 301 0 300 → (r = 0 → Q (0, 7, ())) ∧ (r ≠ 0 → Q (r, 0, ())) := by rw [ep]; exact h
  refine ⟨⟨hb, hs⟩, ?_⟩
  show cnd ((0 : Int) != 0) _ _
  refine cnd_iff.2 ⟨fun e => by simp at e, fun _ => ?_⟩
  refine in41 (K := fun r => cnd (!r) _ _) ?_
  rw [inB_iff.2 ⟨h1, h2⟩]
  refine ⟨⟨by show b.1.length ≤ 30; omega, by show b.2.1.length ≤ 30; omega, by show b.2.2.2.length ≤ 4; omega⟩, ?_⟩
  refine ⟨fun lo hi => 0 ≤ lo ∧ lo ≤ hi ∧ hi ≤ 300 ∧ ∃ k : Nat, hi - lo ≤ k ∧ wsN p k lo hi = wsN p 301 0 300, fun lo hi => (hi - lo).toNat, ⟨by omega, by omega, by omega, 301, by omega, rfl⟩, ?_⟩
  rintro lo hi ⟨i1, i2, i3, k, i4, i5⟩
  refine cnd_iff.2 ⟨fun e => ?_, fun e => ?_⟩
  · have e : lo < hi := of_decide_eq_true e
    obtain ⟨m, rfl⟩ : ∃ m, k = m + 1 := ⟨k - 1, by omega⟩
    unfold wsN at i5
    rw [if_pos e] at i5
    rw [wrapS (x := lo + hi) (by omega) (by omega), wrapS (x := lo + hi + 1) (by omega) (by omega), Int.tdiv_eq_ediv_of_nonneg (by omega)]
    obtain ⟨mid, em⟩ : ∃ mid, mid = (lo + hi + 1) / 2 := ⟨_, rfl⟩
    rw [← em] at i5 ⊢
    rw [wrapS (x := mid) (by omega) (by omega), wrapS (x := mid - 1) (by omega) (by omega)]
    refine ⟨by decide, ⟨sure_ok hb, hs, by show 1 ≤ mid; omega, by show mid ≤ 300; omega⟩, ?_⟩
    intro q hq
    have hq : q = p mid := by rw [hq, ep]
    refine cnd_iff.2 ⟨fun g => ?_, fun g => ?_⟩
    · rw [if_pos (by rw [← hq]; exact g)] at i5
      exact ⟨⟨by omega, by omega, i3, m, by omega, i5⟩, by show (hi - mid).toNat < (hi - lo).toNat; omega⟩
    · rw [if_neg (by rw [← hq, g]; simp)] at i5
      exact ⟨⟨i1, by omega, by omega, m, by omega, i5⟩, by show (mid - 1 - lo).toNat < (hi - lo).toNat; omega⟩
  · have e : ¬ lo < hi := of_decide_eq_false e
    have hl : wsN p k lo hi = lo := by
      cases k with
      | zero => rfl
      | succ m => unfold wsN; rw [if_neg e]
    rw [hl] at i5
    obtain ⟨q1, q2⟩ := h lo i5
    refine cnd_iff.2 ⟨fun g => q1 (by simpa using g), fun g => q2 (by simpa using g)⟩

theorem blk_mono {v : View} {s s' : Saw} {x hi : Int} (hl : s'.1 = s.1) (hk : s'.2.2.1 = s.2.2.1) (hw : s'.2.1 ≤ s.2.1) (hw1 : 1 ≤ s'.2.1) (hk0 : 0 ≤ s.2.2.1) :
    ∀ (m n n' : Nat) (y y' : Int), n + n' ≤ m → y' ≤ y → hi - y' < n' → (blockN v s x hi n y).length ≤ (blockN v s' x hi n' y').length := by
  intro m
  induction m with
  | zero =>
    intro n n' y y' hm _ _
    have : n = 0 := by omega
    subst this
    exact Nat.zero_le _
  | succ m ih =>
    intro n n' y y' hm hy hf
    cases n with
    | zero => exact Nat.zero_le _
    | succ n =>
      by_cases hc : y + s.2.1 ≤ hi
      · have e1 : blockN v s x hi (n + 1) y = if (spoiltF v x s.1 y s.2.1).2.1 then blockN v s x hi n (spoiltF v x s.1 y s.2.1).1 else y :: blockN v s x hi n (y + (s.2.1 + s.2.2.1)) := by
          conv => lhs; unfold blockN
          rw [if_pos hc]
        rw [e1]
        by_cases hsp : (spoiltF v x s.1 y s.2.1).2.1 = true
        · rw [if_pos hsp]
          obtain ⟨sp, m1, m2, m3⟩ := spoilt_true hsp
          have m2 := (hitB_iff.1 m2).2.1
          exact ih n n' _ y' (by omega) (by rw [m3]; omega) hf
        · rw [if_neg hsp]
          cases n' with
          | zero => omega
          | succ n' =>
            have e2 : blockN v s' x hi (n' + 1) y' = if (spoiltF v x s'.1 y' s'.2.1).2.1 then blockN v s' x hi n' (spoiltF v x s'.1 y' s'.2.1).1 else y' :: blockN v s' x hi n' (y' + (s'.2.1 + s'.2.2.1)) := by
              conv => lhs; unfold blockN
              rw [if_pos (by omega)]
            by_cases hsp' : (spoiltF v x s'.1 y' s'.2.1).2.1 = true
            · have e3 : blockN v s x hi (n + 1) y = y :: blockN v s x hi n (y + (s.2.1 + s.2.2.1)) := by rw [e1, if_neg hsp]
              rw [e2, if_pos hsp', ← e3]
              obtain ⟨sp, m1, m2, m3⟩ := spoilt_true hsp'
              obtain ⟨q1, q2, q3⟩ := hitB_iff.1 m2
              have hno : hitB x s.1 y s.2.1 sp = false := by
                cases hh : hitB x s.1 y s.2.1 sp with
                | false => rfl
                | true =>
                  exfalso
                  apply hsp
                  unfold spoiltF
                  cases hf2 : v.2.2.find? (hitB x s.1 y s.2.1) with
                  | none => rw [List.find?_eq_none] at hf2; exact absurd hh (hf2 sp m1)
                  | some z => rfl
              have hle : sp.2.2 ≤ y := by
                by_cases hd : sp.2.2 ≤ y
                · exact hd
                · exfalso
                  rw [hitB_iff.2 ⟨by rw [← hl]; exact q1, by omega, by omega⟩] at hno
                  cases hno
              exact ih (n + 1) n' y _ (by omega) (by rw [m3]; exact hle) (by rw [m3]; omega)
            · rw [e2, if_neg hsp']
              simp only [List.length_cons]
              exact Nat.succ_le_succ (ih n n' _ _ (by omega) (by omega) (by omega))
      · have : blockN v s x hi (n + 1) y = [] := by
          unfold blockN; rw [if_neg hc]
        rw [this]; exact Nat.zero_le _
theorem best_mono {c c' : Nat → Nat} {n L A : Nat} (hL : 1 ≤ L) (h : ∀ x, x + L ≤ n → c x ≤ c' x) : ∀ f x, n - x ≤ f → bestF c n L A x ≤ bestF c' n L A x := by
  intro f
  induction f with
  | zero => intro x hf; rw [best_no (by omega)]; exact Nat.zero_le _
  | succ f ih =>
    intro x hf
    by_cases hx : x + L ≤ n
    · rw [best_step hx hL, best_step hx hL]
      have h1 := ih (x + 1) (by omega)
      have h2 := ih (x + L + A) (by omega)
      have h3 := h x hx
      omega
    · rw [best_no (by omega)]; exact Nat.zero_le _
theorem sticks_mono {v : View} {s : Saw} (hv : ViewOK v) (hs : SawOK s) {w w' : Int} (h1 : 1 ≤ w) (h2 : w ≤ w') : sticksF v (wideS s w') ≤ sticksF v (wideS s w) := by
  have l1 := hs.l1
  refine best_mono (by show 1 ≤ s.1.toNat; omega) (fun x hx => ?_) _ 0 (Nat.le_refl _)
  have hx : x + s.1.toNat ≤ v.1.length := hx
  obtain ⟨⟨r1, r2⟩, r3, r4⟩ := room_bound hv (x := (x : Int)) (long := s.1) (by omega) l1 (by omega)
  exact blk_mono (v := v) (s := wideS s w') (s' := wideS s w) rfl rfl h2 h1 hs.k1 604 302 302 _ _ (by omega) (Int.le_refl _) (by show (roomF v x s.1).2 - (roomF v x s.1).1 < ((302 : Nat) : Int); omega)
theorem ws_ge {p : Int → Bool} {w : Int} (hp : ∀ m, m ≤ w → 1 ≤ m → p m = true) : ∀ (k : Nat) (lo hi : Int), 0 ≤ lo → lo ≤ hi → w ≤ hi → hi - lo ≤ k → w ≤ wsN p k lo hi
  | 0, lo, hi, h0, h1, h2, h3 => by show w ≤ lo; omega
  | k + 1, lo, hi, h0, h1, h2, h3 => by
    unfold wsN
    by_cases e : lo < hi
    · rw [if_pos e]
      obtain ⟨mid, em⟩ : ∃ mid, mid = (lo + hi + 1) / 2 := ⟨_, rfl⟩
      rw [← em]
      by_cases g : p mid = true
      · rw [if_pos g]; exact ws_ge hp k mid hi (by omega) (by omega) h2 (by omega)
      · rw [if_neg g]
        have : ¬ mid ≤ w := fun hm => g (hp mid hm (by omega))
        exact ws_ge hp k lo (mid - 1) h0 (by omega) (by omega) (by omega)
    · rw [if_neg e]; omega
theorem fans_all : ∀ n, n ∈ List.range 13 → ∀ c, c ∈ [2, 3, 4, 5] → mostC (cutsK 1 7 n) (c, 0, 0) = ((n : Int) / c, 0, ()) := by decide +kernel
theorem p6 {x : OakT} {v : Two} {Q : Bool → Prop} (h : f6_wp (x, v, ()) () Q) : V6 x v Q := by
  obtain ⟨⟨hx, hv1, hv2⟩, h⟩ := h
  have hx : ToothOK x := hx
  have hv1 : byteB v.1 := hv1
  have hv2 : byteB v.2 := hv2
  have h : Q true := h
  have m1 := tmB (m := 6) hv1 (by omega)
  have m2 := tmB (m := 4) hv2 (by omega)
  obtain ⟨c, ec⟩ : ∃ c, c = 2 + Int.tmod (IntKind.wrap .i64 v.2) 4 := ⟨_, rfl⟩
  have ec' : IntKind.wrap .i64 (2 + Int.tmod (IntKind.wrap .i64 v.2) 4) = c := by rw [ec]; exact wrapS (by omega) (by omega)
  have hc : c ∈ [2, 3, 4, 5] := by simp only [List.mem_cons, List.not_mem_nil, or_false]; omega
  refine ⟨hx, fun b s hb hs => ?_⟩
  show (6 : Int) ≠ 0 ∧ _
  have w1 := hs.w1
  have w2 := hs.w2
  obtain ⟨nw, enw⟩ : ∃ nw, nw = max 1 (s.2.1 - Int.tmod (IntKind.wrap .i64 v.1) 6) := ⟨_, rfl⟩
  have enw' : mxI 1 (IntKind.wrap .i64 (s.2.1 - Int.tmod (IntKind.wrap .i64 v.1) 6)) = nw := by
    rw [enw, wrapS (x := s.2.1 - Int.tmod (IntKind.wrap .i64 v.1) 6) (by omega) (by omega), mxI_max]
  have hs' : SawOK (wideS s nw) := ⟨hs.l1, hs.l2, by show 1 ≤ nw; omega, by show nw ≤ 300; omega, hs.k1, hs.k2, hs.a1, hs.a2⟩
  have hmono : sticksF (sureOf b) s ≤ sticksF (sureOf b) (wideS s nw) := sticks_mono (s := s) (w := nw) (w' := s.2.1) (sure_ok hb) hs (by omega) (by omega)
  obtain ⟨n, en⟩ : ∃ n : Nat, n = min (sticksF (sureOf b) s) 12 := ⟨_, rfl⟩
  obtain ⟨m, em⟩ : ∃ m : Nat, m = min (sticksF (sureOf b) (wideS s nw)) 12 := ⟨_, rfl⟩
  have en' : min ((sticksF (sureOf b) s : Nat) : Int) 12 = (n : Int) := by rw [en]; omega
  have em' : min ((sticksF (sureOf b) (wideS s nw) : Nat) : Int) 12 = (m : Int) := by rw [em]; omega
  have hnm : n ≤ m := by omega
  have hm12 : m ≤ 12 := by omega
  rw [ec', enw']
  refine ⟨by decide, (n : Int), ⟨⟨hb, hs⟩, en'⟩, (m : Int), ⟨⟨hb, hs'⟩, em'⟩, ?_⟩
  refine cnd_iff.2 ⟨fun e => absurd (of_decide_eq_true e) (by omega), fun _ => ?_⟩
  refine cnd_iff.2 ⟨fun e => absurd (of_decide_eq_true e) (by omega), fun _ => ?_⟩
  have k1 := fans_all n (List.mem_range.2 (by omega)) c hc
  have k2 := fans_all m (List.mem_range.2 (by omega)) c hc
  refine ⟨by decide, cutsK 1 7 n, ⟨⟨by show (0 : Int) ≤ (n : Int); omega, by show (n : Int) ≤ 1000; omega⟩, rfl⟩, ((n : Int) / c, 0, ()), k1, cutsK 1 7 m, ⟨⟨by show (0 : Int) ≤ (m : Int); omega, by show (m : Int) ≤ 1000; omega⟩, rfl⟩, ((m : Int) / c, 0, ()), k2, ?_⟩
  show cnd ((0 : Int) != 0) (Q false) (cnd ((0 : Int) != 0) (Q false) (cnd (decide ((m : Int) / c < (n : Int) / c)) (Q false) (c ≠ 0 ∧ cnd ((n : Int) / c != IntKind.wrap .i64 (Int.tdiv (n : Int) c)) (Q false) _)))
  refine cnd_iff.2 ⟨fun e => by simp at e, fun _ => ?_⟩
  refine cnd_iff.2 ⟨fun e => by simp at e, fun _ => ?_⟩
  have hdiv : (n : Int) / c ≤ (m : Int) / c := Int.ediv_le_ediv (by omega) (by omega)
  refine cnd_iff.2 ⟨fun e => absurd (of_decide_eq_true e) (by omega), fun _ => ⟨by omega, ?_⟩⟩
  have hd2 : 0 ≤ (n : Int) / c := Int.ediv_nonneg (by omega) (by omega)
  have hd3 : (n : Int) / c ≤ n := Int.ediv_le_self _ (by omega)
  rw [Int.tdiv_eq_ediv_of_nonneg (by omega), wrapS (x := (n : Int) / c) (by omega) (by omega)]
  refine cnd_iff.2 ⟨fun e => by simp at e, fun _ => ?_⟩
  have n2 := hb.n2
  have nt := hb.nt
  have nc := hb.nc
  refine cnd_iff.2 ⟨fun e => ?_, fun _ => h⟩
  have e : (n : Int) > 0 := of_decide_eq_true e
  have hge : s.2.1 ≤ wsN (enB (sureOf b) s n) 301 0 300 := by
    refine ws_ge (fun q hq hq1 => ?_) 301 0 300 (by omega) (by omega) (by omega) (by omega)
    have := sticks_mono (s := s) (w := q) (w' := s.2.1) (sure_ok hb) hs hq1 hq
    have : sticksF (sureOf b) s ≤ sticksF (sureOf b) (wideS s q) := this
    unfold enB
    rw [decide_eq_true_eq]
    omega
  obtain ⟨r, er⟩ : ∃ r, r = wsN (enB (sureOf b) s n) 301 0 300 := ⟨_, rfl⟩
  rw [← er] at hge
  refine ⟨b, ⟨⟨by show b.1.length ≤ 1000000; omega, by show b.2.1.length ≤ 1000000; omega, by show b.2.2.2.length ≤ 1000000; omega⟩, rfl⟩, (r, 0, ()), ⟨⟨hb, hs, by show 1 ≤ (n : Int); omega, by show (n : Int) ≤ 400; omega⟩, fun r' hr' => ?_⟩, ?_⟩
  · have hr' : r' = r := by rw [er]; exact hr'
    rw [hr']
    exact ⟨fun e0 => absurd e0 (by omega), fun _ => rfl⟩
  · show cnd ((0 : Int) != 0) (Q false) (cnd (decide (r < s.2.1)) (Q false) _)
    refine cnd_iff.2 ⟨fun e => by simp at e, fun _ => ?_⟩
    refine cnd_iff.2 ⟨fun e => absurd (of_decide_eq_true e) (by omega), fun _ => h⟩
end Go.Proofs.Tq
set_option maxRecDepth 100000
set_option maxHeartbeats 2000000
namespace Go.Proofs.Tq
open Go Go.GX Go.Proofs
variable [Inhabited BaseD]
theorem ok43 : CallsOK Try.prog (assoc glT) 43 f43_ct :=
  callsOK_E (env (ct := [(44, f44_ct)]) (ios := []) (hos := []) (lits := []) (AllOK.cons ok44 AllOK.nil) AllW.nil AllH.nil) no_an Try.func43 (by kernel_rfl) (by kernel_rfl) f43_ct fun wide ⟨s, v, sticks, _⟩ Q h => (v43 wide s v sticks Q).mp (p43 h)
theorem ok21 : CallsOK Try.prog (assoc glT) 21 f21_ct :=
  callsOK_E (env (ct := [(40, f40_ct), (41, f41_ct), (42, f42_ct), (43, f43_ct)]) (ios := []) (hos := []) (lits := []) (AllOK.cons ok40 (AllOK.cons ok41 (AllOK.cons ok42 (AllOK.cons ok43 AllOK.nil)))) AllW.nil AllH.nil) f21_an Try.func21 (by kernel_rfl) (by kernel_rfl) f21_ct fun ⟨b, s, sticks, _⟩ _ Q h => (v21 b s sticks Q).mp (p21 h)
theorem ok6 : CallsOK Try.prog (assoc glT) 6 f6_ct :=
  callsOK_E (env (ct := [(16, f16_ct), (17, f17_ct), (13, f13_ct), (12, f12_ct), (22, f22_ct), (21, f21_ct), (20, f20_ct)]) (ios := []) (hos := []) (lits := []) (AllOK.cons ok16 (AllOK.cons ok17 (AllOK.cons ok13 (AllOK.cons ok12 (AllOK.cons ok22 (AllOK.cons ok21 (AllOK.cons ok20 AllOK.nil))))))) AllW.nil AllH.nil) no_an Try.func6 (by kernel_rfl) (by kernel_rfl) f6_ct fun ⟨x, v, _⟩ _ Q h => (v6 x v Q).mp (p6 h)
end Go.Proofs.Tq
