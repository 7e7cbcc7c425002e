/- Part 7 of the texts behind the proof: RzV2, RzP2, RzO1, RzM1, RzM2, RzV3, RzP3, RzP4, RzP5, RzV4, RzP6, RzP7. -/
import Derived.Test.YtmdonphignifoaaGreatG06
import Derived.Test.YtmdonphignifoaaGreatProg
set_option linter.unusedSimpArgs false
set_option linter.unusedVariables false
set_option linter.unusedSectionVars false
set_option linter.unusedVariables false
set_option maxRecDepth 100000
namespace Go.Proofs.Rz
open Go Go.GX Go.Proofs

def V50 (lo : Int) (hi : Int) (xs : List Int) (Q : Bool → Prop) : Prop :=
  f88_wp (xs, fun (x : Int) (Q : Bool → Prop) ↦ f89_wp x (lo, hi, ()) fun (r : Bool) ↦ Q r, ()) () fun (r : Bool) ↦ Q !r
theorem v50 (lo : Int) (hi : Int) (xs : List Int) (Q : Bool → Prop) : V50 lo hi xs Q = vcFunc (S1 [(88, f88_ct), (89, f89_ct)] [] [] []) f50_ct.own f50_ct.fresh no_an Tryz.f50 (bodyOf Tryz.f50) f50_ct.A f50_ct.C f50_ct.R (lo, hi, xs, ()) () Q := by kernel_rfl

def V43 (s : Int × Int) (lo : Int) (hi : Int) (Q : Bool → Prop) : Prop :=
  f50_wp (lo, hi, Prod.fst s :: Prod.snd s :: ([] : List Int), ()) () fun (r : Bool) ↦ cnd r (Q (decide (Prod.fst s ≤ Prod.snd s))) (Q false)
theorem v43 (s : Int × Int) (lo : Int) (hi : Int) (Q : Bool → Prop) : V43 s lo hi Q = vcFunc (S1 [(50, f50_ct)] [] [] []) f43_ct.own f43_ct.fresh no_an Tryz.f43 (bodyOf Tryz.f43) f43_ct.A f43_ct.C f43_ct.R (s, lo, hi, ()) () Q := by kernel_rfl

def V42 (g : (Int × Int) × Int × Int) (Q : Bool → Prop) : Prop :=
  f43_wp ((Prod.fst (Prod.fst g), Prod.snd (Prod.fst g)), (0 : Int), (1000 : Int), ()) () fun (r : Bool) ↦
    cnd (!r) (Q true) (f43_wp ((Prod.fst (Prod.snd g), Prod.snd (Prod.snd g)), (0 : Int), (500 : Int), ()) () fun (r : Bool) ↦ Q !r)
theorem v42 (g : (Int × Int) × Int × Int) (Q : Bool → Prop) : V42 g Q = vcFunc (S1 [(43, f43_ct)] [] [] []) f42_ct.own f42_ct.fresh no_an Tryz.f42 (bodyOf Tryz.f42) f42_ct.A f42_ct.C f42_ct.R g () Q := by kernel_rfl

def V12 (f : (Int × Int) × (Int × Int) × List ((Int × Int) × Int × Int)) (Q : Int → Prop) : Prop :=
  f43_wp ((Prod.fst (Prod.fst f), Prod.snd (Prod.fst f)), (1 : Int), (5000 : Int), ()) () fun (r : Bool) ↦
    cnd (!r) (Q (3 : Int))
      (f43_wp ((Prod.fst (Prod.fst (Prod.snd f)), Prod.snd (Prod.fst (Prod.snd f))), (1 : Int), (5000 : Int), ()) () fun (r : Bool) ↦
        cnd (!r) (Q (3 : Int))
          (cnd (decide (Prod.snd (Prod.fst (Prod.snd f)) ≥ Prod.fst (Prod.fst f))) (Q (3 : Int))
            (List.length (Prod.snd (Prod.snd f)) ≤ (9223372036854775807 : Nat) →
              cnd (decide ((↑(List.length (Prod.snd (Prod.snd f))) : Int) > (40 : Int))) (Q (5 : Int))
                (f44_wp (Prod.snd (Prod.snd f), fun (x : (Int × Int) × Int × Int) (Q : Bool → Prop) ↦ f42_wp x () fun (r : Bool) ↦ Q r, ()) ()
                  fun (r : Bool) ↦ cnd r (Q (2 : Int)) (Q (0 : Int))))))
theorem v12 (f : (Int × Int) × (Int × Int) × List ((Int × Int) × Int × Int)) (Q : Int → Prop) : V12 f Q = vcFunc (S1 [(43, f43_ct), (42, f42_ct), (44, f44_ct)] [] [] []) f12_ct.own f12_ct.fresh no_an Tryz.f12 (bodyOf Tryz.f12) f12_ct.A f12_ct.C f12_ct.R f () Q := by kernel_rfl

def V53 (n : Int) (Q : Bool → Prop) : Prop :=
  f50_wp ((0 : Int), (360 : Int), n :: ([] : List Int), ()) () fun (r : Bool) ↦ Q r
theorem v53 (n : Int) (Q : Bool → Prop) : V53 n Q = vcFunc (S1 [(50, f50_ct)] [] [] []) f53_ct.own f53_ct.fresh no_an Tryz.f53 (bodyOf Tryz.f53) f53_ct.A f53_ct.C f53_ct.R n () Q := by kernel_rfl

def V92 (t : Int × Int × Int × Int) (Q : Int × Int × Unit → Prop) : Prop :=
  Q
    (IntKind.wrap IntKind.i64
        (IntKind.wrap IntKind.i64 (Prod.fst t * Prod.snd (Prod.snd (Prod.snd t))) +
          IntKind.wrap IntKind.i64 (Prod.fst (Prod.snd t) * Prod.fst (Prod.snd (Prod.snd t)))),
      IntKind.wrap IntKind.i64 (Prod.fst (Prod.snd (Prod.snd t)) * Prod.snd (Prod.snd (Prod.snd t))), ())
theorem v92 (t : Int × Int × Int × Int) (Q : Int × Int × Unit → Prop) : V92 t Q = vcFunc (S1 [] [] [] []) f92_ct.own f92_ct.fresh no_an Tryz.f92 (bodyOf Tryz.f92) f92_ct.A f92_ct.C f92_ct.R t () Q := by kernel_rfl

def V59 (t : Int × Int × Int × Int) (u : Int × Int × Int × Int) (Q : Int → Prop) : Prop :=
  f92_wp (Prod.fst t, Prod.fst (Prod.snd t), Prod.fst (Prod.snd (Prod.snd t)), Prod.snd (Prod.snd (Prod.snd t))) () fun (r : Int × Int × Unit) ↦
    f92_wp (Prod.fst u, Prod.fst (Prod.snd u), Prod.fst (Prod.snd (Prod.snd u)), Prod.snd (Prod.snd (Prod.snd u))) () fun (r_1 : Int × Int × Unit) ↦
      f93_wp (IntKind.wrap IntKind.i64 (Prod.fst r * Prod.fst (Prod.snd r_1)), IntKind.wrap IntKind.i64 (Prod.fst r_1 * Prod.fst (Prod.snd r)), ()) ()
        fun (r : Int) ↦ Q r
theorem v59 (t : Int × Int × Int × Int) (u : Int × Int × Int × Int) (Q : Int → Prop) : V59 t u Q = vcFunc (S1 [(92, f92_ct), (93, f93_ct)] [] [] []) f59_ct.own f59_ct.fresh no_an Tryz.f59 (bodyOf Tryz.f59) f59_ct.A f59_ct.C f59_ct.R (t, u, ()) () Q := by kernel_rfl

def V86 (t : Int × Int × Int × Int) (Q : Int → Prop) : Prop :=
  f92_wp (Prod.fst t, Prod.fst (Prod.snd t), Prod.fst (Prod.snd (Prod.snd t)), Prod.snd (Prod.snd (Prod.snd t))) () fun (r : Int × Int × Unit) ↦
    IntKind.wrap IntKind.i64 ((71 : Int) * Prod.fst (Prod.snd r)) ≠ (0 : Int) ∧
      Q
        (mnI (360 : Int)
          (IntKind.wrap IntKind.i64
            (Int.tdiv (IntKind.wrap IntKind.i64 ((4068 : Int) * Prod.fst r)) (IntKind.wrap IntKind.i64 ((71 : Int) * Prod.fst (Prod.snd r))))))
theorem v86 (t : Int × Int × Int × Int) (Q : Int → Prop) : V86 t Q = vcFunc (S1 [(92, f92_ct)] [] [] []) f86_ct.own f86_ct.fresh no_an Tryz.f86 (bodyOf Tryz.f86) f86_ct.A f86_ct.C f86_ct.R t () Q := by kernel_rfl

def V83 (s : Int × Int) (Q : Int → Prop) : Prop :=
  Q (Prod.fst s)
theorem v83 (s : Int × Int) (Q : Int → Prop) : V83 s Q = vcFunc (S1 [] [] [] []) f83_ct.own f83_ct.fresh no_an Tryz.f83 (bodyOf Tryz.f83) f83_ct.A f83_ct.C f83_ct.R s () Q := by kernel_rfl

def V82 (s : Int × Int) (Q : Int → Prop) : Prop :=
  Q (Prod.snd s)
theorem v82 (s : Int × Int) (Q : Int → Prop) : V82 s Q = vcFunc (S1 [] [] [] []) f82_ct.own f82_ct.fresh no_an Tryz.f82 (bodyOf Tryz.f82) f82_ct.A f82_ct.C f82_ct.R s () Q := by kernel_rfl

def V55 (Q : (Int × Int → (Int → Prop) → Prop) × (Int × Int → (Int → Prop) → Prop) → Prop) : Prop :=
  Q (fun (x : Int × Int) (Q : Int → Prop) ↦ f83_wp x () fun (r : Int) ↦ Q r, fun (x : Int × Int) (Q : Int → Prop) ↦ f82_wp x () fun (r : Int) ↦ Q r)
theorem v55 (Q : (Int × Int → (Int → Prop) → Prop) × (Int × Int → (Int → Prop) → Prop) → Prop) : V55 Q = vcFunc (S1 [(82, f82_ct), (83, f83_ct)] [] [] []) f55_ct.own f55_ct.fresh no_an Tryz.f55 (bodyOf Tryz.f55) f55_ct.A f55_ct.C f55_ct.R () () Q := by kernel_rfl

def V75 (Q : (Int × Int → (Int → Prop) → Prop) × (Int × Int → (Int → Prop) → Prop) → Prop) : Prop :=
  Q (fun (x : Int × Int) (Q : Int → Prop) ↦ f82_wp x () fun (r : Int) ↦ Q r, fun (x : Int × Int) (Q : Int → Prop) ↦ f83_wp x () fun (r : Int) ↦ Q r)
theorem v75 (Q : (Int × Int → (Int → Prop) → Prop) × (Int × Int → (Int → Prop) → Prop) → Prop) : V75 Q = vcFunc (S1 [(82, f82_ct), (83, f83_ct)] [] [] []) f75_ct.own f75_ct.fresh no_an Tryz.f75 (bodyOf Tryz.f75) f75_ct.A f75_ct.C f75_ct.R () () Q := by kernel_rfl

def V90 (e : (Int × Int → (Int → Prop) → Prop) × (Int × Int → (Int → Prop) → Prop)) (t : Int × Int × Int × Int) (g : (Int × Int) × Int × Int) (Q : Int × Int × Int × Int → Prop) : Prop :=
  ∃ (r : Int),
    (Prod.fst e (Prod.fst (Prod.fst g), Prod.snd (Prod.fst g)) fun (r' : Int) ↦ r' = r) ∧
      ∃ (r_1 : Int),
        (Prod.fst e (Prod.fst (Prod.snd g), Prod.snd (Prod.snd g)) fun (r' : Int) ↦ r' = r_1) ∧
          cnd
            (decide
              (IntKind.wrap IntKind.i64 (r * Prod.snd (Prod.snd (Prod.snd t))) ≤ IntKind.wrap IntKind.i64 (r_1 * Prod.fst (Prod.snd (Prod.snd t)))))
            (Q (IntKind.wrap IntKind.i64 (Prod.fst t + r), Prod.fst (Prod.snd t), Prod.fst (Prod.snd (Prod.snd t)), Prod.snd (Prod.snd (Prod.snd t))))
            (Q (Prod.fst t, IntKind.wrap IntKind.i64 (Prod.fst (Prod.snd t) + r_1), Prod.fst (Prod.snd (Prod.snd t)), Prod.snd (Prod.snd (Prod.snd t))))
theorem v90 (e : (Int × Int → (Int → Prop) → Prop) × (Int × Int → (Int → Prop) → Prop)) (t : Int × Int × Int × Int) (g : (Int × Int) × Int × Int) (Q : Int × Int × Int × Int → Prop) : V90 e t g Q = vcFunc (S1 [] [] [] []) f90_ct.own f90_ct.fresh no_an Tryz.f90 (bodyOf Tryz.f90) f90_ct.A f90_ct.C f90_ct.R (e, t, g, ()) () Q := by kernel_rfl

def V56 (e : (Int × Int → (Int → Prop) → Prop) × (Int × Int → (Int → Prop) → Prop)) (f : (Int × Int) × (Int × Int) × List ((Int × Int) × Int × Int)) (Q : Int × Int × Int × Int → Prop) : Prop :=
  ∃ (r : Int),
    (Prod.snd e (Prod.fst (Prod.fst f), Prod.snd (Prod.fst f)) fun (r' : Int) ↦ r' = r) ∧
      ∃ (r_1 : Int),
        (Prod.snd e (Prod.fst (Prod.fst (Prod.snd f)), Prod.snd (Prod.fst (Prod.snd f))) fun (r' : Int) ↦ r' = r_1) ∧
          (List.length (Prod.snd (Prod.snd f)) ≤ (9223372036854775807 : Nat) →
            ∃ (I : Int → Int × Int × Int × Int → Prop),
              ∃ (μ : Int → Int × Int × Int × Int → Nat),
                I (0 : Int) ((0 : Int), (0 : Int), r, r_1) ∧
                  ∀ (x : Int) (x_1 : Int × Int × Int × Int),
                    I x x_1 →
                      cnd (decide (x < (↑(List.length (Prod.snd (Prod.snd f))) : Int)))
                        ((0 : Int) ≤ x ∧
                          x < (↑(List.length (Prod.snd (Prod.snd f))) : Int) ∧
                            f90_wp
                              ((Prod.fst e, Prod.snd e),
                                (Prod.fst x_1, Prod.fst (Prod.snd x_1), Prod.fst (Prod.snd (Prod.snd x_1)), Prod.snd (Prod.snd (Prod.snd x_1))),
                                ((Prod.fst (Prod.fst (List.getD (Prod.snd (Prod.snd f)) (Int.toNat x) (((0 : Int), (0 : Int)), (0 : Int), (0 : Int)))),
                                    Prod.snd
                                      (Prod.fst (List.getD (Prod.snd (Prod.snd f)) (Int.toNat x) (((0 : Int), (0 : Int)), (0 : Int), (0 : Int))))),
                                  Prod.fst (Prod.snd (List.getD (Prod.snd (Prod.snd f)) (Int.toNat x) (((0 : Int), (0 : Int)), (0 : Int), (0 : Int)))),
                                  Prod.snd (Prod.snd (List.getD (Prod.snd (Prod.snd f)) (Int.toNat x) (((0 : Int), (0 : Int)), (0 : Int), (0 : Int))))),
                                ())
                              () fun (r : Int × Int × Int × Int) ↦
                              I (IntKind.wrap IntKind.i64 (x + (1 : Int)))
                                  (Prod.fst r, Prod.fst (Prod.snd r), Prod.fst (Prod.snd (Prod.snd r)), Prod.snd (Prod.snd (Prod.snd r))) ∧
                                μ (IntKind.wrap IntKind.i64 (x + (1 : Int)))
                                    (Prod.fst r, Prod.fst (Prod.snd r), Prod.fst (Prod.snd (Prod.snd r)), Prod.snd (Prod.snd (Prod.snd r))) <
                                  μ x x_1)
                        (Q (Prod.fst x_1, Prod.fst (Prod.snd x_1), Prod.fst (Prod.snd (Prod.snd x_1)), Prod.snd (Prod.snd (Prod.snd x_1)))))
theorem v56 (e : (Int × Int → (Int → Prop) → Prop) × (Int × Int → (Int → Prop) → Prop)) (f : (Int × Int) × (Int × Int) × List ((Int × Int) × Int × Int)) (Q : Int × Int × Int × Int → Prop) : V56 e f Q = vcFunc (S1 [(90, f90_ct)] [] [] []) f56_ct.own f56_ct.fresh f56_an Tryz.f56 (bodyOf Tryz.f56) f56_ct.A f56_ct.C f56_ct.R (e, f, ()) () Q := by kernel_rfl

def V45 (f : (Int × Int) × (Int × Int) × List ((Int × Int) × Int × Int)) (Q : Int × Int → Prop) : Prop :=
  ∃ (r : (Int × Int → (Int → Prop) → Prop) × (Int × Int → (Int → Prop) → Prop)),
    (f55_wp () () fun (r' : (Int × Int → (Int → Prop) → Prop) × (Int × Int → (Int → Prop) → Prop)) ↦ r' = r) ∧
      ∃ (r_1 : Int × Int × Int × Int),
        (f56_wp
            ((Prod.fst r, Prod.snd r),
              ((Prod.fst (Prod.fst f), Prod.snd (Prod.fst f)), (Prod.fst (Prod.fst (Prod.snd f)), Prod.snd (Prod.fst (Prod.snd f))),
                Prod.snd (Prod.snd f)),
              ())
            () fun (r' : Int × Int × Int × Int) ↦ r' = r_1) ∧
          ∃ (r : Int),
            (f86_wp (Prod.fst r_1, Prod.fst (Prod.snd r_1), Prod.fst (Prod.snd (Prod.snd r_1)), Prod.snd (Prod.snd (Prod.snd r_1))) () fun (r' : Int) ↦
                r' = r) ∧
              ∃ (r_2 : (Int × Int → (Int → Prop) → Prop) × (Int × Int → (Int → Prop) → Prop)),
                (f75_wp () () fun (r' : (Int × Int → (Int → Prop) → Prop) × (Int × Int → (Int → Prop) → Prop)) ↦ r' = r_2) ∧
                  ∃ (r_3 : Int × Int × Int × Int),
                    (f56_wp
                        ((Prod.fst r_2, Prod.snd r_2),
                          ((Prod.fst (Prod.fst f), Prod.snd (Prod.fst f)), (Prod.fst (Prod.fst (Prod.snd f)), Prod.snd (Prod.fst (Prod.snd f))),
                            Prod.snd (Prod.snd f)),
                          ())
                        () fun (r' : Int × Int × Int × Int) ↦ r' = r_3) ∧
                      ∃ (r_4 : Int),
                        (f86_wp (Prod.fst r_3, Prod.fst (Prod.snd r_3), Prod.fst (Prod.snd (Prod.snd r_3)), Prod.snd (Prod.snd (Prod.snd r_3))) ()
                            fun (r' : Int) ↦ r' = r_4) ∧
                          Q (r, r_4)
theorem v45 (f : (Int × Int) × (Int × Int) × List ((Int × Int) × Int × Int)) (Q : Int × Int → Prop) : V45 f Q = vcFunc (S1 [(55, f55_ct), (75, f75_ct), (56, f56_ct), (86, f86_ct)] [] [] []) f45_ct.own f45_ct.fresh no_an Tryz.f45 (bodyOf Tryz.f45) f45_ct.A f45_ct.C f45_ct.R f () Q := by kernel_rfl

def V13 (f : (Int × Int) × (Int × Int) × List ((Int × Int) × Int × Int)) (Q : (Int × Int) × Int × Unit → Prop) : Prop :=
  f12_wp ((Prod.fst (Prod.fst f), Prod.snd (Prod.fst f)), (Prod.fst (Prod.fst (Prod.snd f)), Prod.snd (Prod.fst (Prod.snd f))), Prod.snd (Prod.snd f))
    () fun (r : Int) ↦
    cnd (r != (0 : Int)) (Q (((0 : Int), (0 : Int)), r, ()))
      (f45_wp
        ((Prod.fst (Prod.fst f), Prod.snd (Prod.fst f)), (Prod.fst (Prod.fst (Prod.snd f)), Prod.snd (Prod.fst (Prod.snd f))), Prod.snd (Prod.snd f)) ()
        fun (r : Int × Int) ↦ Q ((Prod.fst r, Prod.snd r), (0 : Int), ()))
theorem v13 (f : (Int × Int) × (Int × Int) × List ((Int × Int) × Int × Int)) (Q : (Int × Int) × Int × Unit → Prop) : V13 f Q = vcFunc (S1 [(12, f12_ct), (45, f45_ct)] [] [] []) f13_ct.own f13_ct.fresh no_an Tryz.f13 (bodyOf Tryz.f13) f13_ct.A f13_ct.C f13_ct.R f () Q := by kernel_rfl

def V30 (f : (Int × Int) × (Int × Int) × List ((Int × Int) × Int × Int)) (Q : List Int × Int × Unit → Prop) : Prop :=
  f12_wp ((Prod.fst (Prod.fst f), Prod.snd (Prod.fst f)), (Prod.fst (Prod.fst (Prod.snd f)), Prod.snd (Prod.fst (Prod.snd f))), Prod.snd (Prod.snd f))
    () fun (r : Int) ↦
    cnd (r != (0 : Int)) (Q (([] : List Int), r, ()))
      (List.length (Prod.snd (Prod.snd f)) ≤ (9223372036854775807 : Nat) →
        ∃ (I : Int → List Int → Prop),
          ∃ (μ : Int → List Int → Nat),
            I (0 : Int) ([] : List Int) ∧
              ∀ (x : Int) (x_1 : List Int),
                I x x_1 →
                  cnd (decide (x < (↑(List.length (Prod.snd (Prod.snd f))) : Int)))
                    ((0 : Int) ≤ x ∧
                      x < (↑(List.length (Prod.snd (Prod.snd f))) : Int) ∧
                        cnd
                          (decide
                            (IntKind.wrap IntKind.i64
                                (Prod.snd (Prod.fst (List.getD (Prod.snd (Prod.snd f)) (Int.toNat x) (((0 : Int), (0 : Int)), (0 : Int), (0 : Int)))) *
                                  Prod.snd (Prod.fst (Prod.snd f))) <
                              IntKind.wrap IntKind.i64
                                (Prod.fst (Prod.snd (List.getD (Prod.snd (Prod.snd f)) (Int.toNat x) (((0 : Int), (0 : Int)), (0 : Int), (0 : Int)))) *
                                  Prod.fst (Prod.fst f))))
                          ((List.length x_1 + List.length ((1 : Int) :: ([] : List Int))) * (8 : Nat) ≤ (140737488355328 : Nat) ∧
                            I (IntKind.wrap IntKind.i64 (x + (1 : Int))) (x_1 ++ (1 : Int) :: ([] : List Int)) ∧
                              μ (IntKind.wrap IntKind.i64 (x + (1 : Int))) (x_1 ++ (1 : Int) :: ([] : List Int)) < μ x x_1)
                          (cnd
                            (decide
                              (IntKind.wrap IntKind.i64
                                  (Prod.snd
                                      (Prod.snd (List.getD (Prod.snd (Prod.snd f)) (Int.toNat x) (((0 : Int), (0 : Int)), (0 : Int), (0 : Int)))) *
                                    Prod.snd (Prod.fst f)) <
                                IntKind.wrap IntKind.i64
                                  (Prod.fst
                                      (Prod.fst (List.getD (Prod.snd (Prod.snd f)) (Int.toNat x) (((0 : Int), (0 : Int)), (0 : Int), (0 : Int)))) *
                                    Prod.fst (Prod.fst (Prod.snd f)))))
                            ((List.length x_1 + List.length ((2 : Int) :: ([] : List Int))) * (8 : Nat) ≤ (140737488355328 : Nat) ∧
                              I (IntKind.wrap IntKind.i64 (x + (1 : Int))) (x_1 ++ (2 : Int) :: ([] : List Int)) ∧
                                μ (IntKind.wrap IntKind.i64 (x + (1 : Int))) (x_1 ++ (2 : Int) :: ([] : List Int)) < μ x x_1)
                            ((List.length x_1 + List.length ((3 : Int) :: ([] : List Int))) * (8 : Nat) ≤ (140737488355328 : Nat) ∧
                              I (IntKind.wrap IntKind.i64 (x + (1 : Int))) (x_1 ++ (3 : Int) :: ([] : List Int)) ∧
                                μ (IntKind.wrap IntKind.i64 (x + (1 : Int))) (x_1 ++ (3 : Int) :: ([] : List Int)) < μ x x_1)))
                    (Q (x_1, (0 : Int), ())))
theorem v30 (f : (Int × Int) × (Int × Int) × List ((Int × Int) × Int × Int)) (Q : List Int × Int × Unit → Prop) : V30 f Q = vcFunc (S1 [(12, f12_ct)] [] [] []) f30_ct.own f30_ct.fresh f30_an Tryz.f30 (bodyOf Tryz.f30) f30_ct.A f30_ct.C f30_ct.R f () Q := by kernel_rfl

end Go.Proofs.Rz
set_option linter.unusedVariables false
set_option maxRecDepth 100000
namespace Go.Proofs.Rz
open Go Go.GX Go.Proofs

theorem any_not {α : Type} (p : α → Bool) (xs : List α) : (!(xs.any fun x => !p x)) = xs.all p := by
  induction xs with
  | nil => rfl
  | cons a r ih => simp only [List.any_cons, List.all_cons, Bool.not_or, Bool.not_not, ih]
theorem all_one (p : Int → Bool) (x : Int) : [x].all p = p x := by simp
theorem all_two (p : Int → Bool) (x y : Int) : [x, y].all p = (p x && p y) := by simp
theorem p50 {lo hi : Int} {xs : List Int} {Q : Bool → Prop} (h : f50_wp (lo, hi, xs, ()) () Q) : V50 lo hi xs Q := by
  refine ⟨fun n => !inB lo hi n, fun x _ Q h => h, ?_⟩
  have h : Q (xs.all (inB lo hi)) := h
  show Q (!(xs.any fun n => !inB lo hi n))
  rw [any_not]; exact h
theorem p43 {s : Span} {lo hi : Int} {Q : Bool → Prop} (h : f43_wp (s, lo, hi, ()) () Q) : V43 s lo hi Q := by
  show cnd ([s.1, s.2].all (inB lo hi)) (Q (decide (s.1 ≤ s.2))) (Q false)
  rw [all_two]
  have h : Q (inB lo hi s.1 && inB lo hi s.2 && decide (s.1 ≤ s.2)) := h
  revert h
  generalize inB lo hi s.1 = a
  generalize inB lo hi s.2 = b
  intro h
  cases a <;> cases b <;> exact h
theorem p42 {g : Gap} {Q : Bool → Prop} (h : f42_wp g () Q) : V42 g Q := by
  have h : Q (!(isSpanF g.1 0 1000 && isSpanF g.2 0 500)) := h
  show cnd (!isSpanF g.1 0 1000) (Q true) (Q (!isSpanF g.2 0 500))
  revert h
  cases isSpanF g.1 0 1000 <;> exact fun h => h
theorem p12 {f : Fan} {Q : Int → Prop} (h : f12_wp f () Q) : V12 f Q := by
  have h : Q (checkF f) := h
  unfold checkF at h
  show cnd (!isSpanF f.1 1 5000) (Q 3) (cnd (!isSpanF f.2.1 1 5000) (Q 3) _)
  refine cnd_iff.2 ⟨fun h1 => ?_, fun h1 => cnd_iff.2 ⟨fun h2 => ?_, fun h2 => cnd_iff.2 ⟨fun h3 => ?_, fun h3 _ => cnd_iff.2 ⟨fun h4 => ?_, fun h4 => ⟨fun g => !gapOK g, fun x _ Q h => h, cnd_iff.2 ⟨fun h5 => ?_, fun h5 => ?_⟩⟩⟩⟩⟩⟩
  · rw [if_pos (.inl (by simpa using h1))] at h; exact h
  · rw [if_pos (.inr (.inl (by simpa using h2)))] at h; exact h
  · rw [if_pos (.inr (.inr (of_decide_eq_true h3)))] at h; exact h
  all_goals
    have h3 := of_decide_eq_false h3
    rw [if_neg (by rintro (h | h | h); exact (by rw [h] at h1; cases h1); exact (by rw [h] at h2; cases h2); exact h3 h)] at h
  · have h4 : (f.2.2.length : Int) > 40 := of_decide_eq_true h4
    rw [if_pos (by omega)] at h; exact h
  all_goals
    have h4 : ¬ (f.2.2.length : Int) > 40 := of_decide_eq_false h4
    rw [if_neg (by omega)] at h
  · have h5 : (f.2.2.any fun g => !gapOK g) = true := h5
    rw [if_pos (by rw [← any_not, h5]; rfl)] at h; exact h
  · have h5 : (f.2.2.any fun g => !gapOK g) = false := h5
    rw [if_neg (by rw [← any_not, h5]; simp)] at h; exact h
theorem p53 {n : Int} {Q : Bool → Prop} (h : f53_wp n () Q) : V53 n Q := by
  show Q ([n].all (inB 0 360))
  rw [all_one]; exact h

theorem mulB {a b A B : Int} (h1 : 0 ≤ a) (h2 : a ≤ A) (h3 : 0 ≤ b) (h4 : b ≤ B) : 0 ≤ a * b ∧ a * b ≤ A * B :=
  ⟨Int.mul_nonneg h1 h3, Int.mul_le_mul h2 h4 h3 (Int.le_trans h1 h2)⟩
theorem mulP {a b : Int} (h1 : 1 ≤ a) (h3 : 1 ≤ b) : 1 ≤ a * b := by
  have := Int.mul_le_mul h1 h3 (by omega) (by omega)
  omega
theorem TurnOK.num {t : Turn} (h : TurnOK t) : 0 ≤ numT t ∧ numT t ≤ 2400000000 := by
  obtain ⟨⟨a1, a2⟩, ⟨b1, b2⟩, ⟨c1, c2⟩, ⟨d1, d2⟩⟩ := h
  have h1 := mulB a1 a2 (by omega : 0 ≤ t.2.2.2) d2
  have h2 := mulB b1 b2 (by omega : 0 ≤ t.2.2.1) c2
  unfold numT
  omega
theorem TurnOK.den {t : Turn} (h : TurnOK t) : 1 ≤ denT t ∧ denT t ≤ 36000000 := by
  obtain ⟨⟨a1, a2⟩, ⟨b1, b2⟩, ⟨c1, c2⟩, ⟨d1, d2⟩⟩ := h
  have h1 := mulB (by omega : 0 ≤ t.2.2.1) c2 (by omega : 0 ≤ t.2.2.2) d2
  have h2 := mulP c1 d1
  unfold denT
  omega
theorem p92 {t : Turn} {Q : Int × Int × Unit → Prop} (h : f92_wp t () Q) : V92 t Q := by
  obtain ⟨ho, h⟩ := h
  have hn := ho.num
  have hd := ho.den
  obtain ⟨⟨a1, a2⟩, ⟨b1, b2⟩, ⟨c1, c2⟩, ⟨d1, d2⟩⟩ := ho
  have h1 := mulB a1 a2 (by omega : 0 ≤ t.2.2.2) d2
  have h2 := mulB b1 b2 (by omega : 0 ≤ t.2.2.1) c2
  show Q (_, _, ())
  rw [wrapS (x := t.1 * t.2.2.2) (by omega) (by omega), wrapS (x := t.2.1 * t.2.2.1) (by omega) (by omega), wrapS (x := t.1 * t.2.2.2 + t.2.1 * t.2.2.1) (by omega) (by omega), wrapS (x := t.2.2.1 * t.2.2.2) (by unfold denT at hd; omega) (by unfold denT at hd; omega)]
  exact h
theorem p59 {t u : Turn} {Q : Int → Prop} (h : f59_wp (t, u, ()) () Q) : V59 t u Q := by
  obtain ⟨⟨h1, h2⟩, h⟩ := h
  have h1 : TurnOK t := h1
  have h2 : TurnOK u := h2
  refine ⟨h1, h2, ?_⟩
  have n1 := h1.num
  have n2 := h2.num
  have d1 := h1.den
  have d2 := h2.den
  have e1 := mulB n1.1 n1.2 (by omega : 0 ≤ denT u) d2.2
  have e2 := mulB n2.1 n2.2 (by omega : 0 ≤ denT t) d1.2
  show Q (cmpI3 (IntKind.wrap .i64 (numT t * denT u)) (IntKind.wrap .i64 (numT u * denT t)))
  rw [wrapS (by omega) (by omega), wrapS (by omega) (by omega)]
  exact h
theorem mnI_min (a b : Int) : mnI a b = min a b := by
  unfold mnI
  first | rfl | (split <;> omega) | (simp only [Int.min_def]; split <;> split <;> omega)
theorem p86 {t : Turn} {Q : Int → Prop} (h : f86_wp t () Q) : V86 t Q := by
  obtain ⟨h1, h⟩ := h
  have n1 := h1.num
  have d1 := h1.den
  refine ⟨h1, ?_⟩
  show IntKind.wrap .i64 (71 * denT t) ≠ 0 ∧ Q (mnI 360 (IntKind.wrap .i64 (Int.tdiv (IntKind.wrap .i64 (4068 * numT t)) (IntKind.wrap .i64 (71 * denT t)))))
  rw [wrapS (x := 71 * denT t) (by omega) (by omega), wrapS (x := 4068 * numT t) (by omega) (by omega)]
  have hq0 : 0 ≤ Int.tdiv (4068 * numT t) (71 * denT t) := Int.tdiv_nonneg (by omega) (by omega)
  have hq1 : Int.tdiv (4068 * numT t) (71 * denT t) ≤ 4068 * numT t := by
    rw [Int.tdiv_eq_ediv_of_nonneg (by omega)]
    exact Int.ediv_le_self _ (by omega)
  rw [wrapS (by omega) (by omega), mnI_min]
  exact ⟨by omega, h⟩
theorem p83 {s : Span} {Q : Int → Prop} (h : f83_wp s () Q) : V83 s Q := h
theorem p82 {s : Span} {Q : Int → Prop} (h : f82_wp s () Q) : V82 s Q := h
theorem p55 {Q : EndT → Prop} (h : f55_wp () () Q) : V55 Q := h
theorem p75 {Q : EndT → Prop} (h : f75_wp () () Q) : V75 Q := h
theorem p90 {e : EndT} {t : Turn} {g : Gap} {Q : Turn → Prop} (h : f90_wp (e, t, g, ()) () Q) : V90 e t g Q := by
  obtain ⟨arc, hs, ⟨⟨b1, b2, b3, b4, b5, b6, b7, b8⟩, c1, c2, c3, c4⟩, h⟩ := h
  have hs : SaysA e.1 arc := hs
  simp only at b1 b2 b3 b4 b5 b6 b7 b8 c1 c2 c3 c4
  refine ⟨arc g.1, hs _ _ rfl, arc g.2, hs _ _ rfl, ?_⟩
  have h1 := mulB c1 c2 b7 b8
  have h2 := mulB c3 c4 b5 b6
  rw [wrapS (x := arc g.1 * t.2.2.2) (by omega) (by omega), wrapS (x := arc g.2 * t.2.2.1) (by omega) (by omega), wrapS (x := t.1 + arc g.1) (by omega) (by omega), wrapS (x := t.2.1 + arc g.2) (by omega) (by omega)]
  have h : Q (addT (arc g.1) (arc g.2) t) := h
  unfold addT at h
  refine cnd_iff.2 ⟨fun hc => ?_, fun hc => ?_⟩
  · rw [if_pos (of_decide_eq_true hc)] at h; exact h
  · rw [if_neg (of_decide_eq_false hc)] at h; exact h

def openK (arc dist : Span → Int) (f : Fan) (k : Nat) : Turn := (f.2.2.take k).foldl (fun t g => addT (arc g.1) (arc g.2) t) (0, 0, dist f.1, dist f.2.1)
theorem openK_all (arc dist : Span → Int) (f : Fan) : openK arc dist f f.2.2.length = openF arc dist f := by
  unfold openK openF; rw [List.take_length]
theorem openK_succ (arc dist : Span → Int) (f : Fan) {k : Nat} (hk : k < f.2.2.length) : openK arc dist f (k + 1) = addT (arc (f.2.2.getD k ((0, 0), (0, 0))).1) (arc (f.2.2.getD k ((0, 0), (0, 0))).2) (openK arc dist f k) := by
  unfold openK
  rw [take_succ_getD (d := ((0, 0), (0, 0))) hk, List.foldl_append]; rfl
theorem IsEnd.le {e : Span → Int} (h : IsEnd e) {s : Span} {lo hi : Int} (h1 : inR lo hi s.1) (h2 : inR lo hi s.2) : inR lo hi (e s) := by
  rcases h with h | h <;> rw [h s] <;> assumption
theorem openK_ok {arc dist : Span → Int} {f : Fan} (ha : IsEnd arc) (hd : IsEnd dist) (hf : FanOK f) : ∀ k, k ≤ f.2.2.length → (0 ≤ (openK arc dist f k).1 ∧ (openK arc dist f k).1 ≤ 2000 * k) ∧ (0 ≤ (openK arc dist f k).2.1 ∧ (openK arc dist f k).2.1 ≤ 2000 * k) ∧ (openK arc dist f k).2.2 = (dist f.1, dist f.2.1)
  | 0, _ => ⟨⟨Int.le_refl _, by show (0 : Int) ≤ 2000 * ((0 : Nat) : Int); omega⟩, ⟨Int.le_refl _, by show (0 : Int) ≤ 2000 * ((0 : Nat) : Int); omega⟩, rfl⟩
  | k + 1, hk => by
    obtain ⟨⟨h1, h2⟩, ⟨h3, h4⟩, h5⟩ := openK_ok ha hd hf k (by omega)
    have hg := hf.g _ (getD_mem (d := ((0, 0), (0, 0))) (show k < f.2.2.length from hk))
    have g1 := ha.le hg.1.1 hg.1.2
    have g2 := ha.le hg.2.1 hg.2.2
    unfold inR at g1 g2
    rw [openK_succ arc dist f hk]
    unfold addT
    split
    · refine ⟨⟨?_, ?_⟩, ⟨h3, ?_⟩, h5⟩
      · show 0 ≤ _ + _; omega
      · show _ + _ ≤ _; push_cast; omega
      · show _ ≤ 2000 * ((k + 1 : Nat) : Int); push_cast; omega
    · refine ⟨⟨h1, ?_⟩, ⟨?_, ?_⟩, h5⟩
      · show _ ≤ 2000 * ((k + 1 : Nat) : Int); push_cast; omega
      · show 0 ≤ _ + _; omega
      · show _ + _ ≤ _; push_cast; omega
theorem openF_ok {arc dist : Span → Int} {f : Fan} (ha : IsEnd arc) (hd : IsEnd dist) (hf : FanOK f) : TurnOK (openF arc dist f) := by
  obtain ⟨⟨h1, h2⟩, ⟨h3, h4⟩, h5⟩ := openK_ok ha hd hf _ (Nat.le_refl _)
  rw [openK_all] at *
  have hn := hf.n
  have d1 := hd.le hf.far.1 hf.far.2
  have d2 := hd.le hf.near.1 hf.near.2
  unfold inR at d1 d2
  refine ⟨⟨h1, by omega⟩, ⟨h3, by omega⟩, ?_, ?_⟩
  · rw [h5]; exact ⟨d1.1, d1.2⟩
  · rw [h5]; exact ⟨d2.1, d2.2⟩
theorem p56 {e : EndT} {f : Fan} {Q : Turn → Prop} (h : f56_wp (e, f, ()) () Q) : V56 e f Q := by
  obtain ⟨arc, dist, ⟨hs1, hs2, ha, hd, hf⟩, h⟩ := h
  have hs1 : SaysA e.1 arc := hs1
  have hs2 : SaysA e.2 dist := hs2
  have hf : FanOK f := hf
  have hn := hf.n
  have d1 := hd.le hf.far.1 hf.far.2
  have d2 := hd.le hf.near.1 hf.near.2
  unfold inR at d1 d2
  refine ⟨dist f.1, hs2 _ _ rfl, dist f.2.1, hs2 _ _ rfl, fun hl => ?_⟩
  refine forUp hl (fun k => openK arc dist f k) rfl (fun k hk I μ hI hw => ?_) ?_
  · refine ⟨by omega, by omega, arc, hs1, ?_, ?_⟩
    · obtain ⟨⟨h1, h2⟩, ⟨h3, h4⟩, h5⟩ := openK_ok ha hd hf k (by omega)
      have hg := hf.g _ (getD_mem (d := ((0, 0), (0, 0))) hk)
      have g1 := ha.le hg.1.1 hg.1.2
      have g2 := ha.le hg.2.1 hg.2.2
      unfold inR at g1 g2
      simp only [Int.toNat_natCast, h5]
      refine ⟨⟨h1, by omega, h3, by omega, by omega, by omega, by omega, by omega⟩, g1.1, g1.2, g2.1, Int.le_trans g2.2 (by decide)⟩
    · have := openK_succ arc dist f hk
      rw [hw]
      show I (_ : Int) (addT (arc (f.2.2.getD k ((0, 0), (0, 0))).1) (arc (f.2.2.getD k ((0, 0), (0, 0))).2) (openK arc dist f k)) ∧ μ _ (addT (arc (f.2.2.getD k ((0, 0), (0, 0))).1) (arc (f.2.2.getD k ((0, 0), (0, 0))).2) (openK arc dist f k)) < _
      rw [← this]
      exact hI
  · rw [openK_all]; exact h
theorem low_end : IsEnd (fun s => s.1) := .inl fun _ => rfl
theorem high_end : IsEnd (fun s => s.2) := .inr fun _ => rfl
theorem lowT_ok {f : Fan} (h : FanOK f) : TurnOK (lowT f) := openF_ok low_end high_end h
theorem highT_ok {f : Fan} (h : FanOK f) : TurnOK (highT f) := openF_ok high_end low_end h
theorem p45 {f : Fan} {Q : Span → Prop} (h : f45_wp f () Q) : V45 f Q := by
  obtain ⟨hf, h⟩ := h
  exact ⟨_, rfl, lowT f, ⟨fun s => s.1, fun s => s.2, ⟨fun x Q h => h, fun x Q h => h, low_end, high_end, hf⟩, rfl⟩, degF (lowT f), ⟨lowT_ok hf, rfl⟩,
    _, rfl, highT f, ⟨fun s => s.2, fun s => s.1, ⟨fun x Q h => h, fun x Q h => h, high_end, low_end, hf⟩, rfl⟩, degF (highT f), ⟨highT_ok hf, rfl⟩, h⟩
theorem isSpanF_iff {s : Span} {lo hi : Int} : isSpanF s lo hi = true ↔ lo ≤ s.1 ∧ s.1 ≤ s.2 ∧ s.2 ≤ hi := by
  simp [isSpanF, inB]; omega
theorem checkF_ok {f : Fan} : checkF f = 0 ↔ CheckOK f := by
  unfold checkF
  constructor
  · intro h
    split at h
    · cases h
    rename_i h1
    split at h
    · cases h
    rename_i h2
    split at h
    · cases h
    rename_i h3
    have a1 : isSpanF f.1 1 5000 = true := by
      cases hh : isSpanF f.1 1 5000 with
      | true => rfl
      | false => exact absurd (.inl hh) h1
    have a2 : isSpanF f.2.1 1 5000 = true := by
      cases hh : isSpanF f.2.1 1 5000 with
      | true => rfl
      | false => exact absurd (.inr (.inl hh)) h1
    have a3 : ¬ f.1.1 ≤ f.2.1.2 := fun hh => h1 (.inr (.inr hh))
    have a4 : f.2.2.all gapOK = true := by simpa using h3
    rw [isSpanF_iff] at a1 a2
    refine ⟨a1, a2, by omega, by omega, fun g hg => ?_⟩
    have := List.all_eq_true.1 a4 g hg
    simp only [gapOK, Bool.and_eq_true, isSpanF_iff] at this
    exact this
  · intro h
    have a1 := isSpanF_iff.2 h.far
    have a2 := isSpanF_iff.2 h.near
    have a3 := h.lt
    have a4 := h.n
    rw [if_neg (by rw [a1, a2]; rintro (h | h | h); cases h; cases h; omega), if_neg (by omega), if_neg]
    rw [Bool.not_eq_false, List.all_eq_true]
    intro g hg
    have := h.g g hg
    simp only [gapOK, Bool.and_eq_true, isSpanF_iff]
    exact this
theorem CheckOK.fan {f : Fan} (h : CheckOK f) : FanOK f := by
  obtain ⟨h1, h2, h3, h4, h5⟩ := h
  refine ⟨by omega, ?_, ?_, fun g hg => ?_⟩
  · unfold inR; omega
  · unfold inR; omega
  · have := h5 g hg
    unfold inR; omega
theorem bne0 {r : Int} : ((r != 0) = true ↔ r ≠ 0) ∧ ((r != 0) = false ↔ r = 0) := by simp
theorem p13 {f : Fan} {Q : Span × Int × Unit → Prop} (h : f13_wp f () Q) : V13 f Q := by
  unfold f13_wp at h
  show cnd (checkF f != 0) (Q ((0, 0), checkF f, ())) (f45_wp f () fun r => Q (r, 0, ()))
  refine cnd_iff.2 ⟨fun hc => ?_, fun hc => ?_⟩
  · rw [if_neg (bne0.1.1 hc)] at h; exact h
  · have hc := bne0.2.1 hc
    rw [if_pos hc] at h
    exact ⟨(checkF_ok.1 hc).fan, h⟩
theorem p30 {f : Fan} {Q : List Int × Int × Unit → Prop} (h : f30_wp f () Q) : V30 f Q := by
  unfold f30_wp at h
  show cnd (checkF f != 0) (Q ([], checkF f, ())) _
  refine cnd_iff.2 ⟨fun hc => ?_, fun hc hl => ?_⟩
  · rw [if_neg (bne0.1.1 hc)] at h; exact h
  · have hc := bne0.2.1 hc
    rw [if_pos hc] at h
    have ho := checkF_ok.1 hc
    have hfar := ho.far
    have hnear := ho.near
    have hn := ho.n
    refine forUp hl (fun k => (f.2.2.take k).map (stopF f.1 f.2.1)) rfl (fun k hk I μ hI hw => ?_) (by show Q (((f.2.2.take f.2.2.length).map _), 0, ()); rw [List.take_length]; exact h)
    refine ⟨by omega, by omega, ?_⟩
    rw [take_succ_getD (d := ((0, 0), (0, 0))) hk, List.map_append] at hI
    have hg := ho.g _ (getD_mem (d := ((0, 0), (0, 0))) hk)
    obtain ⟨g, hgd⟩ : ∃ g, g = f.2.2.getD (Int.toNat (k : Int)) ((0, 0), (0, 0)) := ⟨_, rfl⟩
    rw [← hgd, hw]
    change I _ (_ ++ [f.2.2.getD (Int.toNat (k : Int)) ((0, 0), (0, 0))].map _) ∧ μ _ (_ ++ [f.2.2.getD (Int.toNat (k : Int)) ((0, 0), (0, 0))].map _) < _ at hI
    rw [← hgd] at hI
    have hg : (0 ≤ g.1.1 ∧ g.1.1 ≤ g.1.2 ∧ g.1.2 ≤ 1000) ∧ 0 ≤ g.2.1 ∧ g.2.1 ≤ g.2.2 ∧ g.2.2 ≤ 500 := by rw [hgd]; exact hg
    have e1 := mulB (by omega : 0 ≤ g.1.2) hg.1.2.2 (by omega : 0 ≤ f.2.1.2) hnear.2.2
    have e2 := mulB hg.2.1 (by omega : g.2.1 ≤ 500) (by omega : 0 ≤ f.1.1) (by omega : f.1.1 ≤ 5000)
    have e3 := mulB (by omega : 0 ≤ g.2.2) hg.2.2.2 (by omega : 0 ≤ f.1.2) hfar.2.2
    have e4 := mulB hg.1.1 (by omega : g.1.1 ≤ 1000) (by omega : 0 ≤ f.2.1.1) (by omega : f.2.1.1 ≤ 5000)
    rw [wrapS (x := g.1.2 * f.2.1.2) (by omega) (by omega), wrapS (x := g.2.1 * f.1.1) (by omega) (by omega), wrapS (x := g.2.2 * f.1.2) (by omega) (by omega), wrapS (x := g.1.1 * f.2.1.1) (by omega) (by omega)]
    have hlen : (((f.2.2.take k).map (stopF f.1 f.2.1)).length + 1) * 8 ≤ 140737488355328 := by simp; omega
    refine cnd_iff.2 ⟨fun c1 => ⟨hlen, ?_⟩, fun c1 => cnd_iff.2 ⟨fun c2 => ⟨hlen, ?_⟩, fun c2 => ⟨hlen, ?_⟩⟩⟩
    · have : [g].map (stopF f.1 f.2.1) = [1] := by simp only [List.map_cons, List.map_nil, stopF, if_pos (of_decide_eq_true c1)]
      rw [this] at hI; exact hI
    · have : [g].map (stopF f.1 f.2.1) = [2] := by simp only [List.map_cons, List.map_nil, stopF, if_neg (of_decide_eq_false c1), if_pos (of_decide_eq_true c2)]
      rw [this] at hI; exact hI
    · have : [g].map (stopF f.1 f.2.1) = [3] := by simp only [List.map_cons, List.map_nil, stopF, if_neg (of_decide_eq_false c1), if_neg (of_decide_eq_false c2)]
      rw [this] at hI; exact hI
end Go.Proofs.Rz
set_option maxRecDepth 100000
set_option maxHeartbeats 2000000
namespace Go.Proofs.Rz
open Go Go.GX Go.Proofs
variable [Inhabited BaseD]
theorem ok89 : CallsOK Tryz.prog (assoc glT) 89 f89_ct :=
  callsOK_E (env (ct := []) (ios := []) (hos := []) (lits := []) AllOK.nil AllW.nil AllH.nil) no_an Tryz.func89 (by kernel_rfl) (by kernel_rfl) f89_ct fun n ⟨lo, hi, _⟩ Q h => (v89 n lo hi Q).mp (p89 h)
theorem ok95 : CallsOK Tryz.prog (assoc glT) 95 f95_ct :=
  callsOK_E (env (ct := []) (ios := []) (hos := []) (lits := []) AllOK.nil AllW.nil AllH.nil) idx_an Tryz.func95 (by kernel_rfl) (by kernel_rfl) f95_ct fun ⟨xs, f, _⟩ _ Q h => (v95 xs f Q).mp (p95 h)
theorem ok88 : CallsOK Tryz.prog (assoc glT) 88 f88_ct :=
  callsOK_E (env (ct := [(95, f95_ct)]) (ios := []) (hos := []) (lits := []) (AllOK.cons ok95 AllOK.nil) AllW.nil AllH.nil) no_an Tryz.func88 (by kernel_rfl) (by kernel_rfl) f88_ct fun ⟨xs, f, _⟩ _ Q h => (v88 xs f Q).mp (p88 h)
theorem ok111 : CallsOK Tryz.prog (assoc glT) 111 f111_ct :=
  callsOK_E (env (ct := []) (ios := []) (hos := []) (lits := []) AllOK.nil AllW.nil AllH.nil) idx_an Tryz.func111 (by kernel_rfl) (by kernel_rfl) f111_ct fun ⟨xs, f, _⟩ _ Q h => (v111 xs f Q).mp (p111 h)
theorem ok99 : CallsOK Tryz.prog (assoc glT) 99 f99_ct :=
  callsOK_E (env (ct := [(111, f111_ct)]) (ios := []) (hos := []) (lits := []) (AllOK.cons ok111 AllOK.nil) AllW.nil AllH.nil) no_an Tryz.func99 (by kernel_rfl) (by kernel_rfl) f99_ct fun ⟨xs, f, _⟩ _ Q h => (v99 xs f Q).mp (p99 h)
theorem ok85 : CallsOK Tryz.prog (assoc glT) 85 f85_ct :=
  callsOK_E (env (ct := []) (ios := []) (hos := []) (lits := []) AllOK.nil AllW.nil AllH.nil) idx_an Tryz.func85 (by kernel_rfl) (by kernel_rfl) f85_ct fun ⟨xs, f, _⟩ _ Q h => (v85 xs f Q).mp (p85 h)
theorem ok44 : CallsOK Tryz.prog (assoc glT) 44 f44_ct :=
  callsOK_E (env (ct := [(85, f85_ct)]) (ios := []) (hos := []) (lits := []) (AllOK.cons ok85 AllOK.nil) AllW.nil AllH.nil) no_an Tryz.func44 (by kernel_rfl) (by kernel_rfl) f44_ct fun ⟨xs, f, _⟩ _ Q h => (v44 xs f Q).mp (p44 h)
theorem ok94 : CallsOK Tryz.prog (assoc glT) 94 f94_ct :=
  callsOK_E (env (ct := []) (ios := []) (hos := []) (lits := []) AllOK.nil AllW.nil AllH.nil) idx_an Tryz.func94 (by kernel_rfl) (by kernel_rfl) f94_ct fun ⟨xs, v, _⟩ _ Q h => (v94 xs v Q).mp (p94 h)
theorem ok63 : CallsOK Tryz.prog (assoc glT) 63 f63_ct :=
  callsOK_E (env (ct := [(94, f94_ct)]) (ios := []) (hos := []) (lits := []) (AllOK.cons ok94 AllOK.nil) AllW.nil AllH.nil) no_an Tryz.func63 (by kernel_rfl) (by kernel_rfl) f63_ct fun ⟨xs, v, _⟩ _ Q h => (v63 xs v Q).mp (p63 h)
theorem ok65 : CallsOK Tryz.prog (assoc glT) 65 f65_ct :=
  callsOK_E (env (ct := []) (ios := []) (hos := []) (lits := [300]) AllOK.nil AllW.nil AllH.nil) no_an Tryz.func65 (by kernel_rfl) (by kernel_rfl) f65_ct fun xs _ Q h => (v65 xs Q).mp (p65 h)
theorem ok51 : CallsOK Tryz.prog (assoc glT) 51 f51_ct :=
  callsOK_E (env (ct := []) (ios := []) (hos := []) (lits := [300]) AllOK.nil AllW.nil AllH.nil) no_an Tryz.func51 (by kernel_rfl) (by kernel_rfl) f51_ct fun xs _ Q h => (v51 xs Q).mp (p51 h)
theorem ok108 : CallsOK Tryz.prog (assoc glT) 108 f108_ct :=
  callsOK_E (env (ct := []) (ios := []) (hos := []) (lits := []) AllOK.nil AllW.nil AllH.nil) no_an Tryz.func108 (by kernel_rfl) (by kernel_rfl) f108_ct fun n _ Q h => (v108 n Q).mp (p108 h)
theorem ok93 : CallsOK Tryz.prog (assoc glT) 93 f93_ct :=
  callsOK_E (env (ct := [(108, f108_ct)]) (ios := []) (hos := []) (lits := []) (AllOK.cons ok108 AllOK.nil) AllW.nil AllH.nil) no_an Tryz.func93 (by kernel_rfl) (by kernel_rfl) f93_ct fun ⟨a, b, _⟩ _ Q h => (v93 a b Q).mp (p93 h)
theorem ok110 : CallsOK Tryz.prog (assoc glT) 110 f110_ct :=
  callsOK_E (env (ct := []) (ios := []) (hos := []) (lits := []) AllOK.nil AllW.nil AllH.nil) no_an Tryz.func110 (by kernel_rfl) (by kernel_rfl) f110_ct fun ⟨a, b, _⟩ _ Q h => (v110 a b Q).mp (p110 h)
theorem ok98 : CallsOK Tryz.prog (assoc glT) 98 f98_ct :=
  callsOK_E (env (ct := [(110, f110_ct)]) (ios := []) (hos := []) (lits := []) (AllOK.cons ok110 AllOK.nil) AllW.nil AllH.nil) no_an Tryz.func98 (by kernel_rfl) (by kernel_rfl) f98_ct fun ⟨a, b, _⟩ _ Q h => (v98 a b Q).mp (p98 h)
theorem ok70 : CallsOK Tryz.prog (assoc glT) 70 f70_ct :=
  callsOK_E (env (ct := [(98, f98_ct)]) (ios := []) (hos := []) (lits := [903,906]) (AllOK.cons ok98 AllOK.nil) AllW.nil AllH.nil) f70_an Tryz.func70 (by kernel_rfl) (by kernel_rfl) f70_ct fun ⟨xs, n, _⟩ _ Q h => (v70 xs n Q).mp (p70 h)
theorem ok125 : CallsOK Tryz.prog (assoc glT) 125 f125_ct :=
  callsOK_E (env (ct := []) (ios := []) (hos := []) (lits := []) AllOK.nil AllW.nil AllH.nil) f125_an Tryz.func125 (by kernel_rfl) (by kernel_rfl) f125_ct fun n _ Q h => (v125 n Q).mp (p125 h)
theorem ok114 : CallsOK Tryz.prog (assoc glT) 114 f114_ct :=
  callsOK_E (env (ct := [(125, f125_ct)]) (ios := []) (hos := []) (lits := []) (AllOK.cons ok125 AllOK.nil) AllW.nil AllH.nil) no_an Tryz.func114 (by kernel_rfl) (by kernel_rfl) f114_ct fun n _ Q h => (v114 n Q).mp (p114 h)
theorem ok67 : CallsOK Tryz.prog (assoc glT) 67 f67_ct :=
  callsOK_E (env (ct := [(96, f96_ct)]) (ios := []) (hos := []) (lits := []) (AllOK.cons ok96 AllOK.nil) AllW.nil AllH.nil) f67_an Tryz.func67 (by kernel_rfl) (by kernel_rfl) f67_ct fun xs _ Q h => (v67 xs Q).mp (p67 h)
theorem ok106 : CallsW Tryz.prog (assoc glT) 106 f106_ct :=
  callsW_E (env (ct := []) (ios := []) (hos := []) (lits := []) AllOK.nil AllW.nil AllH.nil) ins3_an Tryz.func106 (by kernel_rfl) (by kernel_rfl) rfl f106_ct fun ys ⟨a, b, f, _⟩ _ Q h => (v106 ys a b f Q).mp (p106 h)
theorem ok91 : CallsW Tryz.prog (assoc glT) 91 f91_ct :=
  callsW_E (env (ct := []) (ios := [(106, f106_ct)]) (hos := []) (lits := []) AllOK.nil (AllW.cons ok106 AllW.nil) AllH.nil) f91_an Tryz.func91 (by kernel_rfl) (by kernel_rfl) rfl f91_ct fun ys ⟨n, f, _⟩ _ Q h => (v91 ys n f Q).mp (p91 h)
theorem ok57 : CallsW Tryz.prog (assoc glT) 57 f57_ct :=
  callsW_E (env (ct := []) (ios := [(91, f91_ct)]) (hos := []) (lits := []) AllOK.nil (AllW.cons ok91 AllW.nil) AllH.nil) no_an Tryz.func57 (by kernel_rfl) (by kernel_rfl) rfl f57_ct fun ys ⟨f, _⟩ _ Q h => (v57 ys f Q).mp (p57 h)
theorem ok116 : CallsW Tryz.prog (assoc glT) 116 f116_ct :=
  callsW_E (env (ct := []) (ios := []) (hos := []) (lits := []) AllOK.nil AllW.nil AllH.nil) ins89_an Tryz.func116 (by kernel_rfl) (by kernel_rfl) rfl f116_ct fun ys ⟨a, b, f, _⟩ _ Q h => (v116 ys a b f Q).mp (p116 h)
theorem ok113 : CallsW Tryz.prog (assoc glT) 113 f113_ct :=
  callsW_E (env (ct := []) (ios := [(116, f116_ct)]) (hos := []) (lits := []) AllOK.nil (AllW.cons ok116 AllW.nil) AllH.nil) f113_an Tryz.func113 (by kernel_rfl) (by kernel_rfl) rfl f113_ct fun ys ⟨a, b, l, f, _⟩ _ Q h => (v113 ys a b l f Q).mp (p113 h)
theorem ok104 : CallsW Tryz.prog (assoc glT) 104 f104_ct :=
  callsW_E (env (ct := [(114, f114_ct)]) (ios := [(113, f113_ct)]) (hos := []) (lits := []) (AllOK.cons ok114 AllOK.nil) (AllW.cons ok113 AllW.nil) AllH.nil) no_an Tryz.func104 (by kernel_rfl) (by kernel_rfl) rfl f104_ct fun ys ⟨f, _⟩ _ Q h => (v104 ys f Q).mp (p104 h)
theorem ok64 : CallsH Tryz.prog (assoc glT) 64 f64_ct :=
  callsH_E (env (ct := [(95, f95_ct)]) (ios := []) (hos := []) (lits := [1102,1202]) (AllOK.cons ok95 AllOK.nil) AllW.nil AllH.nil) f64_an Tryz.func64 (by kernel_rfl) (by kernel_rfl) rfl f64_ct fun ys ⟨f, _⟩ _ Q h => (v64 ys f Q).mp (p64 h)
theorem ok112 : CallsH Tryz.prog (assoc glT) 112 f112_ct :=
  callsH_E (env (ct := []) (ios := []) (hos := []) (lits := []) AllOK.nil AllW.nil AllH.nil) f112_an Tryz.func112 (by kernel_rfl) (by kernel_rfl) rfl f112_ct fun ys ⟨sq, _⟩ _ Q h => (v112 ys sq Q).mp (p112 h)
theorem ok103 : CallsOK Tryz.prog (assoc glT) 103 f103_ct :=
  callsOK_E (env (ct := []) (ios := []) (hos := [(112, f112_ct)]) (lits := []) AllOK.nil AllW.nil (AllH.cons ok112 AllH.nil)) no_an Tryz.func103 (by kernel_rfl) (by kernel_rfl) f103_ct fun sq _ Q h => (v103 sq Q).mp (p103 h)
theorem ok78 : CallsOK Tryz.prog (assoc glT) 78 f78_ct :=
  callsOK_E (env (ct := [(103, f103_ct)]) (ios := [(104, f104_ct)]) (hos := []) (lits := []) (AllOK.cons ok103 AllOK.nil) (AllW.cons ok104 AllW.nil) AllH.nil) no_an Tryz.func78 (by kernel_rfl) (by kernel_rfl) f78_ct fun ⟨sq, f, _⟩ _ Q h => (v78 sq f Q).mp (p78 h)
theorem ok50 : CallsOK Tryz.prog (assoc glT) 50 f50_ct :=
  callsOK_E (env (ct := [(88, f88_ct), (89, f89_ct)]) (ios := []) (hos := []) (lits := []) (AllOK.cons ok88 (AllOK.cons ok89 AllOK.nil)) AllW.nil AllH.nil) no_an Tryz.func50 (by kernel_rfl) (by kernel_rfl) f50_ct fun ⟨lo, hi, xs, _⟩ _ Q h => (v50 lo hi xs Q).mp (p50 h)
theorem ok43 : CallsOK Tryz.prog (assoc glT) 43 f43_ct :=
  callsOK_E (env (ct := [(50, f50_ct)]) (ios := []) (hos := []) (lits := []) (AllOK.cons ok50 AllOK.nil) AllW.nil AllH.nil) no_an Tryz.func43 (by kernel_rfl) (by kernel_rfl) f43_ct fun ⟨s, lo, hi, _⟩ _ Q h => (v43 s lo hi Q).mp (p43 h)
theorem ok42 : CallsOK Tryz.prog (assoc glT) 42 f42_ct :=
  callsOK_E (env (ct := [(43, f43_ct)]) (ios := []) (hos := []) (lits := []) (AllOK.cons ok43 AllOK.nil) AllW.nil AllH.nil) no_an Tryz.func42 (by kernel_rfl) (by kernel_rfl) f42_ct fun g _ Q h => (v42 g Q).mp (p42 h)
theorem ok12 : CallsOK Tryz.prog (assoc glT) 12 f12_ct :=
  callsOK_E (env (ct := [(43, f43_ct), (42, f42_ct), (44, f44_ct)]) (ios := []) (hos := []) (lits := []) (AllOK.cons ok43 (AllOK.cons ok42 (AllOK.cons ok44 AllOK.nil))) AllW.nil AllH.nil) no_an Tryz.func12 (by kernel_rfl) (by kernel_rfl) f12_ct fun f _ Q h => (v12 f Q).mp (p12 h)
theorem ok53 : CallsOK Tryz.prog (assoc glT) 53 f53_ct :=
  callsOK_E (env (ct := [(50, f50_ct)]) (ios := []) (hos := []) (lits := []) (AllOK.cons ok50 AllOK.nil) AllW.nil AllH.nil) no_an Tryz.func53 (by kernel_rfl) (by kernel_rfl) f53_ct fun n _ Q h => (v53 n Q).mp (p53 h)
theorem ok92 : CallsOK Tryz.prog (assoc glT) 92 f92_ct :=
  callsOK_E (env (ct := []) (ios := []) (hos := []) (lits := []) AllOK.nil AllW.nil AllH.nil) no_an Tryz.func92 (by kernel_rfl) (by kernel_rfl) f92_ct fun t _ Q h => (v92 t Q).mp (p92 h)
theorem ok59 : CallsOK Tryz.prog (assoc glT) 59 f59_ct :=
  callsOK_E (env (ct := [(92, f92_ct), (93, f93_ct)]) (ios := []) (hos := []) (lits := []) (AllOK.cons ok92 (AllOK.cons ok93 AllOK.nil)) AllW.nil AllH.nil) no_an Tryz.func59 (by kernel_rfl) (by kernel_rfl) f59_ct fun ⟨t, u, _⟩ _ Q h => (v59 t u Q).mp (p59 h)
theorem ok86 : CallsOK Tryz.prog (assoc glT) 86 f86_ct :=
  callsOK_E (env (ct := [(92, f92_ct)]) (ios := []) (hos := []) (lits := []) (AllOK.cons ok92 AllOK.nil) AllW.nil AllH.nil) no_an Tryz.func86 (by kernel_rfl) (by kernel_rfl) f86_ct fun t _ Q h => (v86 t Q).mp (p86 h)
theorem ok83 : CallsOK Tryz.prog (assoc glT) 83 f83_ct :=
  callsOK_E (env (ct := []) (ios := []) (hos := []) (lits := []) AllOK.nil AllW.nil AllH.nil) no_an Tryz.func83 (by kernel_rfl) (by kernel_rfl) f83_ct fun s _ Q h => (v83 s Q).mp (p83 h)
theorem ok82 : CallsOK Tryz.prog (assoc glT) 82 f82_ct :=
  callsOK_E (env (ct := []) (ios := []) (hos := []) (lits := []) AllOK.nil AllW.nil AllH.nil) no_an Tryz.func82 (by kernel_rfl) (by kernel_rfl) f82_ct fun s _ Q h => (v82 s Q).mp (p82 h)
theorem ok55 : CallsOK Tryz.prog (assoc glT) 55 f55_ct :=
  callsOK_E (env (ct := [(82, f82_ct), (83, f83_ct)]) (ios := []) (hos := []) (lits := []) (AllOK.cons ok82 (AllOK.cons ok83 AllOK.nil)) AllW.nil AllH.nil) no_an Tryz.func55 (by kernel_rfl) (by kernel_rfl) f55_ct fun () _ Q h => (v55  Q).mp (p55 h)
theorem ok75 : CallsOK Tryz.prog (assoc glT) 75 f75_ct :=
  callsOK_E (env (ct := [(82, f82_ct), (83, f83_ct)]) (ios := []) (hos := []) (lits := []) (AllOK.cons ok82 (AllOK.cons ok83 AllOK.nil)) AllW.nil AllH.nil) no_an Tryz.func75 (by kernel_rfl) (by kernel_rfl) f75_ct fun () _ Q h => (v75  Q).mp (p75 h)
theorem ok90 : CallsOK Tryz.prog (assoc glT) 90 f90_ct :=
  callsOK_E (env (ct := []) (ios := []) (hos := []) (lits := []) AllOK.nil AllW.nil AllH.nil) no_an Tryz.func90 (by kernel_rfl) (by kernel_rfl) f90_ct fun ⟨e, t, g, _⟩ _ Q h => (v90 e t g Q).mp (p90 h)
theorem ok56 : CallsOK Tryz.prog (assoc glT) 56 f56_ct :=
  callsOK_E (env (ct := [(90, f90_ct)]) (ios := []) (hos := []) (lits := []) (AllOK.cons ok90 AllOK.nil) AllW.nil AllH.nil) f56_an Tryz.func56 (by kernel_rfl) (by kernel_rfl) f56_ct fun ⟨e, f, _⟩ _ Q h => (v56 e f Q).mp (p56 h)
theorem ok45 : CallsOK Tryz.prog (assoc glT) 45 f45_ct :=
  callsOK_E (env (ct := [(55, f55_ct), (75, f75_ct), (56, f56_ct), (86, f86_ct)]) (ios := []) (hos := []) (lits := []) (AllOK.cons ok55 (AllOK.cons ok75 (AllOK.cons ok56 (AllOK.cons ok86 AllOK.nil)))) AllW.nil AllH.nil) no_an Tryz.func45 (by kernel_rfl) (by kernel_rfl) f45_ct fun f _ Q h => (v45 f Q).mp (p45 h)
theorem ok13 : CallsOK Tryz.prog (assoc glT) 13 f13_ct :=
  callsOK_E (env (ct := [(12, f12_ct), (45, f45_ct)]) (ios := []) (hos := []) (lits := []) (AllOK.cons ok12 (AllOK.cons ok45 AllOK.nil)) AllW.nil AllH.nil) no_an Tryz.func13 (by kernel_rfl) (by kernel_rfl) f13_ct fun f _ Q h => (v13 f Q).mp (p13 h)
theorem ok30 : CallsOK Tryz.prog (assoc glT) 30 f30_ct :=
  callsOK_E (env (ct := [(12, f12_ct)]) (ios := []) (hos := []) (lits := []) (AllOK.cons ok12 AllOK.nil) AllW.nil AllH.nil) f30_an Tryz.func30 (by kernel_rfl) (by kernel_rfl) f30_ct fun f _ Q h => (v30 f Q).mp (p30 h)
end Go.Proofs.Rz
set_option linter.unusedVariables false
namespace Go.Proofs.Rz
open Go Go.GX Go.Proofs

theorem degF_eq (t : Turn) : degF t = degND (numT t) (denT t) := rfl
theorem ediv_mono {a b a' b' : Int} (ha : 0 ≤ a) (hb : 0 < b) (hb' : 0 < b') (h : a * b' ≤ a' * b) : a / b ≤ a' / b' := by
  refine Int.le_ediv_of_mul_le hb' ?_
  have h1 : a / b * b ≤ a := Int.ediv_mul_le a (by omega)
  have h2 : a / b * b * b' ≤ a * b' := Int.mul_le_mul_of_nonneg_right h1 (by omega)
  have h3 : (a / b * b') * b ≤ a' * b := by
    have : a / b * b * b' = (a / b * b') * b := by rw [Int.mul_assoc, Int.mul_comm b b', ← Int.mul_assoc]
    omega
  exact Int.le_of_mul_le_mul_right h3 hb
theorem degND_mono {n d n' d' : Int} (h1 : 0 ≤ n) (h2 : 1 ≤ d) (h3 : 0 ≤ n') (h4 : 1 ≤ d') (h : n * d' ≤ n' * d) : degND n d ≤ degND n' d' := by
  unfold degND
  rw [Int.tdiv_eq_ediv_of_nonneg (by omega), Int.tdiv_eq_ediv_of_nonneg (by omega)]
  have := ediv_mono (a := 4068 * n) (b := 71 * d) (a' := 4068 * n') (b' := 71 * d') (by omega) (by omega) (by omega) (by
    have e1 : 4068 * n * (71 * d') = 288828 * (n * d') := by rw [Int.mul_assoc, Int.mul_left_comm n 71 d', ← Int.mul_assoc]; rfl
    have e2 : 4068 * n' * (71 * d) = 288828 * (n' * d) := by rw [Int.mul_assoc, Int.mul_left_comm n' 71 d, ← Int.mul_assoc]; rfl
    rw [e1, e2]; omega)
  omega
theorem addT_num (leaf foot : Int) (t : Turn) : numT (addT leaf foot t) = numT t + min (leaf * t.2.2.2) (foot * t.2.2.1) ∧ (addT leaf foot t).2.2 = t.2.2 := by
  unfold addT
  split
  · rename_i h
    refine ⟨?_, rfl⟩
    show (t.1 + leaf) * t.2.2.2 + t.2.1 * t.2.2.1 = t.1 * t.2.2.2 + t.2.1 * t.2.2.1 + min (leaf * t.2.2.2) (foot * t.2.2.1)
    rw [Int.add_mul]; omega
  · rename_i h
    refine ⟨?_, rfl⟩
    show t.1 * t.2.2.2 + (t.2.1 + foot) * t.2.2.1 = t.1 * t.2.2.2 + t.2.1 * t.2.2.1 + min (leaf * t.2.2.2) (foot * t.2.2.1)
    rw [Int.add_mul]; omega
theorem foldT_num (arc : Span → Int) : ∀ (gs : List Gap) (t : Turn), numT (gs.foldl (fun t g => addT (arc g.1) (arc g.2) t) t) = numT t + sumG arc t.2.2.1 t.2.2.2 gs ∧ (gs.foldl (fun t g => addT (arc g.1) (arc g.2) t) t).2.2 = t.2.2
  | [], t => ⟨by simp [sumG], rfl⟩
  | g :: r, t => by
    obtain ⟨h1, h2⟩ := addT_num (arc g.1) (arc g.2) t
    obtain ⟨h3, h4⟩ := foldT_num arc r (addT (arc g.1) (arc g.2) t)
    rw [h2] at h3 h4
    refine ⟨?_, h4⟩
    rw [List.foldl_cons, h3, h1]
    simp only [sumG, List.map_cons, List.sum_cons, angG]
    omega
theorem open_num (arc dist : Span → Int) (f : Fan) : numT (openF arc dist f) = sumG arc (dist f.1) (dist f.2.1) f.2.2 ∧ denT (openF arc dist f) = dist f.1 * dist f.2.1 := by
  obtain ⟨h1, h2⟩ := foldT_num arc f.2.2 (0, 0, dist f.1, dist f.2.1)
  refine ⟨?_, ?_⟩
  · show numT (f.2.2.foldl _ _) = _
    rw [h1]
    simp [numT]
  · show denT (f.2.2.foldl (fun t g => addT (arc g.1) (arc g.2) t) (0, 0, dist f.1, dist f.2.1)) = _
    unfold denT
    rw [h2]
theorem low_num (f : Fan) : numT (lowT f) = sumG loE f.1.2 f.2.1.2 f.2.2 ∧ denT (lowT f) = f.1.2 * f.2.1.2 := open_num _ _ f
theorem high_num (f : Fan) : numT (highT f) = sumG hiE f.1.1 f.2.1.1 f.2.2 ∧ denT (highT f) = f.1.1 * f.2.1.1 := open_num _ _ f
theorem sumG_append (arc : Span → Int) (far near : Int) (a b : List Gap) : sumG arc far near (a ++ b) = sumG arc far near a + sumG arc far near b := by
  simp [sumG]
theorem sumG_nil (arc : Span → Int) (far near : Int) : sumG arc far near [] = 0 := rfl
theorem sumG_cons (arc : Span → Int) (far near : Int) (g : Gap) (b : List Gap) : sumG arc far near (g :: b) = angG arc far near g + sumG arc far near b := by
  simp [sumG]
theorem angG_nonneg {arc : Span → Int} {far near : Int} {g : Gap} (h1 : 0 ≤ far) (h2 : 0 ≤ near) (h3 : 0 ≤ arc g.1) (h4 : 0 ≤ arc g.2) : 0 ≤ angG arc far near g := by
  have := Int.mul_nonneg h3 h2
  have := Int.mul_nonneg h4 h1
  unfold angG; omega
theorem sumG_le {a b : Gap → Int} {gs : List Gap} (h : ∀ g, g ∈ gs → a g ≤ b g) : (gs.map a).sum ≤ (gs.map b).sum := by
  induction gs with
  | nil => exact Int.le_refl _
  | cons g r ih =>
    have h1 := h g (by simp)
    have h2 := ih fun x hx => h x (by simp [hx])
    simp only [List.map_cons, List.sum_cons]; omega
theorem FanOK.low {f : Fan} (h : FanOK f) : 0 ≤ numT (lowT f) ∧ 1 ≤ denT (lowT f) := ⟨(lowT_ok h).num.1, (lowT_ok h).den.1⟩
theorem min_mono {a b c d : Int} (h1 : a ≤ c) (h2 : b ≤ d) : min a b ≤ min c d := by omega

theorem arc_mono {f : Fan} (h : FanOK f) {a b : Int} (h0 : 0 ≤ a) (hab : a ≤ b) (hb : b ≤ 2000) : degF (lowT (arcF f a)) ≤ degF (lowT (arcF f b)) := by
  have ok : ∀ a, 0 ≤ a → a ≤ 2000 → FanOK (arcF f a) := fun a h1 h2 => ⟨by show (f.2.2.map _).length ≤ 50; rw [List.length_map]; exact h.n, h.far, h.near, fun g hg => by
    obtain ⟨g', hg', rfl⟩ := List.mem_map.1 hg
    exact ⟨⟨⟨h1, h2⟩, ⟨h1, h2⟩⟩, (h.g g' hg').2⟩⟩
  have o1 := (ok a h0 (by omega)).low
  have o2 := (ok b (by omega) hb).low
  rw [degF_eq, degF_eq]
  refine degND_mono o1.1 o1.2 o2.1 o2.2 ?_
  obtain ⟨n1, d1⟩ := low_num (arcF f a)
  obtain ⟨n2, d2⟩ := low_num (arcF f b)
  have hd : denT (lowT (arcF f b)) = denT (lowT (arcF f a)) := by rw [d1, d2]; rfl
  rw [hd]
  refine Int.mul_le_mul_of_nonneg_right ?_ (by omega)
  rw [n1, n2]
  show ((f.2.2.map _).map _).sum ≤ ((f.2.2.map _).map _).sum
  rw [List.map_map, List.map_map]
  refine sumG_le fun g hg => min_mono ?_ (Int.le_refl _)
  have hn := h.near.2
  unfold inR at hn
  exact Int.mul_le_mul_of_nonneg_right hab (by show 0 ≤ f.2.1.2; omega)
end Go.Proofs.Rz
set_option linter.unusedVariables false
namespace Go.Proofs.Rz
open Go Go.GX Go.Proofs

def angI (f : Fan) (i : Nat) : Int := angG loE f.1.2 f.2.1.2 (f.2.2.getD i g0)

def restS (f : Fan) (p : Int → Bool) (k : Nat) : Int := ((List.range k).map fun (i : Nat) => if p (i : Int) then 0 else angI f i).sum
theorem restS_succ (f : Fan) (p : Int → Bool) (k : Nat) : restS f p (k + 1) = restS f p k + if p (k : Int) then 0 else angI f k := by
  unfold restS
  rw [List.range_succ, List.map_append, List.sum_append]
  simp
theorem woK_sum (f : Fan) (p : Int → Bool) : ∀ k, sumG loE f.1.2 f.2.1.2 (woK p f.2.2 k) = restS f p k
  | 0 => rfl
  | k + 1 => by
    rw [woK_succ', restS_succ, ← woK_sum f p k]
    split
    · simp
    · rw [sumG_append, sumG_cons, sumG_nil]
      unfold angI; omega
where
  woK_succ' {p : Int → Bool} {gs : List Gap} {k : Nat} : woK p gs (k + 1) = if p (k : Int) then woK p gs k else woK p gs k ++ [gs.getD k g0] := by
    unfold woK; rw [foldl_succ]
theorem low_wo (f : Fan) (p : Int → Bool) : numT (lowT (woF p f)) = restS f p f.2.2.length ∧ denT (lowT (woF p f)) = f.1.2 * f.2.1.2 := by
  obtain ⟨h1, h2⟩ := low_num (woF p f)
  refine ⟨?_, h2⟩
  rw [h1]
  exact woK_sum f p _
theorem restS_none (f : Fan) : restS f (fun _ => false) f.2.2.length = numT (lowT f) := by
  have : woF (fun _ => false) f = f := by
    unfold woF
    have : ∀ k, k ≤ f.2.2.length → woK (fun _ => false) f.2.2 k = f.2.2.take k := by
      intro k
      induction k with
      | zero => intro _; rfl
      | succ k ih =>
        intro hk
        have hk' : k < f.2.2.length := hk
        rw [woK, foldl_succ, if_neg (by simp), take_succ_getD (d := g0) hk', ← ih (by omega)]
        rfl
    rw [this _ (Nat.le_refl _), List.take_length]
  have h := (low_wo f (fun _ => false)).1
  rw [this] at h
  exact h.symm
theorem memF_iff {set : List Int} {i : Int} : memF set i = true ↔ i ∈ set := by
  unfold memF
  rw [List.any_eq_true]
  constructor
  · rintro ⟨x, hx, h⟩
    have : i = x := by simpa using h
    rw [this]; exact hx
  · intro h; exact ⟨i, h, by simp⟩
theorem restS_congr {f : Fan} {p q : Int → Bool} {k : Nat} (h : ∀ i : Nat, i < k → p i = q i) : restS f p k = restS f q k := by
  unfold restS
  congr 1
  refine List.map_congr_left fun i hi => ?_
  rw [h i (List.mem_range.1 hi)]
theorem enough_congr {f : Fan} {seen : Span} {a b : List Int} (h : ∀ i : Nat, i < f.2.2.length → ((i : Int) ∈ a ↔ (i : Int) ∈ b)) : enoughF f seen a = enoughF f seen b := by
  have e : restS f (memF a) f.2.2.length = restS f (memF b) f.2.2.length := restS_congr fun i hi => by
    have := h i hi
    rw [← memF_iff, ← memF_iff] at this
    cases h1 : memF a i <;> cases h2 : memF b i <;> simp_all
  unfold enoughF
  rw [degF_eq, degF_eq, (low_wo f _).1, (low_wo f _).1, (low_wo f _).2, (low_wo f _).2, e]
theorem sum_zeros {α : Type} : ∀ l : List α, (l.map fun _ => (0 : Int)).sum = 0
  | [] => rfl
  | x :: r => by rw [List.map_cons, List.sum_cons, sum_zeros r]; rfl
section
variable {f : Fan} (h : FanOK f)
include h
theorem FanOK.dist : 1 ≤ f.1.2 ∧ 1 ≤ f.2.1.2 ∧ 1 ≤ f.1.2 * f.2.1.2 := by
  have h1 := h.far.2
  have h2 := h.near.2
  unfold inR at h1 h2
  exact ⟨h1.1, h2.1, mulP h1.1 h2.1⟩
theorem angI_nonneg {i : Nat} (hi : i < f.2.2.length) : 0 ≤ angI f i := by
  have hd := h.dist
  have hg := h.g _ (getD_mem (d := g0) hi)
  unfold inR at hg
  exact angG_nonneg (by omega) (by omega) hg.1.1.1 hg.2.1.1
theorem restS_nonneg (p : Int → Bool) : ∀ k, k ≤ f.2.2.length → 0 ≤ restS f p k
  | 0, _ => Int.le_refl _
  | k + 1, hk => by
    have := restS_nonneg p k (by omega)
    have := angI_nonneg h (i := k) (by omega)
    rw [restS_succ]
    split <;> omega

theorem enough_le {seen : Span} {a : List Int} {p : Int → Bool} (hp : restS f (memF a) f.2.2.length ≤ restS f p f.2.2.length) (hd : degF (lowT (woF p f)) ≤ seen.2) : enoughF f seen a = true := by
  refine decide_eq_true (Int.le_trans ?_ hd)
  have h0 := h.dist
  rw [degF_eq, degF_eq, (low_wo f _).1, (low_wo f _).2, (low_wo f p).1, (low_wo f p).2]
  exact degND_mono (restS_nonneg h _ _ (Nat.le_refl _)) h0.2.2 (restS_nonneg h _ _ (Nat.le_refl _)) h0.2.2 (Int.mul_le_mul_of_nonneg_right hp (by omega))
theorem enough_all {seen : Span} (hs : 0 ≤ seen.2) {a : List Int} (ha : ∀ i : Nat, i < f.2.2.length → (i : Int) ∈ a) : enoughF f seen a = true := by
  refine decide_eq_true ?_
  have e : restS f (memF a) f.2.2.length = 0 := by
    unfold restS
    have : ((List.range f.2.2.length).map fun (i : Nat) => if memF a (i : Int) then 0 else angI f i) = (List.range f.2.2.length).map fun _ => (0 : Int) := List.map_congr_left fun i hi => by
      rw [if_pos (memF_iff.2 (ha i (List.mem_range.1 hi)))]
    rw [this]
    exact sum_zeros _
  rw [degF_eq, (low_wo f _).1, (low_wo f _).2, e]
  have h0 := h.dist
  have : degND 0 (f.1.2 * f.2.1.2) = 0 := by
    unfold degND
    rw [Int.mul_zero, Int.zero_tdiv]; decide
  omega
end

theorem insRev_perm {α : Type} (c : α → α → Int) (x : α) : ∀ l : List α, (insRev c x l).Perm (x :: l)
  | [] => .refl _
  | y :: r => by
    unfold insRev
    split
    · exact ((insRev_perm c x r).cons y).trans (.swap _ _ _)
    · exact .refl _
theorem insFold_perm {α : Type} (c : α → α → Int) : ∀ (xs acc : List α), (xs.foldl (fun acc x => insRev c x acc) acc).Perm (xs ++ acc)
  | [], acc => .refl _
  | x :: r, acc => by
    rw [List.foldl_cons]
    exact (insFold_perm c r _).trans (((insRev_perm c x acc).append_left r).trans List.perm_middle)
theorem insSort_perm {α : Type} (c : α → α → Int) (xs : List α) : (insSort c xs).Perm xs := by
  unfold insSort
  refine (List.reverse_perm _).trans ?_
  have := insFold_perm c xs []
  simpa using this

theorem insRev_sorted {α : Type} {c : α → α → Int} {key : α → Int} {l : List α} {x : α} (hc : ∀ y, y ∈ l → (c x y < 0 ↔ key y < key x)) (h : l.Pairwise fun a b => key a ≤ key b) : (insRev c x l).Pairwise fun a b => key a ≤ key b := by
  induction l with
  | nil => exact List.pairwise_singleton _ _
  | cons y r ih =>
    obtain ⟨h1, h2⟩ := List.pairwise_cons.1 h
    unfold insRev
    split
    · rename_i hlt
      have hxy := (hc y (by simp)).1 hlt
      refine List.pairwise_cons.2 ⟨fun z hz => ?_, ih (fun z hz => hc z (by simp [hz])) h2⟩
      rcases (insRev_mem c x z r).1 hz with rfl | hz
      · omega
      · exact h1 z hz
    · rename_i hlt
      have hxy : ¬ key y < key x := fun hh => hlt ((hc y (by simp)).2 hh)
      refine List.pairwise_cons.2 ⟨fun z hz => ?_, h⟩
      rcases List.mem_cons.1 hz with rfl | hz
      · omega
      · have := h1 z hz; omega
theorem insSort_sorted {α : Type} {c : α → α → Int} {key : α → Int} {xs : List α} (hc : ∀ x, x ∈ xs → ∀ y, y ∈ xs → (c x y < 0 ↔ key y < key x)) : (insSort c xs).Pairwise fun a b => key b ≤ key a := by
  have : ∀ (l acc : List α), (∀ x, x ∈ l → x ∈ xs) → (∀ x, x ∈ acc → x ∈ xs) → acc.Pairwise (fun a b => key a ≤ key b) → (l.foldl (fun acc x => insRev c x acc) acc).Pairwise fun a b => key a ≤ key b := by
    intro l
    induction l with
    | nil => intro acc _ _ h; exact h
    | cons x r ih =>
      intro acc h1 h2 h
      rw [List.foldl_cons]
      refine ih _ (fun z hz => h1 z (by simp [hz])) (fun z hz => ?_) (insRev_sorted (fun y hy => hc x (h1 x (by simp)) y (h2 y hy)) h)
      rcases (insRev_mem c x z acc).1 hz with rfl | hz
      · exact h1 z (by simp)
      · exact h2 z hz
  unfold insSort
  rw [List.pairwise_reverse]
  exact this xs [] (fun _ h => h) (fun _ h => by simp at h) .nil
theorem order_perm (f : Fan) : (orderF f).Perm ((List.range f.2.2.length).map fun (i : Nat) => (i : Int)) := insSort_perm _ _
theorem order_mem (f : Fan) (x : Int) : x ∈ orderF f ↔ ∃ i : Nat, i < f.2.2.length ∧ x = i := by
  rw [(order_perm f).mem_iff]
  simp only [List.mem_map, List.mem_range]
  constructor
  · rintro ⟨i, h1, h2⟩; exact ⟨i, h1, h2.symm⟩
  · rintro ⟨i, h1, h2⟩; exact ⟨i, h1, h2.symm⟩
theorem order_length (f : Fan) : (orderF f).length = f.2.2.length := by
  rw [(order_perm f).length_eq]; simp
theorem order_nodup (f : Fan) : (orderF f).Nodup := by
  rw [(order_perm f).nodup_iff]
  exact List.Pairwise.map _ (fun a b hab => by intro h; exact hab (by omega)) (List.nodup_range (n := f.2.2.length))

theorem many_spec {f : Fan} (h : FanOK f) {seen : Span} (hs : 0 ≤ seen.2) (hn : 0 < f.2.2.length) : 1 ≤ manyF f seen ∧ manyF f seen ≤ f.2.2.length ∧ enoughF f seen ((orderF f).take (manyF f seen)) = true ∧ ∀ m, 1 ≤ m → m < manyF f seen → enoughF f seen ((orderF f).take m) = false := by
  have hex : ∃ x, x ∈ List.range f.2.2.length ∧ enoughF f seen ((orderF f).take (x + 1)) = true := by
    refine ⟨f.2.2.length - 1, by simp; omega, ?_⟩
    rw [show f.2.2.length - 1 + 1 = (orderF f).length by rw [order_length]; omega, List.take_length]
    exact enough_all h hs fun i hi => (order_mem f i).2 ⟨i, hi, rfl⟩
  have hlt : (List.range f.2.2.length).findIdx (fun m => enoughF f seen ((orderF f).take (m + 1))) < (List.range f.2.2.length).length := List.findIdx_lt_length.2 hex
  have hl : (List.range f.2.2.length).length = f.2.2.length := List.length_range
  refine ⟨by unfold manyF; omega, by unfold manyF; omega, ?_, fun m h1 h2 => ?_⟩
  · have := List.findIdx_getElem (w := hlt)
    rw [List.getElem_range] at this
    unfold manyF
    rw [Nat.add_comm 1]; exact this
  · unfold manyF at h2
    have := List.not_of_lt_findIdx (p := fun m => enoughF f seen ((orderF f).take (m + 1))) (xs := List.range f.2.2.length) (i := m - 1) (by omega)
    rw [List.getElem_range, show m - 1 + 1 = m by omega] at this
    simpa using this

def fromF (f : Fan) (i : Nat) : List Int := (orderF f).filter fun k => decide ((i : Int) ≤ k)
theorem rest_from (f : Fan) (i : Nat) : restF f i = fromF f (i + 1) := by
  unfold restF fromF
  refine List.filter_congr fun k _ => ?_
  by_cases hk : k ≤ (i : Int)
  · have : ¬ ((i + 1 : Nat) : Int) ≤ k := by push_cast; omega
    simp [hk]; omega
  · have : ((i + 1 : Nat) : Int) ≤ k := by push_cast; omega
    simp [hk]; omega
theorem from_zero (f : Fan) : fromF f 0 = orderF f := by
  unfold fromF
  refine List.filter_eq_self.2 fun k hk => ?_
  obtain ⟨i, _, rfl⟩ := (order_mem f k).1 hk
  simp
theorem from_split (f : Fan) {i : Nat} (hi : i < f.2.2.length) : ∃ A B : List Int, fromF f i = A ++ (i : Int) :: B ∧ fromF f (i + 1) = A ++ B := by
  have hm : (i : Int) ∈ orderF f := (order_mem f i).2 ⟨i, hi, rfl⟩
  obtain ⟨A, B, hAB⟩ := List.append_of_mem hm
  have hnd := order_nodup f
  rw [hAB] at hnd
  have hA : (i : Int) ∉ A := fun hh => by
    have := (List.nodup_append.1 hnd).2.2 _ hh _ (List.mem_cons_self)
    exact this rfl
  have hB : (i : Int) ∉ B := ((List.nodup_cons.1 (List.nodup_append.1 hnd).2.1)).1
  refine ⟨A.filter (fun k => decide ((i : Int) ≤ k)), B.filter (fun k => decide ((i : Int) ≤ k)), ?_, ?_⟩
  · unfold fromF
    rw [hAB, List.filter_append, List.filter_cons, if_pos (by simp)]
  · unfold fromF
    have hc : ∀ L : List Int, (i : Int) ∉ L → L.filter (fun k => decide (((i + 1 : Nat) : Int) ≤ k)) = L.filter (fun k => decide ((i : Int) ≤ k)) := fun L hL => List.filter_congr fun k hk => by
      have hne : k ≠ i := fun e => hL (e ▸ hk)
      by_cases hle : (i : Int) ≤ k
      · have : ((i + 1 : Nat) : Int) ≤ k := by push_cast; omega
        simp [hle]; omega
      · have : ¬ ((i + 1 : Nat) : Int) ≤ k := by push_cast; omega
        simp [hle]; omega
    rw [hAB, List.filter_append, List.filter_cons, if_neg (by simp; omega), hc A hA, hc B hB]
theorem from_end (f : Fan) : fromF f f.2.2.length = [] := by
  unfold fromF
  refine List.filter_eq_nil_iff.2 fun k hk => ?_
  obtain ⟨i, hi, rfl⟩ := (order_mem f k).1 hk
  simp; omega
theorem setK_succ (f : Fan) (seen : Span) (k : Nat) : setK f seen (k + 1) = if (setK f seen k).length < manyF f seen ∧ nextB f seen (setK f seen k) k = true then setK f seen k ++ [(k : Int)] else setK f seen k := by
  unfold setK; rw [foldl_succ]

structure GreedOK (f : Fan) (seen : Span) (i : Nat) : Prop where
  le : (setK f seen i).length ≤ manyF f seen
  few : manyF f seen - (setK f seen i).length ≤ (fromF f i).length
  en : enoughF f seen (setK f seen i ++ (fromF f i).take (manyF f seen - (setK f seen i).length)) = true
theorem greed_zero {f : Fan} (h : FanOK f) {seen : Span} (hs : 0 ≤ seen.2) (hn : 0 < f.2.2.length) : GreedOK f seen 0 := by
  obtain ⟨h1, h2, h3, _⟩ := many_spec h hs hn
  refine ⟨Nat.zero_le _, ?_, ?_⟩
  · rw [from_zero, order_length]
    show manyF f seen - 0 ≤ _
    omega
  · rw [from_zero]
    exact h3
theorem greed_succ {f : Fan} {seen : Span} {i : Nat} (hi : i < f.2.2.length) (g : GreedOK f seen i) : GreedOK f seen (i + 1) := by
  obtain ⟨g1, g2, g3⟩ := g
  by_cases hc : (setK f seen i).length < manyF f seen ∧ nextB f seen (setK f seen i) i = true
  · have hset : setK f seen (i + 1) = setK f seen i ++ [(i : Int)] := by rw [setK_succ, if_pos hc]
    obtain ⟨c1, c2⟩ := hc
    simp only [nextB, Bool.and_eq_true, decide_eq_true_eq, rest_from] at c2
    refine ⟨?_, ?_, ?_⟩
    · rw [hset]; simp; omega
    · rw [hset]; simp only [List.length_append, List.length_cons, List.length_nil]
      have := c2.1; omega
    · rw [hset, List.length_append, List.append_assoc]
      have := c2.2
      rw [Nat.sub_sub] at this
      exact this
  · have hset : setK f seen (i + 1) = setK f seen i := by rw [setK_succ, if_neg hc]
    rw [show GreedOK f seen (i + 1) ↔ (setK f seen (i + 1)).length ≤ manyF f seen ∧ manyF f seen - (setK f seen (i + 1)).length ≤ (fromF f (i + 1)).length ∧ enoughF f seen (setK f seen (i + 1) ++ (fromF f (i + 1)).take (manyF f seen - (setK f seen (i + 1)).length)) = true from ⟨fun h => ⟨h.le, h.few, h.en⟩, fun h => ⟨h.1, h.2.1, h.2.2⟩⟩, hset]
    obtain ⟨A, B, hA, hB⟩ := from_split f hi
    rw [hA] at g2 g3
    rw [hB]
    obtain ⟨d, hd⟩ : ∃ d, d = manyF f seen - (setK f seen i).length := ⟨_, rfl⟩
    rw [← hd] at g2 g3 ⊢
    by_cases hle : d ≤ A.length
    · refine ⟨g1, by simp; omega, ?_⟩
      rw [List.take_append_of_le_length hle] at g3 ⊢
      exact g3
    · exfalso
      refine hc ⟨by omega, ?_⟩
      simp only [nextB, Bool.and_eq_true, decide_eq_true_eq, rest_from]
      rw [hB, ← hd]
      simp only [List.length_append, List.length_cons] at g2
      refine ⟨by simp only [List.length_append]; omega, ?_⟩
      rw [← g3]
      refine enough_congr fun j _ => ?_
      rw [List.take_append, List.take_append, List.take_of_length_le (show A.length ≤ d - 1 by omega), List.take_of_length_le (show A.length ≤ d by omega)]
      obtain ⟨e, he⟩ : ∃ e, d - A.length = e + 1 := ⟨d - A.length - 1, by omega⟩
      rw [he, show d - 1 - A.length = e by omega, List.take_succ_cons]
      simp only [List.mem_append, List.mem_cons]
      constructor
      · rintro (h | h | h | h) <;> simp [h]
      · rintro (h | h | h | h) <;> simp [h]
theorem greed_all {f : Fan} (h : FanOK f) {seen : Span} (hs : 0 ≤ seen.2) (hn : 0 < f.2.2.length) : ∀ i, i ≤ f.2.2.length → GreedOK f seen i
  | 0, _ => greed_zero h hs hn
  | i + 1, hi => greed_succ hi (greed_all h hs hn i (by omega))
theorem setK_done {f : Fan} {seen : Span} {i : Nat} (hd : (setK f seen i).length = manyF f seen) : ∀ j, i ≤ j → setK f seen j = setK f seen i := by
  intro j hj
  obtain ⟨e, rfl⟩ : ∃ e, j = i + e := ⟨j - i, by omega⟩
  clear hj
  induction e with
  | zero => rfl
  | succ e ih =>
    show setK f seen (i + e + 1) = _
    rw [setK_succ, ih, if_neg (by omega)]

theorem set_spec {f : Fan} (h : FanOK f) {seen : Span} (hs : 0 ≤ seen.2) (hn : 0 < f.2.2.length) : (setK f seen f.2.2.length).length = manyF f seen ∧ enoughF f seen (setK f seen f.2.2.length) = true := by
  obtain ⟨g1, g2, g3⟩ := greed_all h hs hn _ (Nat.le_refl _)
  rw [from_end] at g2 g3
  have hl : (setK f seen f.2.2.length).length = manyF f seen := by
    simp only [List.length_nil] at g2; omega
  refine ⟨hl, ?_⟩
  rw [List.take_nil, List.append_nil] at g3
  exact g3
theorem setK_mem (f : Fan) (seen : Span) : ∀ k, ∀ x, x ∈ setK f seen k → ∃ i : Nat, i < k ∧ x = i
  | 0, x, h => by simp [setK] at h
  | k + 1, x, h => by
    rw [setK_succ] at h
    have old : x ∈ setK f seen k → ∃ i : Nat, i < k + 1 ∧ x = i := fun h => let ⟨i, h1, h2⟩ := setK_mem f seen k x h; ⟨i, by omega, h2⟩
    split at h
    · rcases List.mem_append.1 h with h | h
      · exact old h
      · exact ⟨k, by omega, by simpa using h⟩
    · exact old h
theorem setK_asc (f : Fan) (seen : Span) : ∀ k, (setK f seen k).Pairwise (· < ·)
  | 0 => .nil
  | k + 1 => by
    rw [setK_succ]
    split
    · refine List.pairwise_append.2 ⟨setK_asc f seen k, List.pairwise_singleton _ _, fun a ha b hb => ?_⟩
      obtain ⟨i, hi, rfl⟩ := setK_mem f seen k a ha
      have : b = k := by simpa using hb
      omega
    · exact setK_asc f seen k
end Go.Proofs.Rz
set_option linter.unusedVariables false
set_option maxRecDepth 100000
namespace Go.Proofs.Rz
open Go Go.GX Go.Proofs

def V61 (f : (Int × Int) × (Int × Int) × List ((Int × Int) × Int × Int)) (s : Int → (Bool → Prop) → Prop) (Q : (Int × Int) × (Int × Int) × List ((Int × Int) × Int × Int) → Prop) : Prop :=
  List.length (Prod.snd (Prod.snd f)) ≤ (9223372036854775807 : Nat) →
    ∃ (I : Int → ((Int × Int) × Int × Int) × List ((Int × Int) × Int × Int) → Prop),
      ∃ (μ : Int → ((Int × Int) × Int × Int) × List ((Int × Int) × Int × Int) → Nat),
        I (0 : Int)
            (((Prod.fst (Prod.fst f), Prod.snd (Prod.fst f)), Prod.fst (Prod.fst (Prod.snd f)), Prod.snd (Prod.fst (Prod.snd f))),
              ([] : List ((Int × Int) × Int × Int))) ∧
          ∀ (x : Int) (x_1 : ((Int × Int) × Int × Int) × List ((Int × Int) × Int × Int)),
            I x x_1 →
              cnd (decide (x < (↑(List.length (Prod.snd (Prod.snd f))) : Int)))
                ((0 : Int) ≤ x ∧
                  x < (↑(List.length (Prod.snd (Prod.snd f))) : Int) ∧
                    Prod.fst (s, ()) x fun (r : Bool) ↦
                      cnd (!r)
                        ((List.length (Prod.snd x_1) +
                                List.length
                                  (((Prod.fst
                                          (Prod.fst (List.getD (Prod.snd (Prod.snd f)) (Int.toNat x) (((0 : Int), (0 : Int)), (0 : Int), (0 : Int)))),
                                        Prod.snd
                                          (Prod.fst (List.getD (Prod.snd (Prod.snd f)) (Int.toNat x) (((0 : Int), (0 : Int)), (0 : Int), (0 : Int))))),
                                      Prod.fst
                                        (Prod.snd (List.getD (Prod.snd (Prod.snd f)) (Int.toNat x) (((0 : Int), (0 : Int)), (0 : Int), (0 : Int)))),
                                      Prod.snd
                                        (Prod.snd (List.getD (Prod.snd (Prod.snd f)) (Int.toNat x) (((0 : Int), (0 : Int)), (0 : Int), (0 : Int))))) ::
                                    ([] : List ((Int × Int) × Int × Int)))) *
                              (32 : Nat) ≤
                            (140737488355328 : Nat) ∧
                          I (IntKind.wrap IntKind.i64 (x + (1 : Int)))
                              (((Prod.fst (Prod.fst (Prod.fst x_1)), Prod.snd (Prod.fst (Prod.fst x_1))), Prod.fst (Prod.snd (Prod.fst x_1)),
                                  Prod.snd (Prod.snd (Prod.fst x_1))),
                                Prod.snd x_1 ++
                                  ((Prod.fst
                                          (Prod.fst (List.getD (Prod.snd (Prod.snd f)) (Int.toNat x) (((0 : Int), (0 : Int)), (0 : Int), (0 : Int)))),
                                        Prod.snd
                                          (Prod.fst (List.getD (Prod.snd (Prod.snd f)) (Int.toNat x) (((0 : Int), (0 : Int)), (0 : Int), (0 : Int))))),
                                      Prod.fst
                                        (Prod.snd (List.getD (Prod.snd (Prod.snd f)) (Int.toNat x) (((0 : Int), (0 : Int)), (0 : Int), (0 : Int)))),
                                      Prod.snd
                                        (Prod.snd (List.getD (Prod.snd (Prod.snd f)) (Int.toNat x) (((0 : Int), (0 : Int)), (0 : Int), (0 : Int))))) ::
                                    ([] : List ((Int × Int) × Int × Int))) ∧
                            μ (IntKind.wrap IntKind.i64 (x + (1 : Int)))
                                (((Prod.fst (Prod.fst (Prod.fst x_1)), Prod.snd (Prod.fst (Prod.fst x_1))), Prod.fst (Prod.snd (Prod.fst x_1)),
                                    Prod.snd (Prod.snd (Prod.fst x_1))),
                                  Prod.snd x_1 ++
                                    ((Prod.fst
                                            (Prod.fst (List.getD (Prod.snd (Prod.snd f)) (Int.toNat x) (((0 : Int), (0 : Int)), (0 : Int), (0 : Int)))),
                                          Prod.snd
                                            (Prod.fst
                                              (List.getD (Prod.snd (Prod.snd f)) (Int.toNat x) (((0 : Int), (0 : Int)), (0 : Int), (0 : Int))))),
                                        Prod.fst
                                          (Prod.snd (List.getD (Prod.snd (Prod.snd f)) (Int.toNat x) (((0 : Int), (0 : Int)), (0 : Int), (0 : Int)))),
                                        Prod.snd
                                          (Prod.snd
                                            (List.getD (Prod.snd (Prod.snd f)) (Int.toNat x) (((0 : Int), (0 : Int)), (0 : Int), (0 : Int))))) ::
                                      ([] : List ((Int × Int) × Int × Int))) <
                              μ x x_1)
                        (I (IntKind.wrap IntKind.i64 (x + (1 : Int)))
                            (((Prod.fst (Prod.fst (Prod.fst x_1)), Prod.snd (Prod.fst (Prod.fst x_1))), Prod.fst (Prod.snd (Prod.fst x_1)),
                                Prod.snd (Prod.snd (Prod.fst x_1))),
                              Prod.snd x_1) ∧
                          μ (IntKind.wrap IntKind.i64 (x + (1 : Int)))
                              (((Prod.fst (Prod.fst (Prod.fst x_1)), Prod.snd (Prod.fst (Prod.fst x_1))), Prod.fst (Prod.snd (Prod.fst x_1)),
                                  Prod.snd (Prod.snd (Prod.fst x_1))),
                                Prod.snd x_1) <
                            μ x x_1))
                (Q
                  ((Prod.fst (Prod.fst (Prod.fst x_1)), Prod.snd (Prod.fst (Prod.fst x_1))),
                    (Prod.fst (Prod.snd (Prod.fst x_1)), Prod.snd (Prod.snd (Prod.fst x_1))), Prod.snd x_1))
theorem v61 (f : (Int × Int) × (Int × Int) × List ((Int × Int) × Int × Int)) (s : Int → (Bool → Prop) → Prop) (Q : (Int × Int) × (Int × Int) × List ((Int × Int) × Int × Int) → Prop) : V61 f s Q = vcFunc (S1 [] [] [] []) f61_ct.own f61_ct.fresh f61_an Tryz.f61 (bodyOf Tryz.f61) f61_ct.A f61_ct.C f61_ct.R (f, s, ()) () Q := by kernel_rfl

def V17 (f : (Int × Int) × (Int × Int) × List ((Int × Int) × Int × Int)) (more : Int) (Q : Int × Int × Int × Unit → Prop) : Prop :=
  f12_wp ((Prod.fst (Prod.fst f), Prod.snd (Prod.fst f)), (Prod.fst (Prod.fst (Prod.snd f)), Prod.snd (Prod.fst (Prod.snd f))), Prod.snd (Prod.snd f))
    () fun (r : Int) ↦
    cnd (r != (0 : Int)) (Q ((0 : Int), (0 : Int), r, ()))
      (f50_wp ((0 : Int), (1000 : Int), more :: ([] : List Int), ()) () fun (r : Bool) ↦
        cnd (!r) (Q ((0 : Int), (0 : Int), (4 : Int), ()))
          (List.length (Prod.snd (Prod.snd f)) ≤ (9223372036854775807 : Nat) →
            cnd ((↑(List.length (Prod.snd (Prod.snd f))) : Int) == (0 : Int)) (Q ((0 : Int), (0 : Int), (7 : Int), ()))
              (List.length (Prod.snd (Prod.snd f)) ≤ (9223372036854775807 : Nat) →
                ∃ (I : Int → Int → Int → Prop),
                  ∃ (μ : Int → Int → Int → Nat),
                    I (0 : Int) (0 : Int) (-1 : Int) ∧
                      ∀ (x x_1 x_2 : Int),
                        I x x_1 x_2 →
                          cnd (decide (x < (↑(List.length (Prod.snd (Prod.snd f))) : Int)))
                            (f51_wp (Prod.snd (Prod.snd f)) () fun (r : List ((Int × Int) × Int × Int)) ↦
                              (0 : Int) ≤ x ∧
                                x < (↑(List.length r) : Int) ∧
                                  (0 : Int) ≤ x ∧
                                    x < (↑(List.length r) : Int) ∧
                                      (0 : Int) ≤ x ∧
                                        x <
                                            (↑(List.length
                                                  (List.set r (Int.toNat x)
                                                    ((IntKind.wrap IntKind.i64
                                                          (Prod.fst
                                                              (Prod.fst (List.getD r (Int.toNat x) (((0 : Int), (0 : Int)), (0 : Int), (0 : Int)))) +
                                                            more),
                                                        Prod.snd (Prod.fst (List.getD r (Int.toNat x) (((0 : Int), (0 : Int)), (0 : Int), (0 : Int))))),
                                                      Prod.fst (Prod.snd (List.getD r (Int.toNat x) (((0 : Int), (0 : Int)), (0 : Int), (0 : Int)))),
                                                      Prod.snd
                                                        (Prod.snd (List.getD r (Int.toNat x) (((0 : Int), (0 : Int)), (0 : Int), (0 : Int))))))) :
                                              Int) ∧
                                          (0 : Int) ≤ x ∧
                                            x <
                                                (↑(List.length
                                                      (List.set r (Int.toNat x)
                                                        ((IntKind.wrap IntKind.i64
                                                              (Prod.fst
                                                                  (Prod.fst
                                                                    (List.getD r (Int.toNat x) (((0 : Int), (0 : Int)), (0 : Int), (0 : Int)))) +
                                                                more),
                                                            Prod.snd
                                                              (Prod.fst (List.getD r (Int.toNat x) (((0 : Int), (0 : Int)), (0 : Int), (0 : Int))))),
                                                          Prod.fst
                                                            (Prod.snd (List.getD r (Int.toNat x) (((0 : Int), (0 : Int)), (0 : Int), (0 : Int)))),
                                                          Prod.snd
                                                            (Prod.snd (List.getD r (Int.toNat x) (((0 : Int), (0 : Int)), (0 : Int), (0 : Int))))))) :
                                                  Int) ∧
                                              f45_wp
                                                ((Prod.fst (Prod.fst f), Prod.snd (Prod.fst f)),
                                                  (Prod.fst (Prod.fst (Prod.snd f)), Prod.snd (Prod.fst (Prod.snd f))),
                                                  List.set
                                                    (List.set r (Int.toNat x)
                                                      ((IntKind.wrap IntKind.i64
                                                            (Prod.fst
                                                                (Prod.fst (List.getD r (Int.toNat x) (((0 : Int), (0 : Int)), (0 : Int), (0 : Int)))) +
                                                              more),
                                                          Prod.snd
                                                            (Prod.fst (List.getD r (Int.toNat x) (((0 : Int), (0 : Int)), (0 : Int), (0 : Int))))),
                                                        Prod.fst (Prod.snd (List.getD r (Int.toNat x) (((0 : Int), (0 : Int)), (0 : Int), (0 : Int)))),
                                                        Prod.snd (Prod.snd (List.getD r (Int.toNat x) (((0 : Int), (0 : Int)), (0 : Int), (0 : Int))))))
                                                    (Int.toNat x)
                                                    ((Prod.fst
                                                          (Prod.fst
                                                            (List.getD
                                                              (List.set r (Int.toNat x)
                                                                ((IntKind.wrap IntKind.i64
                                                                      (Prod.fst
                                                                          (Prod.fst
                                                                            (List.getD r (Int.toNat x)
                                                                              (((0 : Int), (0 : Int)), (0 : Int), (0 : Int)))) +
                                                                        more),
                                                                    Prod.snd
                                                                      (Prod.fst
                                                                        (List.getD r (Int.toNat x) (((0 : Int), (0 : Int)), (0 : Int), (0 : Int))))),
                                                                  Prod.fst
                                                                    (Prod.snd
                                                                      (List.getD r (Int.toNat x) (((0 : Int), (0 : Int)), (0 : Int), (0 : Int)))),
                                                                  Prod.snd
                                                                    (Prod.snd
                                                                      (List.getD r (Int.toNat x) (((0 : Int), (0 : Int)), (0 : Int), (0 : Int))))))
                                                              (Int.toNat x) (((0 : Int), (0 : Int)), (0 : Int), (0 : Int)))),
                                                        IntKind.wrap IntKind.i64
                                                          (Prod.snd
                                                              (Prod.fst
                                                                (List.getD
                                                                  (List.set r (Int.toNat x)
                                                                    ((IntKind.wrap IntKind.i64
                                                                          (Prod.fst
                                                                              (Prod.fst
                                                                                (List.getD r (Int.toNat x)
                                                                                  (((0 : Int), (0 : Int)), (0 : Int), (0 : Int)))) +
                                                                            more),
                                                                        Prod.snd
                                                                          (Prod.fst
                                                                            (List.getD r (Int.toNat x)
                                                                              (((0 : Int), (0 : Int)), (0 : Int), (0 : Int))))),
                                                                      Prod.fst
                                                                        (Prod.snd
                                                                          (List.getD r (Int.toNat x) (((0 : Int), (0 : Int)), (0 : Int), (0 : Int)))),
                                                                      Prod.snd
                                                                        (Prod.snd
                                                                          (List.getD r (Int.toNat x) (((0 : Int), (0 : Int)), (0 : Int), (0 : Int))))))
                                                                  (Int.toNat x) (((0 : Int), (0 : Int)), (0 : Int), (0 : Int)))) +
                                                            more)),
                                                      Prod.fst
                                                        (Prod.snd
                                                          (List.getD
                                                            (List.set r (Int.toNat x)
                                                              ((IntKind.wrap IntKind.i64
                                                                    (Prod.fst
                                                                        (Prod.fst
                                                                          (List.getD r (Int.toNat x) (((0 : Int), (0 : Int)), (0 : Int), (0 : Int)))) +
                                                                      more),
                                                                  Prod.snd
                                                                    (Prod.fst
                                                                      (List.getD r (Int.toNat x) (((0 : Int), (0 : Int)), (0 : Int), (0 : Int))))),
                                                                Prod.fst
                                                                  (Prod.snd (List.getD r (Int.toNat x) (((0 : Int), (0 : Int)), (0 : Int), (0 : Int)))),
                                                                Prod.snd
                                                                  (Prod.snd
                                                                    (List.getD r (Int.toNat x) (((0 : Int), (0 : Int)), (0 : Int), (0 : Int))))))
                                                            (Int.toNat x) (((0 : Int), (0 : Int)), (0 : Int), (0 : Int)))),
                                                      Prod.snd
                                                        (Prod.snd
                                                          (List.getD
                                                            (List.set r (Int.toNat x)
                                                              ((IntKind.wrap IntKind.i64
                                                                    (Prod.fst
                                                                        (Prod.fst
                                                                          (List.getD r (Int.toNat x) (((0 : Int), (0 : Int)), (0 : Int), (0 : Int)))) +
                                                                      more),
                                                                  Prod.snd
                                                                    (Prod.fst
                                                                      (List.getD r (Int.toNat x) (((0 : Int), (0 : Int)), (0 : Int), (0 : Int))))),
                                                                Prod.fst
                                                                  (Prod.snd (List.getD r (Int.toNat x) (((0 : Int), (0 : Int)), (0 : Int), (0 : Int)))),
                                                                Prod.snd
                                                                  (Prod.snd
                                                                    (List.getD r (Int.toNat x) (((0 : Int), (0 : Int)), (0 : Int), (0 : Int))))))
                                                            (Int.toNat x) (((0 : Int), (0 : Int)), (0 : Int), (0 : Int))))))
                                                () fun (r : Int × Int) ↦
                                                cnd (decide (Prod.fst r > x_2))
                                                  (I (IntKind.wrap IntKind.i64 (x + (1 : Int))) x (Prod.fst r) ∧
                                                    μ (IntKind.wrap IntKind.i64 (x + (1 : Int))) x (Prod.fst r) < μ x x_1 x_2)
                                                  (I (IntKind.wrap IntKind.i64 (x + (1 : Int))) x_1 x_2 ∧
                                                    μ (IntKind.wrap IntKind.i64 (x + (1 : Int))) x_1 x_2 < μ x x_1 x_2))
                            (Q (x_1, x_2, (0 : Int), ())))))
theorem v17 (f : (Int × Int) × (Int × Int) × List ((Int × Int) × Int × Int)) (more : Int) (Q : Int × Int × Int × Unit → Prop) : V17 f more Q = vcFunc (S1 [(12, f12_ct), (50, f50_ct), (51, f51_ct), (45, f45_ct)] [] [] []) f17_ct.own f17_ct.fresh f17_an Tryz.f17 (bodyOf Tryz.f17) f17_ct.A f17_ct.C f17_ct.R (f, more, ()) () Q := by kernel_rfl

def V54 (i : Int) (f : (Int × Int) × (Int × Int) × List ((Int × Int) × Int × Int)) (Q : Int × Int × Int × Int → Prop) : Prop :=
  ∃ (r : (Int × Int → (Int → Prop) → Prop) × (Int × Int → (Int → Prop) → Prop)),
    (f55_wp () () fun (r' : (Int × Int → (Int → Prop) → Prop) × (Int × Int → (Int → Prop) → Prop)) ↦ r' = r) ∧
      (0 : Int) ≤ i ∧
        i ≤ IntKind.wrap IntKind.i64 (i + (1 : Int)) ∧
          IntKind.wrap IntKind.i64 (i + (1 : Int)) ≤ (↑(List.length (Prod.snd (Prod.snd f))) : Int) ∧
            ∃ (r_1 : Int × Int × Int × Int),
              (f56_wp
                  ((Prod.fst r, Prod.snd r),
                    ((Prod.fst (Prod.fst f), Prod.snd (Prod.fst f)), (Prod.fst (Prod.fst (Prod.snd f)), Prod.snd (Prod.fst (Prod.snd f))),
                      List.drop (Int.toNat i) (List.take (Int.toNat (IntKind.wrap IntKind.i64 (i + (1 : Int)))) (Prod.snd (Prod.snd f)))),
                    ())
                  () fun (r' : Int × Int × Int × Int) ↦ r' = r_1) ∧
                Q (Prod.fst r_1, Prod.fst (Prod.snd r_1), Prod.fst (Prod.snd (Prod.snd r_1)), Prod.snd (Prod.snd (Prod.snd r_1)))
theorem v54 (i : Int) (f : (Int × Int) × (Int × Int) × List ((Int × Int) × Int × Int)) (Q : Int × Int × Int × Int → Prop) : V54 i f Q = vcFunc (S1 [(55, f55_ct), (56, f56_ct)] [] [] []) f54_ct.own f54_ct.fresh no_an Tryz.f54 (bodyOf Tryz.f54) f54_ct.A f54_ct.C f54_ct.R i (f, ()) Q := by kernel_rfl

def V58 (ik : Int × Int) (g : Int → (Int × Int × Int × Int → Prop) → Prop) (Q : Int → Prop) : Prop :=
  ∃ (r : Int × Int × Int × Int),
    (Prod.fst (g, ()) (Prod.snd ik) fun (r' : Int × Int × Int × Int) ↦ r' = r) ∧
      ∃ (r_1 : Int × Int × Int × Int),
        (Prod.fst (g, ()) (Prod.fst ik) fun (r' : Int × Int × Int × Int) ↦ r' = r_1) ∧
          ∃ (r_2 : Int),
            (f59_wp
                ((Prod.fst r, Prod.fst (Prod.snd r), Prod.fst (Prod.snd (Prod.snd r)), Prod.snd (Prod.snd (Prod.snd r))),
                  (Prod.fst r_1, Prod.fst (Prod.snd r_1), Prod.fst (Prod.snd (Prod.snd r_1)), Prod.snd (Prod.snd (Prod.snd r_1))), ())
                () fun (r' : Int) ↦ r' = r_2) ∧
              Q r_2
theorem v58 (ik : Int × Int) (g : Int → (Int × Int × Int × Int → Prop) → Prop) (Q : Int → Prop) : V58 ik g Q = vcFunc (S1 [(59, f59_ct)] [] [] []) f58_ct.own f58_ct.fresh no_an Tryz.f58 (bodyOf Tryz.f58) f58_ct.A f58_ct.C f58_ct.R ik (g, ()) Q := by kernel_rfl

def V62 (i : Int) (set : List Int) (Q : Bool → Prop) : Prop :=
  f63_wp (set, i, ()) () fun (r : Bool) ↦ Q r
theorem v62 (i : Int) (set : List Int) (Q : Bool → Prop) : V62 i set Q = vcFunc (S1 [(63, f63_ct)] [] [] []) f62_ct.own f62_ct.fresh no_an Tryz.f62 (bodyOf Tryz.f62) f62_ct.A f62_ct.C f62_ct.R i (set, ()) Q := by kernel_rfl

def V60 (set : List Int) (f : (Int × Int) × (Int × Int) × List ((Int × Int) × Int × Int)) (seen : Int × Int) (Q : Bool → Prop) : Prop :=
  ∃ (r : (Int × Int) × (Int × Int) × List ((Int × Int) × Int × Int)),
    (f61_wp
        (((Prod.fst (Prod.fst f), Prod.snd (Prod.fst f)), (Prod.fst (Prod.fst (Prod.snd f)), Prod.snd (Prod.fst (Prod.snd f))), Prod.snd (Prod.snd f)),
          fun (x : Int) (Q : Bool → Prop) ↦ f62_wp x (set, ()) fun (r : Bool) ↦ Q r, ())
        () fun (r' : (Int × Int) × (Int × Int) × List ((Int × Int) × Int × Int)) ↦ r' = r) ∧
      ∃ (r_1 : Int × Int),
        (f45_wp
            ((Prod.fst (Prod.fst r), Prod.snd (Prod.fst r)), (Prod.fst (Prod.fst (Prod.snd r)), Prod.snd (Prod.fst (Prod.snd r))),
              Prod.snd (Prod.snd r))
            () fun (r' : Int × Int) ↦ r' = r_1) ∧
          Q (decide (Prod.fst r_1 ≤ Prod.snd seen))
theorem v60 (set : List Int) (f : (Int × Int) × (Int × Int) × List ((Int × Int) × Int × Int)) (seen : Int × Int) (Q : Bool → Prop) : V60 set f seen Q = vcFunc (S1 [(61, f61_ct), (62, f62_ct), (45, f45_ct)] [] [] []) f60_ct.own f60_ct.fresh no_an Tryz.f60 (bodyOf Tryz.f60) f60_ct.A f60_ct.C f60_ct.R set (f, seen, ()) Q := by kernel_rfl

def V66 (k : Int) (i : Int) (Q : Bool → Prop) : Prop :=
  Q (decide (k ≤ i))
theorem v66 (k : Int) (i : Int) (Q : Bool → Prop) : V66 k i Q = vcFunc (S1 [] [] [] []) f66_ct.own f66_ct.fresh no_an Tryz.f66 (bodyOf Tryz.f66) f66_ct.A f66_ct.C f66_ct.R k (i, ()) Q := by kernel_rfl

def V21 (f : (Int × Int) × (Int × Int) × List ((Int × Int) × Int × Int)) (seen : Int × Int) (Q : List Int × Int × Unit → Prop) : Prop :=
  f12_wp ((Prod.fst (Prod.fst f), Prod.snd (Prod.fst f)), (Prod.fst (Prod.fst (Prod.snd f)), Prod.snd (Prod.fst (Prod.snd f))), Prod.snd (Prod.snd f))
    () fun (r : Int) ↦
    cnd (r != (0 : Int)) (Q (([] : List Int), r, ()))
      (f53_wp (Prod.fst seen) () fun (r : Bool) ↦
        cnd (!r) (Q (([] : List Int), (4 : Int), ()))
          (f53_wp (Prod.snd seen) () fun (r : Bool) ↦
            cnd (!r) (Q (([] : List Int), (4 : Int), ()))
              (cnd (decide (Prod.fst seen > Prod.snd seen)) (Q (([] : List Int), (4 : Int), ()))
                (f45_wp
                  ((Prod.fst (Prod.fst f), Prod.snd (Prod.fst f)), (Prod.fst (Prod.fst (Prod.snd f)), Prod.snd (Prod.fst (Prod.snd f))),
                    Prod.snd (Prod.snd f))
                  () fun (r : Int × Int) ↦
                  ∃ (I : Bool → Prop),
                    cnd (decide (Prod.fst r ≤ Prod.snd seen)) (I (decide (Prod.fst seen ≤ Prod.snd r))) (I false) ∧
                      ∀ (x : Bool),
                        I x →
                          cnd x (Q (([] : List Int), (7 : Int), ()))
                            (List.length (Prod.snd (Prod.snd f)) ≤ (9223372036854775807 : Nat) →
                              cnd ((↑(List.length (Prod.snd (Prod.snd f))) : Int) == (0 : Int)) (Q (([] : List Int), (9 : Int), ()))
                                (cnd (decide (Prod.fst r ≤ Prod.snd seen)) (Q ((0 : Int) :: ([] : List Int), (0 : Int), ()))
                                  (List.length (Prod.snd (Prod.snd f)) ≤ (9223372036854775807 : Nat) →
                                    ∃ (I : Int → List Int → Prop),
                                      ∃ (μ : Int → List Int → Nat),
                                        I (0 : Int) ([] : List Int) ∧
                                          ∀ (x : Int) (x_1 : List Int),
                                            I x x_1 →
                                              cnd (decide (x < (↑(List.length (Prod.snd (Prod.snd f))) : Int)))
                                                ((List.length x_1 + List.length (x :: ([] : List Int))) * (8 : Nat) ≤ (140737488355328 : Nat) ∧
                                                  I (IntKind.wrap IntKind.i64 (x + (1 : Int))) (x_1 ++ x :: ([] : List Int)) ∧
                                                    μ (IntKind.wrap IntKind.i64 (x + (1 : Int))) (x_1 ++ x :: ([] : List Int)) < μ x x_1)
                                                (f57_wp x_1
                                                  (fun (x : Int × Int) (Q : Int → Prop) ↦
                                                    f58_wp x
                                                      (fun (x : Int) (Q : Int × Int × Int × Int → Prop) ↦
                                                        f54_wp x
                                                          (((Prod.fst (Prod.fst f), Prod.snd (Prod.fst f)),
                                                              (Prod.fst (Prod.fst (Prod.snd f)), Prod.snd (Prod.fst (Prod.snd f))),
                                                              Prod.snd (Prod.snd f)),
                                                            ())
                                                          fun (r : Int × Int × Int × Int) ↦ Q r,
                                                        ())
                                                      fun (r : Int) ↦ Q r,
                                                    ())
                                                  () fun (r : Unit) (zs : List Int) ↦
                                                  ∃ (I : Int → Prop),
                                                    ∃ (μ : Int → Nat),
                                                      I (1 : Int) ∧
                                                        ∀ (x : Int),
                                                          I x →
                                                            (0 : Int) ≤ (0 : Int) ∧
                                                              (0 : Int) ≤ x ∧
                                                                x ≤ (↑(List.length zs) : Int) ∧
                                                                  f60_wp (List.drop (Int.toNat (0 : Int)) (List.take (Int.toNat x) zs))
                                                                    (((Prod.fst (Prod.fst f), Prod.snd (Prod.fst f)),
                                                                        (Prod.fst (Prod.fst (Prod.snd f)), Prod.snd (Prod.fst (Prod.snd f))),
                                                                        Prod.snd (Prod.snd f)),
                                                                      (Prod.fst seen, Prod.snd seen), ())
                                                                    fun (r : Bool) ↦
                                                                    cnd (!r)
                                                                      (I (IntKind.wrap IntKind.i64 (x + (1 : Int))) ∧
                                                                        μ (IntKind.wrap IntKind.i64 (x + (1 : Int))) < μ x)
                                                                      (∃ (I : List Int → Int → Prop),
                                                                        ∃ (μ : List Int → Int → Nat),
                                                                          I ([] : List Int) (0 : Int) ∧
                                                                            ∀ (x_2 : List Int) (x_3 : Int),
                                                                              I x_2 x_3 →
                                                                                List.length x_2 ≤ (9223372036854775807 : Nat) →
                                                                                  cnd (decide ((↑(List.length x_2) : Int) < x))
                                                                                    (f65_wp zs () fun (r : List Int) ↦
                                                                                      f64_wp r
                                                                                        (fun (x : Int) (Q : Bool → Prop) ↦
                                                                                          f66_wp x (x_3, ()) fun (r : Bool) ↦ Q r, ())
                                                                                        () fun (zs : List Int) ↦
                                                                                        List.length x_2 ≤ (9223372036854775807 : Nat) →
                                                                                          cnd
                                                                                            (decide
                                                                                              (IntKind.wrap IntKind.i64
                                                                                                  (IntKind.wrap IntKind.i64
                                                                                                      (x - (↑(List.length x_2) : Int)) -
                                                                                                    (1 : Int)) ≤
                                                                                                (↑(List.length zs) : Int)))
                                                                                            ((0 : Int) ≤ (0 : Int) ∧
                                                                                              (0 : Int) ≤
                                                                                                  IntKind.wrap IntKind.i64
                                                                                                    (IntKind.wrap IntKind.i64
                                                                                                        (x - (↑(List.length x_2) : Int)) -
                                                                                                      (1 : Int)) ∧
                                                                                                IntKind.wrap IntKind.i64
                                                                                                      (IntKind.wrap IntKind.i64
                                                                                                          (x - (↑(List.length x_2) : Int)) -
                                                                                                        (1 : Int)) ≤
                                                                                                    (↑(List.length zs) : Int) ∧
                                                                                                  ∃ (r : List Int),
                                                                                                    (f67_wp
                                                                                                        (x_2 ::
                                                                                                          (x_3 :: ([] : List Int)) ::
                                                                                                            List.drop (Int.toNat (0 : Int))
                                                                                                                (List.take
                                                                                                                  (Int.toNat
                                                                                                                    (IntKind.wrap IntKind.i64
                                                                                                                      (IntKind.wrap IntKind.i64
                                                                                                                          (x -
                                                                                                                            (↑(List.length x_2) :
                                                                                                                              Int)) -
                                                                                                                        (1 : Int))))
                                                                                                                  zs) ::
                                                                                                              ([] : List (List Int)))
                                                                                                        () fun (r' : List Int) ↦ r' = r) ∧
                                                                                                      ∃ (r_1 : Bool),
                                                                                                        (f60_wp r
                                                                                                            (((Prod.fst (Prod.fst f),
                                                                                                                  Prod.snd (Prod.fst f)),
                                                                                                                (Prod.fst (Prod.fst (Prod.snd f)),
                                                                                                                  Prod.snd (Prod.fst (Prod.snd f))),
                                                                                                                Prod.snd (Prod.snd f)),
                                                                                                              (Prod.fst seen, Prod.snd seen), ())
                                                                                                            fun (r' : Bool) ↦ r' = r_1) ∧
                                                                                                          cnd r_1
                                                                                                            ((List.length x_2 +
                                                                                                                    List.length
                                                                                                                      (x_3 :: ([] : List Int))) *
                                                                                                                  (8 : Nat) ≤
                                                                                                                (140737488355328 : Nat) ∧
                                                                                                              I (x_2 ++ x_3 :: ([] : List Int))
                                                                                                                  (IntKind.wrap IntKind.i64
                                                                                                                    (x_3 + (1 : Int))) ∧
                                                                                                                μ (x_2 ++ x_3 :: ([] : List Int))
                                                                                                                    (IntKind.wrap IntKind.i64
                                                                                                                      (x_3 + (1 : Int))) <
                                                                                                                  μ x_2 x_3)
                                                                                                            (I x_2
                                                                                                                (IntKind.wrap IntKind.i64
                                                                                                                  (x_3 + (1 : Int))) ∧
                                                                                                              μ x_2
                                                                                                                  (IntKind.wrap IntKind.i64
                                                                                                                    (x_3 + (1 : Int))) <
                                                                                                                μ x_2 x_3))
                                                                                            (I x_2 (IntKind.wrap IntKind.i64 (x_3 + (1 : Int))) ∧
                                                                                              μ x_2 (IntKind.wrap IntKind.i64 (x_3 + (1 : Int))) <
                                                                                                μ x_2 x_3))
                                                                                    (Q (x_2, (0 : Int), ())))))))))))
theorem v21 (f : (Int × Int) × (Int × Int) × List ((Int × Int) × Int × Int)) (seen : Int × Int) (Q : List Int × Int × Unit → Prop) : V21 f seen Q = vcFunc (S1 [(12, f12_ct), (53, f53_ct), (45, f45_ct), (54, f54_ct), (58, f58_ct), (60, f60_ct), (65, f65_ct), (66, f66_ct), (67, f67_ct)] [(57, f57_ct)] [(64, f64_ct)] [1200,1300,2500,2303,8003112]) f21_ct.own f21_ct.fresh f21_an Tryz.f21 (bodyOf Tryz.f21) f21_ct.A f21_ct.C f21_ct.R (f, seen, ()) () Q := by kernel_rfl

def V24 (f : (Int × Int) × (Int × Int) × List ((Int × Int) × Int × Int)) (d : Int) (Q : Int × Int × Unit → Prop) : Prop :=
  f12_wp ((Prod.fst (Prod.fst f), Prod.snd (Prod.fst f)), (Prod.fst (Prod.fst (Prod.snd f)), Prod.snd (Prod.fst (Prod.snd f))), Prod.snd (Prod.snd f))
    () fun (r : Int) ↦
    cnd (r != (0 : Int)) (Q ((0 : Int), r, ()))
      (f53_wp d () fun (r : Bool) ↦
        cnd (!r) (Q ((0 : Int), (4 : Int), ()))
          (List.length (Prod.snd (Prod.snd f)) ≤ (9223372036854775807 : Nat) →
            cnd ((↑(List.length (Prod.snd (Prod.snd f))) : Int) == (0 : Int)) (Q ((0 : Int), (7 : Int), ()))
              (∃ (I : Int → Prop),
                ∃ (μ : Int → Nat),
                  I (0 : Int) ∧
                    ∀ (x : Int),
                      I x →
                        cnd (decide (x < (41 : Int)))
                          ((0 : Int) ≤ (0 : Int) ∧
                            (0 : Int) ≤ (1 : Int) ∧
                              (1 : Int) ≤ (↑(List.length (Prod.snd (Prod.snd f))) : Int) ∧
                                ∃ (r : List ((Int × Int) × Int × Int)),
                                  (f70_wp (List.drop (Int.toNat (0 : Int)) (List.take (Int.toNat (1 : Int)) (Prod.snd (Prod.snd f))), x, ()) ()
                                      fun (r' : List ((Int × Int) × Int × Int)) ↦ r' = r) ∧
                                    ∃ (r_1 : Int × Int),
                                      (f45_wp
                                          ((Prod.fst (Prod.fst f), Prod.snd (Prod.fst f)),
                                            (Prod.fst (Prod.fst (Prod.snd f)), Prod.snd (Prod.fst (Prod.snd f))), r)
                                          () fun (r' : Int × Int) ↦ r' = r_1) ∧
                                        cnd (decide (Prod.fst r_1 ≥ d)) (Q (IntKind.wrap IntKind.i64 (x + (1 : Int)), (0 : Int), ()))
                                          (I (IntKind.wrap IntKind.i64 (x + (1 : Int))) ∧ μ (IntKind.wrap IntKind.i64 (x + (1 : Int))) < μ x))
                          (Q ((0 : Int), (7 : Int), ())))))
theorem v24 (f : (Int × Int) × (Int × Int) × List ((Int × Int) × Int × Int)) (d : Int) (Q : Int × Int × Unit → Prop) : V24 f d Q = vcFunc (S1 [(12, f12_ct), (53, f53_ct), (70, f70_ct), (45, f45_ct)] [] [] []) f24_ct.own f24_ct.fresh f24_an Tryz.f24 (bodyOf Tryz.f24) f24_ct.A f24_ct.C f24_ct.R (f, d, ()) () Q := by kernel_rfl

def V71 (a : Int) (f : (Int × Int) × (Int × Int) × List ((Int × Int) × Int × Int)) (d : Int) (Q : Bool → Prop) : Prop :=
  f51_wp (Prod.snd (Prod.snd f)) () fun (r : List ((Int × Int) × Int × Int)) ↦
    List.length r ≤ (9223372036854775807 : Nat) →
      ∃ (I : Int → List ((Int × Int) × Int × Int) → Prop),
        ∃ (μ : Int → List ((Int × Int) × Int × Int) → Nat),
          I (0 : Int) r ∧
            ∀ (x : Int) (x_1 : List ((Int × Int) × Int × Int)),
              I x x_1 →
                cnd (decide (x < (↑(List.length r) : Int)))
                  ((0 : Int) ≤ x ∧
                    x < (↑(List.length x_1) : Int) ∧
                      I (IntKind.wrap IntKind.i64 (x + (1 : Int)))
                          (List.set x_1 (Int.toNat x)
                            ((a, a), Prod.fst (Prod.snd (List.getD x_1 (Int.toNat x) (((0 : Int), (0 : Int)), (0 : Int), (0 : Int)))),
                              Prod.snd (Prod.snd (List.getD x_1 (Int.toNat x) (((0 : Int), (0 : Int)), (0 : Int), (0 : Int)))))) ∧
                        μ (IntKind.wrap IntKind.i64 (x + (1 : Int)))
                            (List.set x_1 (Int.toNat x)
                              ((a, a), Prod.fst (Prod.snd (List.getD x_1 (Int.toNat x) (((0 : Int), (0 : Int)), (0 : Int), (0 : Int)))),
                                Prod.snd (Prod.snd (List.getD x_1 (Int.toNat x) (((0 : Int), (0 : Int)), (0 : Int), (0 : Int)))))) <
                          μ x x_1)
                  (∃ (r : Int × Int),
                    (f45_wp ((Prod.fst (Prod.fst f), Prod.snd (Prod.fst f)), (Prod.fst (Prod.fst (Prod.snd f)), Prod.snd (Prod.fst (Prod.snd f))), x_1)
                        () fun (r' : Int × Int) ↦ r' = r) ∧
                      Q (decide (Prod.fst r ≥ d)))
theorem v71 (a : Int) (f : (Int × Int) × (Int × Int) × List ((Int × Int) × Int × Int)) (d : Int) (Q : Bool → Prop) : V71 a f d Q = vcFunc (S1 [(51, f51_ct), (45, f45_ct)] [] [] []) f71_ct.own f71_ct.fresh f71_an Tryz.f71 (bodyOf Tryz.f71) f71_ct.A f71_ct.C f71_ct.R a (f, d, ()) Q := by kernel_rfl

def V26 (f : (Int × Int) × (Int × Int) × List ((Int × Int) × Int × Int)) (d : Int) (Q : Int × Int × Unit → Prop) : Prop :=
  f12_wp ((Prod.fst (Prod.fst f), Prod.snd (Prod.fst f)), (Prod.fst (Prod.fst (Prod.snd f)), Prod.snd (Prod.fst (Prod.snd f))), Prod.snd (Prod.snd f))
    () fun (r : Int) ↦
    cnd (r != (0 : Int)) (Q ((0 : Int), r, ()))
      (f53_wp d () fun (r : Bool) ↦
        cnd (!r) (Q ((0 : Int), (4 : Int), ()))
          (∃ (I : Int → Int → Prop),
            ∃ (μ : Int → Int → Nat),
              I (0 : Int) (1001 : Int) ∧
                ∀ (x x_1 : Int),
                  I x x_1 →
                    cnd (decide (x < x_1))
                      ((2 : Int) ≠ (0 : Int) ∧
                        cnd (decide (IntKind.wrap IntKind.i64 (Int.tdiv (IntKind.wrap IntKind.i64 (x + x_1)) (2 : Int)) > (1000 : Int)))
                          (I x (IntKind.wrap IntKind.i64 (Int.tdiv (IntKind.wrap IntKind.i64 (x + x_1)) (2 : Int))) ∧
                            μ x (IntKind.wrap IntKind.i64 (Int.tdiv (IntKind.wrap IntKind.i64 (x + x_1)) (2 : Int))) < μ x x_1)
                          (f71_wp (IntKind.wrap IntKind.i64 (Int.tdiv (IntKind.wrap IntKind.i64 (x + x_1)) (2 : Int)))
                            (((Prod.fst (Prod.fst f), Prod.snd (Prod.fst f)), (Prod.fst (Prod.fst (Prod.snd f)), Prod.snd (Prod.fst (Prod.snd f))),
                                Prod.snd (Prod.snd f)),
                              d, ())
                            fun (r : Bool) ↦
                            cnd r
                              (I x (IntKind.wrap IntKind.i64 (Int.tdiv (IntKind.wrap IntKind.i64 (x + x_1)) (2 : Int))) ∧
                                μ x (IntKind.wrap IntKind.i64 (Int.tdiv (IntKind.wrap IntKind.i64 (x + x_1)) (2 : Int))) < μ x x_1)
                              (I
                                  (IntKind.wrap IntKind.i64
                                    (IntKind.wrap IntKind.i64 (Int.tdiv (IntKind.wrap IntKind.i64 (x + x_1)) (2 : Int)) + (1 : Int)))
                                  x_1 ∧
                                μ
                                    (IntKind.wrap IntKind.i64
                                      (IntKind.wrap IntKind.i64 (Int.tdiv (IntKind.wrap IntKind.i64 (x + x_1)) (2 : Int)) + (1 : Int)))
                                    x_1 <
                                  μ x x_1)))
                      (cnd (decide (x > (1000 : Int))) (Q ((0 : Int), (7 : Int), ())) (Q (x, (0 : Int), ())))))
theorem v26 (f : (Int × Int) × (Int × Int) × List ((Int × Int) × Int × Int)) (d : Int) (Q : Int × Int × Unit → Prop) : V26 f d Q = vcFunc (S1 [(12, f12_ct), (53, f53_ct), (71, f71_ct)] [] [] []) f26_ct.own f26_ct.fresh f26_an Tryz.f26 (bodyOf Tryz.f26) f26_ct.A f26_ct.C f26_ct.R (f, d, ()) () Q := by kernel_rfl

def V101 (s : (Int × Int) × (Int × Int) × Int) (Q : Bool → Prop) : Prop :=
  f43_wp ((Prod.fst (Prod.fst s), Prod.snd (Prod.fst s)), (1 : Int), (10000 : Int), ()) () fun (r : Bool) ↦
    cnd r
      (f43_wp ((Prod.fst (Prod.fst (Prod.snd s)), Prod.snd (Prod.fst (Prod.snd s))), (1 : Int), (100 : Int), ()) () fun (r : Bool) ↦
        cnd r (f50_wp ((0 : Int), (5000 : Int), Prod.snd (Prod.snd s) :: ([] : List Int), ()) () fun (r : Bool) ↦ Q r) (Q false))
      (Q false)
theorem v101 (s : (Int × Int) × (Int × Int) × Int) (Q : Bool → Prop) : V101 s Q = vcFunc (S1 [(43, f43_ct), (50, f50_ct)] [] [] []) f101_ct.own f101_ct.fresh no_an Tryz.f101 (bodyOf Tryz.f101) f101_ct.A f101_ct.C f101_ct.R s () Q := by kernel_rfl

def V100 (s : (Int × Int) × (Int × Int) × Int) (Q : Bool → Prop) : Prop :=
  f101_wp ((Prod.fst (Prod.fst s), Prod.snd (Prod.fst s)), (Prod.fst (Prod.fst (Prod.snd s)), Prod.snd (Prod.fst (Prod.snd s))), Prod.snd (Prod.snd s))
    () fun (r : Bool) ↦ Q !r
theorem v100 (s : (Int × Int) × (Int × Int) × Int) (Q : Bool → Prop) : V100 s Q = vcFunc (S1 [(101, f101_ct)] [] [] []) f100_ct.own f100_ct.fresh no_an Tryz.f100 (bodyOf Tryz.f100) f100_ct.A f100_ct.C f100_ct.R s () Q := by kernel_rfl

def V102 (a : Int × Int) (b : Int × Int) (Q : Int × Int → Prop) : Prop :=
  Q (IntKind.wrap IntKind.i64 (Prod.fst a + Prod.fst b), IntKind.wrap IntKind.i64 (Prod.snd a + Prod.snd b))
theorem v102 (a : Int × Int) (b : Int × Int) (Q : Int × Int → Prop) : V102 a b Q = vcFunc (S1 [] [] [] []) f102_ct.own f102_ct.fresh no_an Tryz.f102 (bodyOf Tryz.f102) f102_ct.A f102_ct.C f102_ct.R (a, b, ()) () Q := by kernel_rfl

def V77 (l : List ((Int × Int) × (Int × Int) × Int)) (Q : (Int × Int) × (Int × Int) × Int × Unit → Prop) : Prop :=
  List.length l ≤ (9223372036854775807 : Nat) →
    cnd (decide ((↑(List.length l) : Int) > (12 : Int))) (Q (((0 : Int), (0 : Int)), ((0 : Int), (0 : Int)), (5 : Int), ()))
      (f99_wp (l, fun (x : (Int × Int) × (Int × Int) × Int) (Q : Bool → Prop) ↦ f100_wp x () fun (r : Bool) ↦ Q r, ()) () fun (r : Bool) ↦
        cnd r (Q (((0 : Int), (0 : Int)), ((0 : Int), (0 : Int)), (2 : Int), ()))
          (List.length l ≤ (9223372036854775807 : Nat) →
            ∃ (I : Int → Int × Int → Int × Int → Prop),
              ∃ (μ : Int → Int × Int → Int × Int → Nat),
                I (0 : Int) ((0 : Int), (0 : Int)) ((0 : Int), (0 : Int)) ∧
                  ∀ (x : Int) (x_1 x_2 : Int × Int),
                    I x x_1 x_2 →
                      cnd (decide (x < (↑(List.length l) : Int)))
                        ((0 : Int) ≤ x ∧
                          x < (↑(List.length l) : Int) ∧
                            ∃ (r : Int × Int),
                              (f102_wp
                                  ((Prod.fst x_1, Prod.snd x_1),
                                    (Prod.fst (Prod.fst (List.getD l (Int.toNat x) (((0 : Int), (0 : Int)), ((0 : Int), (0 : Int)), (0 : Int)))),
                                      Prod.snd (Prod.fst (List.getD l (Int.toNat x) (((0 : Int), (0 : Int)), ((0 : Int), (0 : Int)), (0 : Int))))),
                                    ())
                                  () fun (r' : Int × Int) ↦ r' = r) ∧
                                ∃ (r_1 : Int × Int),
                                  (f102_wp
                                      ((Prod.fst x_2, Prod.snd x_2),
                                        (Prod.fst
                                            (Prod.fst
                                              (Prod.snd (List.getD l (Int.toNat x) (((0 : Int), (0 : Int)), ((0 : Int), (0 : Int)), (0 : Int))))),
                                          Prod.snd
                                            (Prod.fst
                                              (Prod.snd (List.getD l (Int.toNat x) (((0 : Int), (0 : Int)), ((0 : Int), (0 : Int)), (0 : Int)))))),
                                        ())
                                      () fun (r' : Int × Int) ↦ r' = r_1) ∧
                                    I (IntKind.wrap IntKind.i64 (x + (1 : Int))) (Prod.fst r, Prod.snd r) (Prod.fst r_1, Prod.snd r_1) ∧
                                      μ (IntKind.wrap IntKind.i64 (x + (1 : Int))) (Prod.fst r, Prod.snd r) (Prod.fst r_1, Prod.snd r_1) < μ x x_1 x_2)
                        (Q ((Prod.fst x_1, Prod.snd x_1), (Prod.fst x_2, Prod.snd x_2), (0 : Int), ()))))
theorem v77 (l : List ((Int × Int) × (Int × Int) × Int)) (Q : (Int × Int) × (Int × Int) × Int × Unit → Prop) : V77 l Q = vcFunc (S1 [(99, f99_ct), (100, f100_ct), (102, f102_ct)] [] [] []) f77_ct.own f77_ct.fresh f77_an Tryz.f77 (bodyOf Tryz.f77) f77_ct.A f77_ct.C f77_ct.R l () Q := by kernel_rfl

def V81 (l : List ((Int × Int) × (Int × Int) × Int)) (first : Int) (p : Int × Int → (Int → Prop) → Prop) (q : Int × Int → (Int → Prop) → Prop) (Q : Int × Int × Unit → Prop) : Prop :=
  List.length l ≤ (9223372036854775807 : Nat) →
    ∃ (I : Int → Int → Int → Prop),
      ∃ (μ : Int → Int → Int → Nat),
        I (0 : Int) (0 : Int) (0 : Int) ∧
          ∀ (x x_1 x_2 : Int),
            I x x_1 x_2 →
              cnd (decide (x < (↑(List.length l) : Int)))
                ((0 : Int) ≤ x ∧
                  x < (↑(List.length l) : Int) ∧
                    cnd (decide (x < first))
                      (∃ (r : Int),
                        (Prod.fst (p, q, ())
                            (Prod.fst (Prod.fst (List.getD l (Int.toNat x) (((0 : Int), (0 : Int)), ((0 : Int), (0 : Int)), (0 : Int)))),
                              Prod.snd (Prod.fst (List.getD l (Int.toNat x) (((0 : Int), (0 : Int)), ((0 : Int), (0 : Int)), (0 : Int)))))
                            fun (r' : Int) ↦ r' = r) ∧
                          ∃ (r_1 : Int),
                            (Prod.fst (p, q, ())
                                (Prod.fst (Prod.fst (List.getD l (Int.toNat x) (((0 : Int), (0 : Int)), ((0 : Int), (0 : Int)), (0 : Int)))),
                                  Prod.snd (Prod.fst (List.getD l (Int.toNat x) (((0 : Int), (0 : Int)), ((0 : Int), (0 : Int)), (0 : Int)))))
                                fun (r' : Int) ↦ r' = r_1) ∧
                              I (IntKind.wrap IntKind.i64 (x + (1 : Int)))
                                  (IntKind.wrap IntKind.i64
                                    (x_1 +
                                      IntKind.wrap IntKind.i64
                                        (r *
                                          Prod.snd (Prod.snd (List.getD l (Int.toNat x) (((0 : Int), (0 : Int)), ((0 : Int), (0 : Int)), (0 : Int)))))))
                                  (IntKind.wrap IntKind.i64 (x_2 + r_1)) ∧
                                μ (IntKind.wrap IntKind.i64 (x + (1 : Int)))
                                    (IntKind.wrap IntKind.i64
                                      (x_1 +
                                        IntKind.wrap IntKind.i64
                                          (r *
                                            Prod.snd
                                              (Prod.snd (List.getD l (Int.toNat x) (((0 : Int), (0 : Int)), ((0 : Int), (0 : Int)), (0 : Int)))))))
                                    (IntKind.wrap IntKind.i64 (x_2 + r_1)) <
                                  μ x x_1 x_2)
                      (∃ (r : Int),
                        (Prod.fst (q, ())
                            (Prod.fst (Prod.fst (List.getD l (Int.toNat x) (((0 : Int), (0 : Int)), ((0 : Int), (0 : Int)), (0 : Int)))),
                              Prod.snd (Prod.fst (List.getD l (Int.toNat x) (((0 : Int), (0 : Int)), ((0 : Int), (0 : Int)), (0 : Int)))))
                            fun (r' : Int) ↦ r' = r) ∧
                          ∃ (r_1 : Int),
                            (Prod.fst (q, ())
                                (Prod.fst (Prod.fst (List.getD l (Int.toNat x) (((0 : Int), (0 : Int)), ((0 : Int), (0 : Int)), (0 : Int)))),
                                  Prod.snd (Prod.fst (List.getD l (Int.toNat x) (((0 : Int), (0 : Int)), ((0 : Int), (0 : Int)), (0 : Int)))))
                                fun (r' : Int) ↦ r' = r_1) ∧
                              I (IntKind.wrap IntKind.i64 (x + (1 : Int)))
                                  (IntKind.wrap IntKind.i64
                                    (x_1 +
                                      IntKind.wrap IntKind.i64
                                        (r *
                                          Prod.snd (Prod.snd (List.getD l (Int.toNat x) (((0 : Int), (0 : Int)), ((0 : Int), (0 : Int)), (0 : Int)))))))
                                  (IntKind.wrap IntKind.i64 (x_2 + r_1)) ∧
                                μ (IntKind.wrap IntKind.i64 (x + (1 : Int)))
                                    (IntKind.wrap IntKind.i64
                                      (x_1 +
                                        IntKind.wrap IntKind.i64
                                          (r *
                                            Prod.snd
                                              (Prod.snd (List.getD l (Int.toNat x) (((0 : Int), (0 : Int)), ((0 : Int), (0 : Int)), (0 : Int)))))))
                                    (IntKind.wrap IntKind.i64 (x_2 + r_1)) <
                                  μ x x_1 x_2))
                (Q (x_1, x_2, ()))
theorem v81 (l : List ((Int × Int) × (Int × Int) × Int)) (first : Int) (p : Int × Int → (Int → Prop) → Prop) (q : Int × Int → (Int → Prop) → Prop) (Q : Int × Int × Unit → Prop) : V81 l first p q Q = vcFunc (S1 [] [] [] []) f81_ct.own f81_ct.fresh f81_an Tryz.f81 (bodyOf Tryz.f81) f81_ct.A f81_ct.C f81_ct.R (l, first, p, q, ()) () Q := by kernel_rfl

def V84 (num : Int) (den : Int) (Q : Int × Int → Prop) : Prop :=
  ∃ (I : Int → Int → Prop),
    ∃ (μ : Int → Int → Nat),
      I num den ∧
        ∀ (x x_1 : Int),
          I x x_1 →
            cnd (x_1 != (0 : Int)) (x_1 ≠ (0 : Int) ∧ I x_1 (Int.tmod x x_1) ∧ μ x_1 (Int.tmod x x_1) < μ x x_1)
              (x ≠ (0 : Int) ∧ x ≠ (0 : Int) ∧ Q (IntKind.wrap IntKind.i64 (Int.tdiv num x), IntKind.wrap IntKind.i64 (Int.tdiv den x)))
theorem v84 (num : Int) (den : Int) (Q : Int × Int → Prop) : V84 num den Q = vcFunc (S1 [] [] [] []) f84_ct.own f84_ct.fresh f84_an Tryz.f84 (bodyOf Tryz.f84) f84_ct.A f84_ct.C f84_ct.R (num, den, ()) () Q := by kernel_rfl

def V80 (ab : ((Int × Int) × (Int × Int) × Int) × (Int × Int) × (Int × Int) × Int) (Q : Int → Prop) : Prop :=
  Q (IntKind.wrap IntKind.i64 (Prod.snd (Prod.snd (Prod.fst ab)) - Prod.snd (Prod.snd (Prod.snd ab))))
theorem v80 (ab : ((Int × Int) × (Int × Int) × Int) × (Int × Int) × (Int × Int) × Int) (Q : Int → Prop) : V80 ab Q = vcFunc (S1 [] [] [] []) f80_ct.own f80_ct.fresh no_an Tryz.f80 (bodyOf Tryz.f80) f80_ct.A f80_ct.C f80_ct.R ab () Q := by kernel_rfl

def V40 (l : List ((Int × Int) × (Int × Int) × Int)) (Q : (Int × Int) × (Int × Int) × Int × Unit → Prop) : Prop :=
  f77_wp l () fun (r : (Int × Int) × (Int × Int) × Int × Unit) ↦
    cnd (Prod.fst (Prod.snd (Prod.snd r)) != (0 : Int)) (Q (((0 : Int), (0 : Int)), ((0 : Int), (0 : Int)), Prod.fst (Prod.snd (Prod.snd r)), ()))
      (List.length l ≤ (9223372036854775807 : Nat) →
        cnd ((↑(List.length l) : Int) == (0 : Int)) (Q (((0 : Int), (0 : Int)), ((0 : Int), (0 : Int)), (7 : Int), ()))
          (f79_wp l () fun (r : Kd.T (Ct.R (Prod.snd ((79 : Nat), f79_ct)))) ↦
            f78_wp
              (r, fun (x : ((Int × Int) × (Int × Int) × Int) × (Int × Int) × (Int × Int) × Int) (Q : Int → Prop) ↦ f80_wp x () fun (r : Int) ↦ Q r, ())
              () fun (r : List ((Int × Int) × (Int × Int) × Int)) ↦
              f81_wp
                (r, (0 : Int), fun (x : Int × Int) (Q : Int → Prop) ↦ f82_wp x () fun (r : Int) ↦ Q r, fun (x : Int × Int) (Q : Int → Prop) ↦
                  f83_wp x () fun (r : Int) ↦ Q r, ())
                () fun (r_1 : Int × Int × Unit) ↦
                List.length l ≤ (9223372036854775807 : Nat) →
                  ∃ (I : Int → Int × Int → Int × Int → Prop),
                    ∃ (μ : Int → Int × Int → Int × Int → Nat),
                      I (0 : Int) (Prod.fst r_1, Prod.fst (Prod.snd r_1)) (Prod.fst r_1, Prod.fst (Prod.snd r_1)) ∧
                        ∀ (x : Int) (x_1 x_2 : Int × Int),
                          I x x_1 x_2 →
                            cnd (decide (x < IntKind.wrap IntKind.i64 ((↑(List.length l) : Int) + (1 : Int))))
                              (f81_wp
                                (r, x, fun (x : Int × Int) (Q : Int → Prop) ↦ f82_wp x () fun (r : Int) ↦ Q r, fun (x : Int × Int) (Q : Int → Prop) ↦
                                  f83_wp x () fun (r : Int) ↦ Q r, ())
                                () fun (r_2 : Int × Int × Unit) ↦
                                cnd
                                  (decide
                                    (IntKind.wrap IntKind.i64 (Prod.fst r_2 * Prod.snd x_1) <
                                      IntKind.wrap IntKind.i64 (Prod.fst x_1 * Prod.fst (Prod.snd r_2))))
                                  (f81_wp
                                    (r, x, fun (x : Int × Int) (Q : Int → Prop) ↦ f83_wp x () fun (r : Int) ↦ Q r,
                                      fun (x : Int × Int) (Q : Int → Prop) ↦ f82_wp x () fun (r : Int) ↦ Q r, ())
                                    () fun (r : Int × Int × Unit) ↦
                                    cnd
                                      (decide
                                        (IntKind.wrap IntKind.i64 (Prod.fst r * Prod.snd x_2) >
                                          IntKind.wrap IntKind.i64 (Prod.fst x_2 * Prod.fst (Prod.snd r))))
                                      (I (IntKind.wrap IntKind.i64 (x + (1 : Int))) (Prod.fst r_2, Prod.fst (Prod.snd r_2))
                                          (Prod.fst r, Prod.fst (Prod.snd r)) ∧
                                        μ (IntKind.wrap IntKind.i64 (x + (1 : Int))) (Prod.fst r_2, Prod.fst (Prod.snd r_2))
                                            (Prod.fst r, Prod.fst (Prod.snd r)) <
                                          μ x x_1 x_2)
                                      (I (IntKind.wrap IntKind.i64 (x + (1 : Int))) (Prod.fst r_2, Prod.fst (Prod.snd r_2))
                                          (Prod.fst x_2, Prod.snd x_2) ∧
                                        μ (IntKind.wrap IntKind.i64 (x + (1 : Int))) (Prod.fst r_2, Prod.fst (Prod.snd r_2))
                                            (Prod.fst x_2, Prod.snd x_2) <
                                          μ x x_1 x_2))
                                  (f81_wp
                                    (r, x, fun (x : Int × Int) (Q : Int → Prop) ↦ f83_wp x () fun (r : Int) ↦ Q r,
                                      fun (x : Int × Int) (Q : Int → Prop) ↦ f82_wp x () fun (r : Int) ↦ Q r, ())
                                    () fun (r : Int × Int × Unit) ↦
                                    cnd
                                      (decide
                                        (IntKind.wrap IntKind.i64 (Prod.fst r * Prod.snd x_2) >
                                          IntKind.wrap IntKind.i64 (Prod.fst x_2 * Prod.fst (Prod.snd r))))
                                      (I (IntKind.wrap IntKind.i64 (x + (1 : Int))) (Prod.fst x_1, Prod.snd x_1) (Prod.fst r, Prod.fst (Prod.snd r)) ∧
                                        μ (IntKind.wrap IntKind.i64 (x + (1 : Int))) (Prod.fst x_1, Prod.snd x_1) (Prod.fst r, Prod.fst (Prod.snd r)) <
                                          μ x x_1 x_2)
                                      (I (IntKind.wrap IntKind.i64 (x + (1 : Int))) (Prod.fst x_1, Prod.snd x_1) (Prod.fst x_2, Prod.snd x_2) ∧
                                        μ (IntKind.wrap IntKind.i64 (x + (1 : Int))) (Prod.fst x_1, Prod.snd x_1) (Prod.fst x_2, Prod.snd x_2) <
                                          μ x x_1 x_2)))
                              (∃ (r : Int × Int),
                                (f84_wp (Prod.fst x_1, Prod.snd x_1, ()) () fun (r' : Int × Int) ↦ r' = r) ∧
                                  ∃ (r_2 : Int × Int),
                                    (f84_wp (Prod.fst x_2, Prod.snd x_2, ()) () fun (r' : Int × Int) ↦ r' = r_2) ∧
                                      Q ((Prod.fst r, Prod.snd r), (Prod.fst r_2, Prod.snd r_2), (0 : Int), ()))))
theorem v40 (l : List ((Int × Int) × (Int × Int) × Int)) (Q : (Int × Int) × (Int × Int) × Int × Unit → Prop) : V40 l Q = vcFunc (S1 [(77, f77_ct), (79, f79_ct), (78, f78_ct), (80, f80_ct), (81, f81_ct), (82, f82_ct), (83, f83_ct), (84, f84_ct)] [] [] []) f40_ct.own f40_ct.fresh f40_an Tryz.f40 (bodyOf Tryz.f40) f40_ct.A f40_ct.C f40_ct.R l () Q := by kernel_rfl

end Go.Proofs.Rz
set_option linter.unusedVariables false
set_option maxRecDepth 100000
namespace Go.Proofs.Rz
open Go Go.GX Go.Proofs

theorem woK_succ (p : Int → Bool) (gs : List Gap) (k : Nat) : woK p gs (k + 1) = if p (k : Int) then woK p gs k else woK p gs k ++ [gs.getD k g0] := by
  unfold woK; rw [foldl_succ]
theorem woK_length (p : Int → Bool) (gs : List Gap) : ∀ k, (woK p gs k).length ≤ k
  | 0 => Nat.le_refl _
  | k + 1 => by
    have := woK_length p gs k
    rw [woK_succ]
    split
    · omega
    · simp; omega
theorem woK_mem (p : Int → Bool) (gs : List Gap) : ∀ k, k ≤ gs.length → ∀ g, g ∈ woK p gs k → g ∈ gs
  | 0, _, g, h => by simp [woK] at h
  | k + 1, hk, g, h => by
    rw [woK_succ] at h
    split at h
    · exact woK_mem p gs k (by omega) g h
    · rcases List.mem_append.1 h with h | h
      · exact woK_mem p gs k (by omega) g h
      · have : g = gs.getD k g0 := by simpa using h
        rw [this]; exact getD_mem (show k < gs.length from hk)
theorem p61 {f : Fan} {s : Int → (Bool → Prop) → Prop} {Q : Fan → Prop} (h : f61_wp (f, s, ()) () Q) : V61 f s Q := by
  obtain ⟨p, hs, hl, h⟩ := h
  have hs : ∀ k : Nat, k < f.2.2.length → ∀ R : Bool → Prop, R (p k) → s k R := hs
  have hl : f.2.2.length ≤ 1000000 := hl
  intro hl2
  refine forUp hl2 (fun k => (((f.1, f.2.1), woK p f.2.2 k) : (Span × Span) × List Gap)) rfl (fun k hk I μ hI hw => ?_) h
  refine ⟨by omega, by omega, hs k hk _ ?_⟩
  rw [hw]
  rw [woK_succ] at hI
  have hlen := woK_length p f.2.2 k
  refine cnd_iff.2 ⟨fun hc => ?_, fun hc => ?_⟩
  · have hc : p k = false := by simpa using hc
    rw [if_neg (by rw [hc]; simp)] at hI
    exact ⟨by show ((woK p f.2.2 k).length + 1) * 32 ≤ _; omega, hI⟩
  · have hc : p k = true := by simpa using hc
    rw [if_pos hc] at hI
    exact hI
theorem wide_ok {f : Fan} (h : CheckOK f) {i : Nat} (hi : i < f.2.2.length) {more : Int} (h1 : 0 ≤ more) (h2 : more ≤ 1000) : FanOK (wideF f i more) := by
  obtain ⟨a1, a2, a3, a4, a5⟩ := h
  refine ⟨by show (f.2.2.set _ _).length ≤ 50; simp; omega, ?_, ?_, fun g hg => ?_⟩
  · show inR 1 6000 f.1.1 ∧ inR 1 6000 f.1.2
    unfold inR; omega
  · show inR 1 6000 f.2.1.1 ∧ inR 1 6000 f.2.1.2
    unfold inR; omega
  · rcases List.mem_or_eq_of_mem_set (show g ∈ f.2.2.set i _ from hg) with hg | rfl
    · have := a5 g hg
      unfold inR; omega
    · have := a5 _ (getD_mem (d := g0) hi)
      unfold inR wideG
      dsimp only
      omega
theorem widenK_succ (f : Fan) (more : Int) (k : Nat) : widenK f more (k + 1) = if degF (lowT (wideF f k more)) > (widenK f more k).2 then ((k : Int), degF (lowT (wideF f k more))) else widenK f more k := by
  unfold widenK; rw [foldl_succ]
theorem set_set {α : Type} (l : List α) (i : Nat) (a b : α) : (l.set i a).set i b = l.set i b := by simp
theorem p17 {f : Fan} {more : Int} {Q : Int × Int × Int × Unit → Prop} (h : f17_wp (f, more, ()) () Q) : V17 f more Q := by
  have h : Q (widenF f more) := h
  unfold widenF at h
  show cnd (checkF f != 0) (Q (0, 0, checkF f, ())) _
  refine cnd_iff.2 ⟨fun hc => ?_, fun hc => ?_⟩
  · rw [if_pos (bne0.1.1 hc)] at h; exact h
  have hc := bne0.2.1 hc
  rw [if_neg (by simpa using hc)] at h
  have ho := checkF_ok.1 hc
  show cnd (!([more].all (inB 0 1000))) (Q (0, 0, 4, ())) _
  rw [all_one]
  refine cnd_iff.2 ⟨fun h1 => ?_, fun h1 _ => ?_⟩
  · rw [if_pos (by simpa using h1)] at h; exact h
  have h1 : inB 0 1000 more = true := by simpa using h1
  rw [if_neg (by rw [h1]; simp)] at h
  simp only [inB, Bool.and_eq_true, decide_eq_true_eq] at h1
  refine cnd_iff.2 ⟨fun h2 => ?_, fun h2 hl => ?_⟩
  · have h2 : (f.2.2.length : Int) = 0 := by simpa using h2
    rw [if_pos (by omega)] at h; exact h
  have h2 : ¬ f.2.2.length = 0 := by
    intro hh
    rw [hh] at h2
    simp at h2
  rw [if_neg h2] at h
  refine forUp2 hl (fun k => (widenK f more k).1) (fun k => (widenK f more k).2) rfl rfl (fun k hk I μ hI hw => ?_) h
  refine ⟨by have := ho.n; show f.2.2.length ≤ 1000000; omega, ?_⟩
  have hg := ho.g _ (getD_mem (d := g0) hk)
  have w1 : IntKind.wrap .i64 ((f.2.2.getD k g0).1.1 + more) = (f.2.2.getD k g0).1.1 + more := wrapS (by omega) (by omega)
  have w2 : IntKind.wrap .i64 ((f.2.2.getD k g0).1.2 + more) = (f.2.2.getD k g0).1.2 + more := wrapS (by omega) (by omega)
  have hset : ∀ a : Gap, (f.2.2.set k a).getD k g0 = a := fun a => by rw [getD_lt (by simpa using hk)]; simp
  obtain ⟨L1, hL1⟩ : ∃ L, L = f.2.2.set (Int.toNat (k : Int)) ((IntKind.wrap .i64 ((f.2.2.getD (Int.toNat (k : Int)) g0).1.1 + more), (f.2.2.getD (Int.toNat (k : Int)) g0).1.2), (f.2.2.getD (Int.toNat (k : Int)) g0).2.1, (f.2.2.getD (Int.toNat (k : Int)) g0).2.2) := ⟨_, rfl⟩
  have hLl : L1.length = f.2.2.length := by rw [hL1]; simp
  have hLk : L1.getD k g0 = ((IntKind.wrap .i64 ((f.2.2.getD k g0).1.1 + more), (f.2.2.getD k g0).1.2), (f.2.2.getD k g0).2.1, (f.2.2.getD k g0).2.2) := by
    rw [hL1]; exact hset _
  have e2 : L1.set (Int.toNat (k : Int)) (((L1.getD (Int.toNat (k : Int)) g0).1.1, IntKind.wrap .i64 ((L1.getD (Int.toNat (k : Int)) g0).1.2 + more)), (L1.getD (Int.toNat (k : Int)) g0).2.1, (L1.getD (Int.toNat (k : Int)) g0).2.2) = f.2.2.set k (wideG (f.2.2.getD k g0) more) := by
    rw [show Int.toNat (k : Int) = k from rfl, hLk]
    dsimp only
    rw [w1, w2, hL1, show Int.toNat (k : Int) = k from rfl, set_set]
    rfl
  have hwide := wide_ok ho hk h1.1 h1.2
  rw [widenK_succ] at hI
  change _ ∧ _
  rw [hw, ← hL1]
  refine ⟨by omega, by omega, by omega, by omega, by omega, by rw [hLl]; omega, by omega, by rw [hLl]; omega, ?_⟩
  refine (congrArg (fun L => f45_wp ((f.1.1, f.1.2), (f.2.1.1, f.2.1.2), L) () _) e2).mpr ?_
  refine ⟨hwide, ?_⟩
  show cnd (decide (degF (lowT (wideF f k more)) > (widenK f more k).2)) _ _
  refine cnd_iff.2 ⟨fun c => ?_, fun c => ?_⟩
  · rw [if_pos (of_decide_eq_true c)] at hI; exact hI
  · rw [if_neg (of_decide_eq_false c)] at hI; exact hI
theorem one_ok {f : Fan} (h : FanOK f) {i : Nat} (hi : i < f.2.2.length) : FanOK (oneF f i) := by
  refine ⟨by show 1 ≤ 50; omega, h.far, h.near, fun g hg => ?_⟩
  have : g = f.2.2.getD i g0 := by simpa [oneF] using hg
  rw [this]; exact h.g _ (getD_mem hi)
theorem p54 {i : Int} {f : Fan} {Q : Turn → Prop} (h : f54_wp i (f, ()) Q) : V54 i f Q := by
  obtain ⟨⟨ho, h1, h2⟩, h⟩ := h
  have ho : FanOK f := ho
  have h2 : i < (f.2.2.length : Int) := h2
  have hn := ho.n
  obtain ⟨k, rfl⟩ := Int.eq_ofNat_of_zero_le h1
  have hk : k < f.2.2.length := by omega
  have hw : IntKind.wrap .i64 ((k : Int) + 1) = k + 1 := wrapS (by omega) (by omega)
  have e : (f.2.2.take (Int.toNat ((k : Int) + 1))).drop (Int.toNat (k : Int)) = [f.2.2.getD k g0] := by
    rw [show Int.toNat ((k : Int) + 1) = k + 1 by omega, show Int.toNat (k : Int) = k from rfl, take_succ_getD (d := g0) hk, List.drop_left' (by simp; omega)]
  refine ⟨_, rfl, by omega, by rw [hw]; omega, by rw [hw]; omega, lowT (oneF f k), ?_, h⟩
  rw [hw, e]
  exact ⟨fun s => s.1, fun s => s.2, ⟨fun x Q h => h, fun x Q h => h, low_end, high_end, one_ok ho hk⟩, rfl⟩
theorem p58 {ik : Int × Int} {g : Int → (Turn → Prop) → Prop} {Q : Int → Prop} (h : f58_wp ik (g, ()) Q) : V58 ik g Q := by
  obtain ⟨ang, ⟨h1, h2, h3, h4⟩, h⟩ := h
  exact ⟨_, h1 _ rfl, _, h2 _ rfl, _, ⟨⟨h4, h3⟩, rfl⟩, h⟩
theorem p62 {i : Int} {set : List Int} {Q : Bool → Prop} (h : f62_wp i (set, ()) Q) : V62 i set Q := h
theorem wo_ok {f : Fan} (h : FanOK f) (p : Int → Bool) : FanOK (woF p f) := by
  refine ⟨?_, h.far, h.near, fun g hg => h.g g (woK_mem p f.2.2 _ (Nat.le_refl _) g hg)⟩
  have := woK_length p f.2.2 f.2.2.length
  have := h.n
  show (woK p f.2.2 f.2.2.length).length ≤ 50
  omega
theorem p60 {set : List Int} {f : Fan} {seen : Span} {Q : Bool → Prop} (h : f60_wp set (f, seen, ()) Q) : V60 set f seen Q := by
  obtain ⟨ho, h⟩ := h
  have ho : FanOK f := ho
  refine ⟨woF (memF set) f, ⟨memF set, fun k _ R hR => hR, by have := ho.n; show f.2.2.length ≤ 1000000; omega, rfl⟩, opensF (woF (memF set) f), ⟨wo_ok ho _, rfl⟩, h⟩
theorem p66 {k i : Int} {Q : Bool → Prop} (h : f66_wp k (i, ()) Q) : V66 k i Q := h
theorem rep_ok {f : Fan} (h : FanOK f) {n : Nat} (hn : n ≤ 50) (hl : 0 < f.2.2.length) : FanOK (f.1, f.2.1, List.replicate n (f.2.2.getD 0 g0)) := by
  refine ⟨by show (List.replicate n _).length ≤ 50; simp; exact hn, h.far, h.near, fun g hg => ?_⟩
  rw [List.eq_of_mem_replicate hg]
  exact h.g _ (getD_mem hl)

theorem find_range {p : Nat → Bool} {n k : Nat} (hk : k < n) (hp : p k = true) (h : ∀ j, j < k → p j = false) : (List.range n).find? p = some k := by
  rw [List.find?_range_eq_some]
  exact ⟨hp, by simpa using hk, fun j hj => by rw [h j hj]; rfl⟩
theorem find_range_none {p : Nat → Bool} {n : Nat} (h : ∀ j, j < n → p j = false) : (List.range n).find? p = none := by
  rw [List.find?_eq_none]
  intro j hj
  rw [h j (List.mem_range.1 hj)]; simp
theorem p24 {f : Fan} {d : Int} {Q : Int × Int × Unit → Prop} (h : f24_wp (f, d, ()) () Q) : V24 f d Q := by
  have h : Q (sticksF f d) := h
  unfold sticksF at h
  show cnd (checkF f != 0) (Q (0, checkF f, ())) (cnd (!inB 0 360 d) (Q (0, 4, ())) _)
  refine cnd_iff.2 ⟨fun hc => ?_, fun hc => ?_⟩
  · rw [if_pos (bne0.1.1 hc)] at h; exact h
  have hc := bne0.2.1 hc
  rw [if_neg (by simpa using hc)] at h
  have ho := (checkF_ok.1 hc).fan
  refine cnd_iff.2 ⟨fun h1 => ?_, fun h1 _ => ?_⟩
  · rw [if_pos (by simpa using h1)] at h; exact h
  rw [if_neg (by simpa using h1)] at h
  refine cnd_iff.2 ⟨fun h2 => ?_, fun h2 => ?_⟩
  · have h2 : (f.2.2.length : Int) = 0 := by simpa using h2
    rw [if_pos (by omega)] at h; exact h
  have h2 : ¬ f.2.2.length = 0 := by
    intro hh
    rw [hh] at h2
    simp at h2
  rw [if_neg h2] at h
  refine forUpG (n := 41) (by omega) (fun k => ∀ j, j < k → stickOK f d j = false) (fun j hj => absurd hj (Nat.not_lt_zero _)) (fun k hk hg I μ hI hw => ?_) (fun hg => ?_)
  · have e : (f.2.2.take (Int.toNat 1)).drop (Int.toNat 0) = [f.2.2.getD 0 g0] := by
      show (f.2.2.take 1).drop 0 = _
      rw [List.drop_zero, take_succ_getD (d := g0) (k := 0) (by omega)]; rfl
    refine ⟨Int.le_refl _, by omega, by omega, List.replicate k (f.2.2.getD 0 g0), ?_, opensF (f.1, f.2.1, List.replicate k (f.2.2.getD 0 g0)), ⟨rep_ok ho (by omega) (by omega), rfl⟩, ?_⟩
    · rw [e]
      exact ⟨⟨rfl, by show (0 : Int) ≤ k; omega, by show (k : Int) ≤ 1000; omega⟩, rfl⟩
    · show cnd (stickOK f d k) _ _
      rw [hw]
      refine cnd_iff.2 ⟨fun c => ?_, fun c => hI fun j hj => ?_⟩
      · rw [find_range hk c hg] at h; exact h
      · rcases Nat.lt_succ_iff_lt_or_eq.1 hj with h3 | rfl
        · exact hg j h3
        · exact c
  · rw [find_range_none hg] at h; exact h
theorem arc_ok {f : Fan} (h : FanOK f) {a : Int} (h1 : 0 ≤ a) (h2 : a ≤ 2000) : FanOK (arcF f a) :=
  ⟨by show (f.2.2.map _).length ≤ 50; rw [List.length_map]; exact h.n, h.far, h.near, fun g hg => by
    obtain ⟨g', hg', rfl⟩ := List.mem_map.1 hg
    exact ⟨⟨⟨h1, h2⟩, ⟨h1, h2⟩⟩, (h.g g' hg').2⟩⟩
theorem p71 {a : Int} {f : Fan} {d : Int} {Q : Bool → Prop} (h : f71_wp a (f, d, ()) Q) : V71 a f d Q := by
  obtain ⟨⟨ho, h1, h2⟩, h⟩ := h
  have ho : FanOK f := ho
  have hn := ho.n
  refine ⟨by show f.2.2.length ≤ 1000000; omega, fun hl => ?_⟩
  refine forUp hl (fun k => (f.2.2.take k).map (fun g => (((a, a), g.2) : Gap)) ++ f.2.2.drop k) (by simp) (fun k hk I μ hI hw => ?_) ?_
  · have hlen : ((f.2.2.take k).map (fun g => (((a, a), g.2) : Gap)) ++ f.2.2.drop k).length = f.2.2.length := by simp; omega
    have hg : ((f.2.2.take k).map (fun g => (((a, a), g.2) : Gap)) ++ f.2.2.drop k).getD k g0 = f.2.2.getD k g0 := by
      rw [getD_drop (d := g0) hk, List.getD_eq_getElem?_getD, List.getElem?_append_right (by simp; omega), show k - ((f.2.2.take k).map (fun g => (((a, a), g.2) : Gap))).length = 0 by simp; omega]
      rfl
    have hs : ((f.2.2.take k).map (fun g => (((a, a), g.2) : Gap)) ++ f.2.2.drop k).set k ((a, a), (f.2.2.getD k g0).2) = (f.2.2.take (k + 1)).map (fun g => (((a, a), g.2) : Gap)) ++ f.2.2.drop (k + 1) := by
      rw [getD_drop (d := g0) hk, List.set_append_right _ _ (by simp; omega), show k - ((f.2.2.take k).map (fun g => (((a, a), g.2) : Gap))).length = 0 by simp; omega, take_succ_getD (d := g0) hk]
      simp
    refine ⟨by omega, by rw [hlen]; omega, ?_⟩
    rw [show Int.toNat (k : Int) = k from rfl, hg, hw]
    rw [← hs] at hI
    exact hI
  · have e : (f.2.2.take f.2.2.length).map (fun g => (((a, a), g.2) : Gap)) ++ f.2.2.drop f.2.2.length = f.2.2.map (fun g => (((a, a), g.2) : Gap)) := by simp
    rw [e]
    exact ⟨opensF (arcF f a), ⟨arc_ok ho h1 h2, rfl⟩, h⟩
theorem p26 {f : Fan} {d : Int} {Q : Int × Int × Unit → Prop} (h : f26_wp (f, d, ()) () Q) : V26 f d Q := by
  have h : Q (pleatF f d) := h
  unfold pleatF at h
  show cnd (checkF f != 0) (Q (0, checkF f, ())) (cnd (!inB 0 360 d) (Q (0, 4, ())) _)
  refine cnd_iff.2 ⟨fun hc => ?_, fun hc => ?_⟩
  · rw [if_pos (bne0.1.1 hc)] at h; exact h
  have hc := bne0.2.1 hc
  rw [if_neg (by simpa using hc)] at h
  have ho := (checkF_ok.1 hc).fan
  refine cnd_iff.2 ⟨fun h1 => ?_, fun h1 => ?_⟩
  · rw [if_pos (by simpa using h1)] at h; exact h
  rw [if_neg (by simpa using h1)] at h
  have mono : ∀ a b : Nat, a ≤ b → b ≤ 2000 → pleatOK f d a = true → pleatOK f d b = true := by
    intro a b hab hb hp
    have := of_decide_eq_true hp
    have h3 := arc_mono ho (a := (a : Int)) (b := (b : Int)) (by omega) (by omega) (by omega)
    exact decide_eq_true (by omega)
  refine ⟨fun x y => ∃ l m : Nat, x = l ∧ y = m ∧ l ≤ m ∧ m ≤ 1001 ∧ (∀ j, j < l → pleatOK f d j = false) ∧ (m ≤ 1000 → pleatOK f d m = true), fun x y => (y - x).toNat, ⟨0, 1001, rfl, rfl, by omega, by omega, fun j hj => absurd hj (Nat.not_lt_zero _), fun h => by omega⟩, ?_⟩
  rintro x y ⟨l, m, rfl, rfl, hlm, hm, hlo, hhi⟩
  refine cnd_iff.2 ⟨fun hx => ?_, fun hx => ?_⟩
  · have hx : (l : Int) < m := of_decide_eq_true hx
    have hw1 : IntKind.wrap .i64 ((l : Int) + m) = ((l + m : Nat) : Int) := by rw [wrapS (by omega) (by omega)]; push_cast; rfl
    have hw2 : IntKind.wrap .i64 (Int.tdiv ((l + m : Nat) : Int) 2) = (((l + m) / 2 : Nat) : Int) := by
      have : Int.tdiv ((l + m : Nat) : Int) 2 = (((l + m) / 2 : Nat) : Int) := rfl
      rw [this, wrapS (by omega) (by omega)]
    have hw3 : IntKind.wrap .i64 ((((l + m) / 2 : Nat) : Int) + 1) = (((l + m) / 2 + 1 : Nat) : Int) := by rw [wrapS (by omega) (by omega)]; push_cast; rfl
    rw [hw1, hw2, hw3]
    obtain ⟨q, hq⟩ : ∃ q, q = (l + m) / 2 := ⟨_, rfl⟩
    rw [← hq]
    refine ⟨by decide, cnd_iff.2 ⟨fun c => ?_, fun c => ⟨⟨ho, by show (0 : Int) ≤ q; omega, by show (q : Int) ≤ 2000; omega⟩, ?_⟩⟩⟩
    · have := of_decide_eq_true c; omega
    · show cnd (pleatOK f d q) _ _
      have c := of_decide_eq_false c
      refine cnd_iff.2 ⟨fun c2 => ⟨⟨l, q, rfl, rfl, by omega, by omega, hlo, fun _ => c2⟩, by show ((q : Int) - l).toNat < ((m : Int) - l).toNat; omega⟩, fun c2 => ⟨⟨q + 1, m, rfl, rfl, by omega, hm, fun j hj => ?_, hhi⟩, by show ((m : Int) - ((q + 1 : Nat) : Int)).toNat < ((m : Int) - l).toNat; omega⟩⟩
      cases hj2 : pleatOK f d j with
      | false => rfl
      | true => rw [mono j q (by omega) (by omega) hj2] at c2; cases c2
  · have hx : ¬ (l : Int) < m := of_decide_eq_false hx
    have : l = m := by omega
    subst this
    refine cnd_iff.2 ⟨fun c => ?_, fun c => ?_⟩
    · have c := of_decide_eq_true c
      rw [find_range_none (p := fun (a : Nat) => pleatOK f d (a : Int)) (fun j hj => hlo j (by omega))] at h; exact h
    · have c := of_decide_eq_false c
      rw [find_range (p := fun (a : Nat) => pleatOK f d (a : Int)) (k := l) (by omega) (hhi (by omega)) hlo] at h; exact h
end Go.Proofs.Rz
set_option linter.unusedVariables false
set_option maxRecDepth 100000
namespace Go.Proofs.Rz
open Go Go.GX Go.Proofs

theorem ints_succ (k : Nat) : ((List.range (k + 1)).map fun (i : Nat) => (i : Int)) = ((List.range k).map fun (i : Nat) => (i : Int)) ++ [(k : Int)] := by
  simp [List.range_succ]
theorem p21 {f : Fan} {seen : Span} {Q : List Int × Int × Unit → Prop} (h : f21_wp (f, seen, ()) () Q) : V21 f seen Q := by
  obtain ⟨hn, h⟩ := h
  have hn : checkF f = 0 → inB 0 360 seen.1 = true → inB 0 360 seen.2 = true → seen.1 ≤ seen.2 → f.2.2.length ≤ 12 := hn
  have h : Q (wrongF f seen) := h
  unfold wrongF at h
  show cnd (checkF f != 0) (Q ([], checkF f, ())) (cnd (!inB 0 360 seen.1) (Q ([], 4, ())) (cnd (!inB 0 360 seen.2) (Q ([], 4, ())) (cnd (decide (seen.1 > seen.2)) (Q ([], 4, ())) _)))
  refine cnd_iff.2 ⟨fun hc => ?_, fun hc => ?_⟩
  · rw [if_pos (bne0.1.1 hc)] at h; exact h
  have hc := bne0.2.1 hc
  rw [if_neg (by simpa using hc)] at h
  have ho := (checkF_ok.1 hc).fan
  refine cnd_iff.2 ⟨fun h1 => ?_, fun h1 => cnd_iff.2 ⟨fun h2 => ?_, fun h2 => cnd_iff.2 ⟨fun h3 => ?_, fun h3 => ?_⟩⟩⟩
  · rw [if_pos (Or.inl (by simpa using h1))] at h; exact h
  · rw [if_pos (Or.inr (Or.inl (by simpa using h2)))] at h; exact h
  · rw [if_pos (Or.inr (Or.inr (of_decide_eq_true h3)))] at h; exact h
  have h1 : inB 0 360 seen.1 = true := by simpa using h1
  have h2 : inB 0 360 seen.2 = true := by simpa using h2
  have h3 := of_decide_eq_false h3
  rw [if_neg (by rw [h1, h2]; simpa using h3)] at h
  have hn := hn hc h1 h2 (by omega)
  have hs : 0 ≤ seen.2 := by
    simp only [inB, Bool.and_eq_true, decide_eq_true_eq] at h2; omega
  refine ⟨ho, ?_⟩
  refine ⟨fun b => b = true ↔ (opensF f).1 ≤ seen.2 ∧ seen.1 ≤ (opensF f).2, ?_, ?_⟩
  · refine cnd_iff.2 ⟨fun c1 => ?_, fun c1 => ?_⟩
    · have c1 : (opensF f).1 ≤ seen.2 := of_decide_eq_true c1
      show decide (seen.1 ≤ (opensF f).2) = true ↔ _
      rw [decide_eq_true_iff]
      exact ⟨fun h => ⟨c1, h⟩, fun h => h.2⟩
    · have c1 : ¬ (opensF f).1 ≤ seen.2 := of_decide_eq_false c1
      exact ⟨fun h => by simp at h, fun h => absurd h.1 c1⟩
  intro b hb
  refine cnd_iff.2 ⟨fun c1 => ?_, fun c1 => ?_⟩
  · rw [if_pos (hb.1 c1)] at h; exact h
  intro hl
  rw [if_neg (fun hh => by rw [hb.2 hh] at c1; cases c1)] at h
  refine cnd_iff.2 ⟨fun c3 => ?_, fun c3 => cnd_iff.2 ⟨fun c4 => ?_, fun c4 => ?_⟩⟩
  · have c3 : (f.2.2.length : Int) = 0 := by simpa using c3
    rw [if_pos (by omega)] at h; exact h
  · have c3 : ¬ f.2.2.length = 0 := by
      intro hh
      rw [hh] at c3
      simp at c3
    have c4 : (opensF f).1 ≤ seen.2 := of_decide_eq_true c4
    rw [if_neg c3, if_pos c4] at h; exact h
  intro _
  have c1 : ¬ (opensF f).1 ≤ seen.2 := of_decide_eq_false c4
  have c3 : ¬ f.2.2.length = 0 := by
    intro hh
    rw [hh] at c3
    simp at c3
  rw [if_neg c3, if_neg c1] at h
  have hpos : 0 < f.2.2.length := by omega
  obtain ⟨m1, m2, m3, m4⟩ := many_spec ho hs hpos
  refine forUp hl (fun k => (List.range k).map fun (i : Nat) => (i : Int)) rfl (fun k hk I μ hI hw => ?_) ?_
  · rw [hw]
    rw [ints_succ] at hI
    refine ⟨?_, hI⟩
    simp only [List.length_map, List.length_range, List.length_cons, List.length_nil]
    omega
  refine ⟨fun i k => cmpT (lowT (oneF f k.toNat)) (lowT (oneF f i.toNat)), fun x hx y hy R hR => ?_, by simp; exact hn, ?_⟩
  · obtain ⟨i, hi, rfl⟩ := List.mem_map.1 hx
    obtain ⟨k, hk, rfl⟩ := List.mem_map.1 hy
    have hi := List.mem_range.1 hi
    have hk := List.mem_range.1 hk
    exact ⟨fun i => lowT (oneF f i.toNat), ⟨fun S hS => ⟨⟨ho, by show (0 : Int) ≤ k; omega, by show (k : Int) < (f.2.2.length : Int); omega⟩, hS⟩, fun S hS => ⟨⟨ho, by show (0 : Int) ≤ i; omega, by show (i : Int) < (f.2.2.length : Int); omega⟩, hS⟩, lowT_ok (one_ok ho hi), lowT_ok (one_ok ho hk)⟩, hR⟩
  show ∃ (I : Int → Prop) (μ : Int → Nat), _
  change ∃ (I : Int → Prop) (μ : Int → Nat), I 1 ∧ ∀ x, I x → 0 ≤ 0 ∧ 0 ≤ x ∧ x ≤ ((orderF f).length : Int) ∧ f60_wp (((orderF f).take (Int.toNat x)).drop (Int.toNat 0)) (f, seen, ()) _
  refine ⟨fun x => ∃ m : Nat, x = m ∧ 1 ≤ m ∧ m ≤ manyF f seen, fun x => (manyF f seen - x).toNat, ⟨1, rfl, by omega, m1⟩, ?_⟩
  rintro x ⟨m, rfl, hm1, hm2⟩
  have hol := order_length f
  refine ⟨by omega, by omega, by omega, ho, ?_⟩
  change cnd (!enoughF f seen (((orderF f).take m).drop 0)) _ _
  rw [List.drop_zero]
  have hw : IntKind.wrap .i64 ((m : Int) + 1) = ((m + 1 : Nat) : Int) := by rw [wrapS (by omega) (by omega)]; push_cast; rfl
  rw [hw]
  refine cnd_iff.2 ⟨fun c => ?_, fun c => ?_⟩
  · have c : enoughF f seen ((orderF f).take m) = false := by simpa using c
    have hlt : m < manyF f seen := by
      rcases Nat.lt_or_ge m (manyF f seen) with h | h
      · exact h
      · have : m = manyF f seen := by omega
        rw [this, m3] at c; cases c
    exact ⟨⟨m + 1, rfl, by omega, hlt⟩, by show ((manyF f seen : Int) - ((m + 1 : Nat) : Int)).toNat < ((manyF f seen : Int) - (m : Int)).toNat; omega⟩
  have c : enoughF f seen ((orderF f).take m) = true := by simpa using c
  have hm : m = manyF f seen := by
    rcases Nat.lt_or_ge m (manyF f seen) with h | h
    · rw [m4 m hm1 h] at c; cases c
    · omega
  subst hm
  refine ⟨fun set x => ∃ i : Nat, x = i ∧ i ≤ f.2.2.length ∧ set = setK f seen i, fun _ x => (f.2.2.length - x).toNat, ⟨0, rfl, Nat.zero_le _, rfl⟩, ?_⟩
  rintro set x ⟨i, rfl, hi, rfl⟩ hsl
  have hg := greed_all ho hs hpos i hi
  refine cnd_iff.2 ⟨fun d => ?_, fun d => ?_⟩
  rotate_left
  · have d := of_decide_eq_false d
    have := hg.le
    rw [setK_done (i := i) (by omega) _ hi] at h
    exact h
  have d := of_decide_eq_true d
  have hi : i < f.2.2.length := by
    rcases Nat.lt_or_ge i f.2.2.length with h | h
    · exact h
    · have : i = f.2.2.length := by omega
      have := (set_spec ho hs hpos).1
      rename_i e
      rw [← e] at this
      omega
  refine ⟨by show (orderF f).length ≤ 1000000; omega, fun k => decide (k ≤ (i : Int)), fun k _ R hR => hR, by show (orderF f).length ≤ 1000000; omega, ?_⟩
  intro _
  change cnd (decide (IntKind.wrap .i64 (IntKind.wrap .i64 ((manyF f seen : Int) - ((setK f seen i).length : Int)) - 1) ≤ ((restF f i).length : Int))) _ _
  have w1 : IntKind.wrap .i64 ((i : Int) + 1) = ((i + 1 : Nat) : Int) := by rw [wrapS (by omega) (by omega)]; push_cast; rfl
  have w2 : IntKind.wrap .i64 (IntKind.wrap .i64 ((manyF f seen : Int) - ((setK f seen i).length : Int)) - 1) = ((manyF f seen - (setK f seen i).length - 1 : Nat) : Int) := by
    rw [wrapS (x := (manyF f seen : Int) - ((setK f seen i).length : Int)) (by omega) (by omega), wrapS (by omega) (by omega)]; omega
  have hsucc := setK_succ f seen i
  rw [w2, w1]
  obtain ⟨q, hq⟩ : ∃ q, q = manyF f seen - (setK f seen i).length - 1 := ⟨_, rfl⟩
  rw [← hq]
  have hrl : (restF f i).length ≤ f.2.2.length := by
    rw [← hol]; exact List.length_filter_le _ _
  refine cnd_iff.2 ⟨fun d2 => ?_, fun d2 => ?_⟩
  · have d2 := of_decide_eq_true d2
    refine ⟨Int.le_refl _, by omega, d2, setK f seen i ++ ((i : Int) :: (restF f i).take q), ?_, nextB f seen (setK f seen i) i, ?_, ?_⟩
    · refine ⟨⟨100, by omega, fun y hy => ?_⟩, by simp, ?_⟩
      · simp only [List.mem_cons, List.not_mem_nil, or_false] at hy
        rcases hy with rfl | rfl | rfl
        · omega
        · simp
        · show (List.drop 0 ((restF f i).take q)).length ≤ 100
          rw [List.drop_zero, List.length_take]; omega
      · show List.flatten [setK f seen i, [(i : Int)], List.drop 0 ((restF f i).take q)] = _
        simp
    · refine ⟨ho, ?_⟩
      show enoughF f seen _ = _
      unfold nextB
      rw [← hq, decide_eq_true (show q ≤ (restF f i).length by omega)]
      rfl
    · refine cnd_iff.2 ⟨fun d3 => ?_, fun d3 => ?_⟩
      · rw [if_pos ⟨by omega, d3⟩] at hsucc
        refine ⟨by simp only [List.length_cons, List.length_nil]; omega, ⟨i + 1, rfl, hi, hsucc.symm⟩, by show ((f.2.2.length : Int) - ((i + 1 : Nat) : Int)).toNat < ((f.2.2.length : Int) - (i : Int)).toNat; omega⟩
      · rw [if_neg (by rw [d3]; simp)] at hsucc
        exact ⟨⟨i + 1, rfl, hi, hsucc.symm⟩, by show ((f.2.2.length : Int) - ((i + 1 : Nat) : Int)).toNat < ((f.2.2.length : Int) - (i : Int)).toNat; omega⟩
  · have d2 := of_decide_eq_false d2
    rw [if_neg (fun hh => by
      have := hh.2
      simp only [nextB, Bool.and_eq_true, decide_eq_true_eq] at this
      omega)] at hsucc
    exact ⟨⟨i + 1, rfl, hi, hsucc.symm⟩, by show ((f.2.2.length : Int) - ((i + 1 : Nat) : Int)).toNat < ((f.2.2.length : Int) - (i : Int)).toNat; omega⟩
end Go.Proofs.Rz
set_option linter.unusedVariables false
set_option maxRecDepth 100000
namespace Go.Proofs.Rz
open Go Go.GX Go.Proofs

theorem isSpan_iff {s : Span} {lo hi : Int} : isSpanF s lo hi = true ↔ lo ≤ s.1 ∧ s.1 ≤ s.2 ∧ s.2 ≤ hi := by
  simp only [isSpanF, inB, Bool.and_eq_true, decide_eq_true_eq]; omega
theorem isStick_iff {s : Stick} : isStickF s = true ↔ (1 ≤ s.1.1 ∧ s.1.1 ≤ s.1.2 ∧ s.1.2 ≤ 10000) ∧ (1 ≤ s.2.1.1 ∧ s.2.1.1 ≤ s.2.1.2 ∧ s.2.1.2 ≤ 100) ∧ 0 ≤ s.2.2 ∧ s.2.2 ≤ 5000 := by
  unfold isStickF
  rw [Bool.and_eq_true, Bool.and_eq_true, isSpan_iff, isSpan_iff]
  simp only [inB, Bool.and_eq_true, decide_eq_true_eq]
  exact ⟨fun ⟨⟨a, b⟩, c⟩ => ⟨a, b, c⟩, fun ⟨a, b, c⟩ => ⟨⟨a, b⟩, c⟩⟩
theorem closedE_ok {l : List Stick} : closedE l = 0 ↔ SticksOK l := by
  unfold closedE
  by_cases h1 : 12 < l.length
  · rw [if_pos h1]
    exact ⟨fun h => (by cases h), fun h => (by have := h.n; omega)⟩
  · rw [if_neg h1]
    by_cases h2 : l.all isStickF = false
    · rw [if_pos h2]
      refine ⟨fun h => (by cases h), fun h => ?_⟩
      have : l.all isStickF = true := List.all_eq_true.2 fun s hs => isStick_iff.2 (h.s s hs)
      rw [this] at h2; cases h2
    · rw [if_neg h2]
      have h2 : l.all isStickF = true := by simpa using h2
      exact ⟨fun _ => ⟨by omega, fun s hs => isStick_iff.1 (List.all_eq_true.1 h2 s hs)⟩, fun _ => rfl⟩
theorem p101 {s : Stick} {Q : Bool → Prop} (h : f101_wp s () Q) : V101 s Q := by
  have h : Q (isStickF s) := h
  unfold isStickF at h
  show cnd (isSpanF s.1 1 10000) (cnd (isSpanF s.2.1 1 100) (Q ([s.2.2].all (inB 0 5000))) (Q false)) (Q false)
  rw [all_one]
  refine cnd_iff.2 ⟨fun h1 => cnd_iff.2 ⟨fun h2 => ?_, fun h2 => ?_⟩, fun h1 => ?_⟩
  · rw [h1, h2] at h; exact h
  · rw [h1, h2] at h; exact h
  · rw [h1] at h; exact h
theorem p100 {s : Stick} {Q : Bool → Prop} (h : f100_wp s () Q) : V100 s Q := h
theorem p102 {a b : Span} {Q : Span → Prop} (h : f102_wp (a, b, ()) () Q) : V102 a b Q := by
  obtain ⟨⟨⟨h1, h2⟩, h3, h4⟩, h⟩ := h
  unfold inR at h1 h2 h3 h4
  have e1 : IntKind.wrap .i64 (a.1 + b.1) = a.1 + b.1 := wrapS (by dsimp only at *; omega) (by dsimp only at *; omega)
  have e2 : IntKind.wrap .i64 (a.2 + b.2) = a.2 + b.2 := wrapS (by dsimp only at *; omega) (by dsimp only at *; omega)
  show Q (IntKind.wrap .i64 (a.1 + b.1), IntKind.wrap .i64 (a.2 + b.2))
  rw [e1, e2]; exact h
theorem sumW_succ (l : List Stick) (k : Nat) : sumW l (k + 1) = ((sumW l k).1 + (l.getD k s0).1.1, (sumW l k).2 + (l.getD k s0).1.2) := by
  unfold sumW; rw [foldl_succ]
theorem sumT_succ (l : List Stick) (k : Nat) : sumT l (k + 1) = ((sumT l k).1 + (l.getD k s0).2.1.1, (sumT l k).2 + (l.getD k s0).2.1.2) := by
  unfold sumT; rw [foldl_succ]
theorem sumW_le {l : List Stick} (h : SticksOK l) : ∀ k, k ≤ l.length → (0 ≤ (sumW l k).1 ∧ (sumW l k).1 ≤ 10000 * k) ∧ 0 ≤ (sumW l k).2 ∧ (sumW l k).2 ≤ 10000 * k
  | 0, _ => ⟨⟨Int.le_refl _, Int.le_refl _⟩, Int.le_refl _, Int.le_refl _⟩
  | k + 1, hk => by
    have := sumW_le h k (by omega)
    have := h.s _ (getD_mem (d := s0) (show k < l.length from hk))
    rw [sumW_succ]; dsimp only; push_cast; omega
theorem sumT_le {l : List Stick} (h : SticksOK l) : ∀ k, k ≤ l.length → (0 ≤ (sumT l k).1 ∧ (sumT l k).1 ≤ 100 * k) ∧ 0 ≤ (sumT l k).2 ∧ (sumT l k).2 ≤ 100 * k
  | 0, _ => ⟨⟨Int.le_refl _, Int.le_refl _⟩, Int.le_refl _, Int.le_refl _⟩
  | k + 1, hk => by
    have := sumT_le h k (by omega)
    have := h.s _ (getD_mem (d := s0) (show k < l.length from hk))
    rw [sumT_succ]; dsimp only; push_cast; omega
theorem any_not_all {α : Type} (l : List α) (p : α → Bool) : (l.any fun x => !p x) = !l.all p := by
  induction l with
  | nil => rfl
  | cons x r ih => rw [List.any_cons, List.all_cons, ih, Bool.not_and]
theorem p77 {l : List Stick} {Q : Span × Span × Int × Unit → Prop} (h : f77_wp l () Q) : V77 l Q := by
  have h : Q (closedF l) := h
  intro hl
  refine cnd_iff.2 ⟨fun c => ?_, fun c => ?_⟩
  · have c : (l.length : Int) > 12 := of_decide_eq_true c
    have e : closedE l = 5 := by unfold closedE; rw [if_pos (by omega)]
    unfold closedF at h
    rw [e] at h; exact h
  have c : ¬ (l.length : Int) > 12 := of_decide_eq_false c
  refine ⟨fun s => !isStickF s, fun x _ R hR => hR, ?_⟩
  change cnd (l.any fun s => !isStickF s) _ _
  rw [any_not_all]
  refine cnd_iff.2 ⟨fun c2 => ?_, fun c2 => ?_⟩
  · have c2 : l.all isStickF = false := by simpa using c2
    have e : closedE l = 2 := by unfold closedE; rw [if_neg (by omega), if_pos c2]
    unfold closedF at h
    rw [e] at h; exact h
  have c2 : l.all isStickF = true := by
    rw [Bool.not_eq_false'] at c2; exact c2
  have e : closedE l = 0 := by unfold closedE; rw [if_neg (by omega), if_neg (by rw [c2]; simp)]
  have ho := closedE_ok.1 e
  unfold closedF at h
  rw [if_neg (by omega)] at h
  intro _
  refine forUp2 hl (fun k => sumW l k) (fun k => sumT l k) rfl rfl (fun k hk I μ hI hw => ?_) h
  have a1 := sumW_le ho k (by omega)
  have a2 := sumT_le ho k (by omega)
  have a3 := h
  have a4 := ho.s _ (getD_mem (d := s0) hk)
  have a5 := ho.n
  rw [sumW_succ, sumT_succ] at hI
  refine ⟨by omega, by omega, _, ⟨⟨⟨by show inR _ _ (sumW l k).1; unfold inR; omega, by show inR _ _ (sumW l k).2; unfold inR; omega⟩, by show inR _ _ (l.getD k s0).1.1; unfold inR; omega, by show inR _ _ (l.getD k s0).1.2; unfold inR; omega⟩, rfl⟩, _, ⟨⟨⟨by show inR _ _ (sumT l k).1; unfold inR; omega, by show inR _ _ (sumT l k).2; unfold inR; omega⟩, by show inR _ _ (l.getD k s0).2.1.1; unfold inR; omega, by show inR _ _ (l.getD k s0).2.1.2; unfold inR; omega⟩, rfl⟩, ?_⟩
  rw [hw]
  exact hI
theorem cenK_succ (l : List Stick) (e : Nat → Span → Int) (k : Nat) : cenK l e (k + 1) = ((cenK l e k).1 + e k (l.getD k s0).1 * (l.getD k s0).2.2, (cenK l e k).2 + e k (l.getD k s0).1) := by
  unfold cenK; rw [foldl_succ]
theorem cen_le {l : List Stick} {e : Nat → Span → Int} (h : ∀ i s, s ∈ l → (0 ≤ e i s.1 ∧ e i s.1 ≤ 10000) ∧ 0 ≤ s.2.2 ∧ s.2.2 ≤ 5000) : ∀ k, k ≤ l.length → (0 ≤ (cenK l e k).1 ∧ (cenK l e k).1 ≤ 50000000 * k) ∧ 0 ≤ (cenK l e k).2 ∧ (cenK l e k).2 ≤ 10000 * k
  | 0, _ => ⟨⟨Int.le_refl _, Int.le_refl _⟩, Int.le_refl _, Int.le_refl _⟩
  | k + 1, hk => by
    have h1 := cen_le h k (by omega)
    have h2 := h k _ (getD_mem (d := s0) (show k < l.length from hk))
    have h3 := mulB h2.1.1 h2.1.2 h2.2.1 h2.2.2
    rw [cenK_succ]; dsimp only; push_cast; omega
theorem cen_pos {l : List Stick} {e : Nat → Span → Int} (h : ∀ i s, s ∈ l → 1 ≤ e i s.1) : ∀ k, k ≤ l.length → k ≤ (cenK l e k).2
  | 0, _ => Int.le_refl _
  | k + 1, hk => by
    have h1 := cen_pos h k (by omega)
    have h2 := h k _ (getD_mem (d := s0) (show k < l.length from hk))
    rw [cenK_succ]; dsimp only; push_cast; omega
theorem end_range {p : Span → Int} (h : IsEnd p) {s : Span} {lo hi : Int} (h1 : lo ≤ s.1 ∧ s.1 ≤ hi) (h2 : lo ≤ s.2 ∧ s.2 ≤ hi) : lo ≤ p s ∧ p s ≤ hi := by
  rcases h with h | h
  · rw [h]; exact h1
  · rw [h]; exact h2
theorem p81 {l : List Stick} {first : Int} {p q : Span → (Int → Prop) → Prop} {Q : Int × Int × Unit → Prop} (h : f81_wp (l, first, p, q, ()) () Q) : V81 l first p q Q := by
  obtain ⟨p', q', ⟨hp, hq, ep, eq, hn, hs⟩, h⟩ := h
  have hp : SaysA p p' := hp
  have hq : SaysA q q' := hq
  have hn : l.length ≤ 12 := hn
  intro hl
  have hb : ∀ i s, s ∈ l → (0 ≤ endF first p' q' i s.1 ∧ endF first p' q' i s.1 ≤ 10000) ∧ 0 ≤ s.2.2 ∧ s.2.2 ≤ 5000 := fun i s hh => by
    have := hs s hh
    refine ⟨?_, this.2⟩
    unfold endF
    split
    · exact end_range ep this.1.1 this.1.2
    · exact end_range eq this.1.1 this.1.2
  refine forUp2 hl (fun k => (cenK l (endF first p' q') k).1) (fun k => (cenK l (endF first p' q') k).2) rfl rfl (fun k hk I μ hI hw => ?_) h
  have b1 := cen_le hb k (by omega)
  have b2 := hb k _ (getD_mem (d := s0) hk)
  have b3 := mulB b2.1.1 b2.1.2 b2.2.1 b2.2.2
  rw [cenK_succ] at hI
  have w1 : IntKind.wrap .i64 (endF first p' q' k (l.getD k s0).1 * (l.getD k s0).2.2) = endF first p' q' k (l.getD k s0).1 * (l.getD k s0).2.2 := wrapS (by omega) (by omega)
  have w2 : IntKind.wrap .i64 ((cenK l (endF first p' q') k).1 + endF first p' q' k (l.getD k s0).1 * (l.getD k s0).2.2) = (cenK l (endF first p' q') k).1 + endF first p' q' k (l.getD k s0).1 * (l.getD k s0).2.2 := wrapS (by omega) (by omega)
  have w3 : IntKind.wrap .i64 ((cenK l (endF first p' q') k).2 + endF first p' q' k (l.getD k s0).1) = (cenK l (endF first p' q') k).2 + endF first p' q' k (l.getD k s0).1 := wrapS (by omega) (by omega)
  have key : ∀ r : Int, r = endF first p' q' k (l.getD k s0).1 → I (IntKind.wrap .i64 ((k : Int) + 1)) (IntKind.wrap .i64 ((cenK l (endF first p' q') k).1 + IntKind.wrap .i64 (r * (l.getD k s0).2.2))) (IntKind.wrap .i64 ((cenK l (endF first p' q') k).2 + r)) ∧ μ (IntKind.wrap .i64 ((k : Int) + 1)) (IntKind.wrap .i64 ((cenK l (endF first p' q') k).1 + IntKind.wrap .i64 (r * (l.getD k s0).2.2))) (IntKind.wrap .i64 ((cenK l (endF first p' q') k).2 + r)) < μ k (cenK l (endF first p' q') k).1 (cenK l (endF first p' q') k).2 := by
    rintro r rfl
    rw [w1, w2, w3, hw]
    exact hI
  refine ⟨by omega, by omega, cnd_iff.2 ⟨fun c => ?_, fun c => ?_⟩⟩
  · have c : (k : Int) < first := of_decide_eq_true c
    have e : endF first p' q' k (l.getD k s0).1 = p' (l.getD k s0).1 := by unfold endF; rw [if_pos c]
    exact ⟨_, hp _ _ rfl, _, hp _ _ rfl, key _ e.symm⟩
  · have c : ¬ (k : Int) < first := of_decide_eq_false c
    have e : endF first p' q' k (l.getD k s0).1 = q' (l.getD k s0).1 := by unfold endF; rw [if_neg c]
    exact ⟨_, hq _ _ rfl, _, hq _ _ rfl, key _ e.symm⟩
theorem gcd_emod {x y : Int} (hx : 0 ≤ x) (hy : 0 ≤ y) : Int.gcd y (x % y) = Int.gcd x y := by
  obtain ⟨a, rfl⟩ := Int.eq_ofNat_of_zero_le hx
  obtain ⟨b, rfl⟩ := Int.eq_ofNat_of_zero_le hy
  show Nat.gcd b (a % b) = Nat.gcd a b
  rw [Nat.gcd_comm a b, Nat.gcd_rec b a, Nat.gcd_comm]
theorem V49_of {num den : Int} {Q : Ratio → Prop} (h : f84_wp (num, den, ()) () Q) : V84 num den Q := by
  obtain ⟨⟨h1, h2, h3, h4⟩, h⟩ := h
  have h1 : 0 ≤ num := h1
  have h2 : num ≤ 1000000000000 := h2
  have h3 : 1 ≤ den := h3
  have h4 : den ≤ 1000000000000 := h4
  refine ⟨fun x y => 0 ≤ x ∧ 0 ≤ y ∧ Int.gcd x y = Int.gcd num den, fun _ y => y.toNat, ⟨h1, by omega, rfl⟩, ?_⟩
  rintro x y ⟨hx, hy, hg⟩
  refine cnd_iff.2 ⟨fun c => ?_, fun c => ?_⟩
  · have c := bne0.1.1 c
    have e : Int.tmod x y = x % y := Int.tmod_eq_emod_of_nonneg hx
    have hm1 : 0 ≤ x % y := Int.emod_nonneg _ c
    have hm2 : x % y < y := Int.emod_lt_of_pos _ (by omega)
    rw [e]
    refine ⟨c, ⟨hy, hm1, ?_⟩, by show (x % y).toNat < y.toNat; omega⟩
    rw [← hg, Int.gcd_comm, Int.gcd_comm x y]
    rw [Int.gcd_comm y x, Int.gcd_comm (x % y) y]
    exact gcd_emod hx hy
  · have c := bne0.2.1 c
    subst c
    have hxg : x = (Int.gcd num den : Int) := by
      rw [← hg, Int.gcd_zero_right]; omega
    have hpos : 0 < Int.gcd num den := Int.gcd_pos_of_ne_zero_right _ (by omega)
    rw [hxg]
    have d1 := Int.ediv_le_self (Int.gcd num den : Int) h1
    have d2 := Int.ediv_le_self (a := den) (Int.gcd num den : Int) (by omega)
    have d3 : 0 ≤ num / (Int.gcd num den : Int) := Int.ediv_nonneg h1 (by omega)
    have d4 : 0 ≤ den / (Int.gcd num den : Int) := Int.ediv_nonneg (by omega) (by omega)
    rw [Int.tdiv_eq_ediv_of_nonneg h1, Int.tdiv_eq_ediv_of_nonneg (by omega), wrapS (by omega) (by omega), wrapS (by omega) (by omega)]
    exact ⟨by omega, by omega, h⟩
theorem p84 {num den : Int} {Q : Ratio → Prop} (h : f84_wp (num, den, ()) () Q) : V84 num den Q := V49_of h
theorem p80 {ab : Stick × Stick} {Q : Int → Prop} (h : f80_wp ab () Q) : V80 ab Q := by
  obtain ⟨⟨h1, h2⟩, h⟩ := h
  unfold inR at h1 h2
  show Q (IntKind.wrap .i64 (ab.1.2.2 - ab.2.2.2))
  rw [wrapS (by omega) (by omega)]
  exact h
end Go.Proofs.Rz
set_option linter.unusedVariables false
set_option maxRecDepth 100000
namespace Go.Proofs.Rz
open Go Go.GX Go.Proofs

def V18 (n : Int) (lo : Int) (hi : Int) (Q : Bool → Prop) : Prop :=
  cnd (decide (n ≥ lo)) (Q (decide (n ≤ hi))) (Q false)
theorem v18 (n : Int) (lo : Int) (hi : Int) (Q : Bool → Prop) : V18 n lo hi Q = vcFunc (S1 [] [] [] []) f18_ct.own f18_ct.fresh no_an Tryz.f18 (bodyOf Tryz.f18) f18_ct.A f18_ct.C f18_ct.R (n, lo, hi, ()) () Q := by kernel_rfl

def V46 (s : Int × Int) (lo : Int) (hi : Int) (Q : Bool → Prop) : Prop :=
  f18_wp (Prod.fst s, lo, Prod.snd s, ()) () fun (r : Bool) ↦ cnd r (Q (decide (Prod.snd s ≤ hi))) (Q false)
theorem v46 (s : Int × Int) (lo : Int) (hi : Int) (Q : Bool → Prop) : V46 s lo hi Q = vcFunc (S1 [(18, f18_ct)] [] [] []) f46_ct.own f46_ct.fresh no_an Tryz.f46 (bodyOf Tryz.f46) f46_ct.A f46_ct.C f46_ct.R (s, lo, hi, ()) () Q := by kernel_rfl

def V14 (f : (Int × Int) × (Int × Int) × List ((Int × Int) × Int × Int)) (Q : Int → Prop) : Prop :=
  f46_wp ((Prod.fst (Prod.fst f), Prod.snd (Prod.fst f)), (1 : Int), (5000 : Int), ()) () fun (r : Bool) ↦
    cnd (!r) (Q (3 : Int))
      (f46_wp ((Prod.fst (Prod.fst (Prod.snd f)), Prod.snd (Prod.fst (Prod.snd f))), (1 : Int), (5000 : Int), ()) () fun (r : Bool) ↦
        cnd (!r) (Q (3 : Int))
          (cnd (decide (Prod.snd (Prod.fst (Prod.snd f)) ≥ Prod.fst (Prod.fst f))) (Q (3 : Int))
            (List.length (Prod.snd (Prod.snd f)) ≤ (9223372036854775807 : Nat) →
              cnd (decide ((↑(List.length (Prod.snd (Prod.snd f))) : Int) > (40 : Int))) (Q (5 : Int))
                (∃ (I : Int → Prop),
                  ∃ (μ : Int → Nat),
                    I (0 : Int) ∧
                      ∀ (x : Int),
                        I x →
                          List.length (Prod.snd (Prod.snd f)) ≤ (9223372036854775807 : Nat) →
                            cnd (decide (x < (↑(List.length (Prod.snd (Prod.snd f))) : Int)))
                              ((0 : Int) ≤ x ∧
                                x < (↑(List.length (Prod.snd (Prod.snd f))) : Int) ∧
                                  f46_wp
                                    ((Prod.fst
                                          (Prod.fst (List.getD (Prod.snd (Prod.snd f)) (Int.toNat x) (((0 : Int), (0 : Int)), (0 : Int), (0 : Int)))),
                                        Prod.snd
                                          (Prod.fst (List.getD (Prod.snd (Prod.snd f)) (Int.toNat x) (((0 : Int), (0 : Int)), (0 : Int), (0 : Int))))),
                                      (0 : Int), (1000 : Int), ())
                                    () fun (r : Bool) ↦
                                    cnd (!r) (Q (2 : Int))
                                      ((0 : Int) ≤ x ∧
                                        x < (↑(List.length (Prod.snd (Prod.snd f))) : Int) ∧
                                          f46_wp
                                            ((Prod.fst
                                                  (Prod.snd
                                                    (List.getD (Prod.snd (Prod.snd f)) (Int.toNat x) (((0 : Int), (0 : Int)), (0 : Int), (0 : Int)))),
                                                Prod.snd
                                                  (Prod.snd
                                                    (List.getD (Prod.snd (Prod.snd f)) (Int.toNat x) (((0 : Int), (0 : Int)), (0 : Int), (0 : Int))))),
                                              (0 : Int), (500 : Int), ())
                                            () fun (r : Bool) ↦
                                            cnd (!r) (Q (2 : Int))
                                              (I (IntKind.wrap IntKind.i64 (x + (1 : Int))) ∧ μ (IntKind.wrap IntKind.i64 (x + (1 : Int))) < μ x)))
                              (Q (0 : Int))))))
theorem v14 (f : (Int × Int) × (Int × Int) × List ((Int × Int) × Int × Int)) (Q : Int → Prop) : V14 f Q = vcFunc (S1 [(46, f46_ct)] [] [] []) f14_ct.own f14_ct.fresh f14_an Tryz.f14 (bodyOf Tryz.f14) f14_ct.A f14_ct.C f14_ct.R f () Q := by kernel_rfl

def V11 (f : (Int × Int) × (Int × Int) × List ((Int × Int) × Int × Int)) (Q : (Int × Int) × (Int × Int) × List ((Int × Int) × Int × Int) → Prop) : Prop :=
  (List.length ([] : List ((Int × Int) × Int × Int)) + List.length (Prod.snd (Prod.snd f))) * (32 : Nat) ≤ (140737488355328 : Nat) ∧
    Q
      ((Prod.fst (Prod.fst f), Prod.snd (Prod.fst f)), (Prod.fst (Prod.fst (Prod.snd f)), Prod.snd (Prod.fst (Prod.snd f))),
        ([] : List ((Int × Int) × Int × Int)) ++ Prod.snd (Prod.snd f))
theorem v11 (f : (Int × Int) × (Int × Int) × List ((Int × Int) × Int × Int)) (Q : (Int × Int) × (Int × Int) × List ((Int × Int) × Int × Int) → Prop) : V11 f Q = vcFunc (S1 [] [] [] []) f11_ct.own f11_ct.fresh no_an Tryz.f11 (bodyOf Tryz.f11) f11_ct.A f11_ct.C f11_ct.R f () Q := by kernel_rfl

def V15 (a : (Int × Int) × (Int × Int) × List ((Int × Int) × Int × Int)) (b : (Int × Int) × (Int × Int) × List ((Int × Int) × Int × Int)) (Q : Bool → Prop) : Prop :=
  cnd (!(Prod.fst (Prod.fst a) == Prod.fst (Prod.fst b) && (Prod.snd (Prod.fst a) == Prod.snd (Prod.fst b) && true))) (Q false)
    (cnd
      (!(Prod.fst (Prod.fst (Prod.snd a)) == Prod.fst (Prod.fst (Prod.snd b)) &&
          (Prod.snd (Prod.fst (Prod.snd a)) == Prod.snd (Prod.fst (Prod.snd b)) && true)))
      (Q false)
      (List.length (Prod.snd (Prod.snd a)) ≤ (9223372036854775807 : Nat) →
        List.length (Prod.snd (Prod.snd b)) ≤ (9223372036854775807 : Nat) →
          cnd ((↑(List.length (Prod.snd (Prod.snd a))) : Int) != (↑(List.length (Prod.snd (Prod.snd b))) : Int)) (Q false)
            (∃ (I : Int → Prop),
              ∃ (μ : Int → Nat),
                I (0 : Int) ∧
                  ∀ (x : Int),
                    I x →
                      List.length (Prod.snd (Prod.snd a)) ≤ (9223372036854775807 : Nat) →
                        cnd (decide (x < (↑(List.length (Prod.snd (Prod.snd a))) : Int)))
                          ((0 : Int) ≤ x ∧
                            x < (↑(List.length (Prod.snd (Prod.snd a))) : Int) ∧
                              (0 : Int) ≤ x ∧
                                x < (↑(List.length (Prod.snd (Prod.snd b))) : Int) ∧
                                  cnd
                                    (!(Prod.fst
                                            (Prod.fst
                                              (List.getD (Prod.snd (Prod.snd a)) (Int.toNat x) (((0 : Int), (0 : Int)), (0 : Int), (0 : Int)))) ==
                                          Prod.fst
                                            (Prod.fst
                                              (List.getD (Prod.snd (Prod.snd b)) (Int.toNat x) (((0 : Int), (0 : Int)), (0 : Int), (0 : Int)))) &&
                                        (Prod.snd
                                              (Prod.fst
                                                (List.getD (Prod.snd (Prod.snd a)) (Int.toNat x) (((0 : Int), (0 : Int)), (0 : Int), (0 : Int)))) ==
                                            Prod.snd
                                              (Prod.fst
                                                (List.getD (Prod.snd (Prod.snd b)) (Int.toNat x) (((0 : Int), (0 : Int)), (0 : Int), (0 : Int)))) &&
                                          (Prod.fst
                                                (Prod.snd
                                                  (List.getD (Prod.snd (Prod.snd a)) (Int.toNat x) (((0 : Int), (0 : Int)), (0 : Int), (0 : Int)))) ==
                                              Prod.fst
                                                (Prod.snd
                                                  (List.getD (Prod.snd (Prod.snd b)) (Int.toNat x) (((0 : Int), (0 : Int)), (0 : Int), (0 : Int)))) &&
                                            (Prod.snd
                                                  (Prod.snd
                                                    (List.getD (Prod.snd (Prod.snd a)) (Int.toNat x) (((0 : Int), (0 : Int)), (0 : Int), (0 : Int)))) ==
                                                Prod.snd
                                                  (Prod.snd
                                                    (List.getD (Prod.snd (Prod.snd b)) (Int.toNat x) (((0 : Int), (0 : Int)), (0 : Int), (0 : Int)))) &&
                                              true)))))
                                    (Q false) (I (IntKind.wrap IntKind.i64 (x + (1 : Int))) ∧ μ (IntKind.wrap IntKind.i64 (x + (1 : Int))) < μ x))
                          (Q true))))
theorem v15 (a : (Int × Int) × (Int × Int) × List ((Int × Int) × Int × Int)) (b : (Int × Int) × (Int × Int) × List ((Int × Int) × Int × Int)) (Q : Bool → Prop) : V15 a b Q = vcFunc (S1 [] [] [] []) f15_ct.own f15_ct.fresh f15_an Tryz.f15 (bodyOf Tryz.f15) f15_ct.A f15_ct.C f15_ct.R (a, b, ()) () Q := by kernel_rfl

def V41 (a : List Int) (b : List Int) (Q : Bool → Prop) : Prop :=
  List.length a ≤ (9223372036854775807 : Nat) →
    List.length b ≤ (9223372036854775807 : Nat) →
      cnd ((↑(List.length a) : Int) != (↑(List.length b) : Int)) (Q false)
        (∃ (I : Int → Prop),
          ∃ (μ : Int → Nat),
            I (0 : Int) ∧
              ∀ (x : Int),
                I x →
                  List.length a ≤ (9223372036854775807 : Nat) →
                    cnd (decide (x < (↑(List.length a) : Int)))
                      ((0 : Int) ≤ x ∧
                        x < (↑(List.length a) : Int) ∧
                          (0 : Int) ≤ x ∧
                            x < (↑(List.length b) : Int) ∧
                              cnd (List.getD a (Int.toNat x) (0 : Int) != List.getD b (Int.toNat x) (0 : Int)) (Q false)
                                (I (IntKind.wrap IntKind.i64 (x + (1 : Int))) ∧ μ (IntKind.wrap IntKind.i64 (x + (1 : Int))) < μ x))
                      (Q true))
theorem v41 (a : List Int) (b : List Int) (Q : Bool → Prop) : V41 a b Q = vcFunc (S1 [] [] [] []) f41_ct.own f41_ct.fresh cmp_an Tryz.f41 (bodyOf Tryz.f41) f41_ct.A f41_ct.C f41_ct.R (a, b, ()) () Q := by kernel_rfl

def V23 (a : List Int) (b : List Int) (Q : Bool → Prop) : Prop :=
  List.length a ≤ (9223372036854775807 : Nat) →
    List.length b ≤ (9223372036854775807 : Nat) →
      cnd ((↑(List.length a) : Int) != (↑(List.length b) : Int)) (Q false)
        (∃ (I : Int → Prop),
          ∃ (μ : Int → Nat),
            I (0 : Int) ∧
              ∀ (x : Int),
                I x →
                  List.length a ≤ (9223372036854775807 : Nat) →
                    cnd (decide (x < (↑(List.length a) : Int)))
                      ((0 : Int) ≤ x ∧
                        x < (↑(List.length a) : Int) ∧
                          (0 : Int) ≤ x ∧
                            x < (↑(List.length b) : Int) ∧
                              cnd (List.getD a (Int.toNat x) (0 : Int) != List.getD b (Int.toNat x) (0 : Int)) (Q false)
                                (I (IntKind.wrap IntKind.i64 (x + (1 : Int))) ∧ μ (IntKind.wrap IntKind.i64 (x + (1 : Int))) < μ x))
                      (Q true))
theorem v23 (a : List Int) (b : List Int) (Q : Bool → Prop) : V23 a b Q = vcFunc (S1 [] [] [] []) f23_ct.own f23_ct.fresh cmp_an Tryz.f23 (bodyOf Tryz.f23) f23_ct.A f23_ct.C f23_ct.R (a, b, ()) () Q := by kernel_rfl

end Go.Proofs.Rz
set_option linter.unusedVariables false
set_option maxRecDepth 100000
namespace Go.Proofs.Rz
open Go Go.GX Go.Proofs

def goodR (r : Ratio) : Prop := (0 ≤ r.1 ∧ r.1 ≤ 600000000) ∧ 1 ≤ r.2 ∧ r.2 ≤ 120000
theorem cen_good {l : List Stick} (h : SticksOK l) (h0 : l.length ≠ 0) {e : Nat → Span → Int} (he : ∀ i s, e i s = s.1 ∨ e i s = s.2) : goodR (cenK l e l.length) := by
  have hr : ∀ i s, s ∈ l → 1 ≤ e i s.1 ∧ e i s.1 ≤ 10000 := fun i s hs => by
    have := h.s s hs
    rcases he i s.1 with h | h <;> rw [h] <;> omega
  have h1 := cen_le (l := l) (e := e) (fun i s hs => by have := hr i s hs; have := h.s s hs; omega) l.length (Nat.le_refl _)
  have h2 := cen_pos (l := l) (e := e) (fun i s hs => (hr i s hs).1) l.length (Nat.le_refl _)
  have := h.n
  unfold goodR; omega
theorem end_two {first : Int} {p q : Span → Int} (hp : IsEnd p) (hq : IsEnd q) (i : Nat) (s : Span) : endF first p q i s = s.1 ∨ endF first p q i s = s.2 := by
  unfold endF
  split
  · rcases hp with h | h
    · exact .inl (h s)
    · exact .inr (h s)
  · rcases hq with h | h
    · exact .inl (h s)
    · exact .inr (h s)
theorem sort_perm (l : List Stick) : (sortP l).Perm l := insSort_perm _ _
theorem sort_ok {l : List Stick} (h : SticksOK l) : SticksOK (sortP l) :=
  ⟨by rw [(sort_perm l).length_eq]; exact h.n, fun s hs => h.s s ((sort_perm l).mem_iff.1 hs)⟩
theorem hi_end : IsEnd hiE := .inr fun _ => rfl
theorem lo_end : IsEnd loE := .inl fun _ => rfl
theorem near_good {s : List Stick} (h : SticksOK s) (h0 : s.length ≠ 0) (i : Nat) : goodR (nearC s i) := cen_good h h0 (end_two hi_end lo_end)
theorem far_good {s : List Stick} (h : SticksOK s) (h0 : s.length ≠ 0) (i : Nat) : goodR (farC s i) := cen_good h h0 (end_two lo_end hi_end)
theorem balK_succ (s : List Stick) (k : Nat) : balK s (k + 1) = (if (nearC s k).1 * (balK s k).1.2 < (balK s k).1.1 * (nearC s k).2 then nearC s k else (balK s k).1, if (farC s k).1 * (balK s k).2.2 > (balK s k).2.1 * (farC s k).2 then farC s k else (balK s k).2) := by
  unfold balK; rw [foldl_succ]
theorem balK_good {s : List Stick} (h : SticksOK s) (h0 : s.length ≠ 0) : ∀ k, goodR (balK s k).1 ∧ goodR (balK s k).2
  | 0 => ⟨near_good h h0 0, near_good h h0 0⟩
  | k + 1 => by
    obtain ⟨h1, h2⟩ := balK_good h h0 k
    rw [balK_succ]
    dsimp only
    constructor
    · split
      · exact near_good h h0 k
      · exact h1
    · split
      · exact far_good h h0 k
      · exact h2
theorem good_mul {a b : Ratio} (ha : goodR a) (hb : goodR b) : IntKind.wrap .i64 (a.1 * b.2) = a.1 * b.2 := by
  have := mulB ha.1.1 ha.1.2 (by have := hb.2.1; omega) hb.2.2
  exact wrapS (by omega) (by omega)
theorem good_low {r : Ratio} (h : goodR r) : 0 ≤ r.1 ∧ r.1 ≤ 1000000000000 ∧ 1 ≤ r.2 ∧ r.2 ≤ 1000000000000 := by
  unfold goodR at h; omega
theorem p40 {l : List Stick} {Q : Ratio × Ratio × Int × Unit → Prop} (h : f40_wp l () Q) : V40 l Q := by
  have h : Q (balanceF l) := h
  unfold balanceF at h
  by_cases e : closedE l = 0
  rotate_left
  · rw [if_pos e] at h
    have e2 : closedF l = ((0, 0), (0, 0), closedE l, ()) := by unfold closedF; rw [if_pos e]
    show cnd ((closedF l).2.2.1 != 0) (Q ((0, 0), (0, 0), (closedF l).2.2.1, ())) _
    rw [e2]
    exact cnd_iff.2 ⟨fun _ => h, fun c => absurd (bne0.2.1 c) e⟩
  rw [if_neg (by omega)] at h
  have e2 : closedF l = (sumW l l.length, sumT l l.length, 0, ()) := by unfold closedF; rw [if_neg (by omega)]
  have ho := closedE_ok.1 e
  have hn := ho.n
  show cnd ((closedF l).2.2.1 != 0) (Q ((0, 0), (0, 0), (closedF l).2.2.1, ())) _
  rw [e2]
  refine cndF fun hl => ?_
  refine cnd_iff.2 ⟨fun c => ?_, fun c => ?_⟩
  · have c : (l.length : Int) = 0 := by simpa using c
    rw [if_pos (by omega)] at h; exact h
  have c : ¬ l.length = 0 := by
    intro hh
    rw [hh] at c
    simp at c
  rw [if_neg c] at h
  have hlen : (sortP l).length = l.length := (sort_perm l).length_eq
  have so := sort_ok ho
  have s0' : (sortP l).length ≠ 0 := by omega
  have hw : IntKind.wrap .i64 ((l.length : Int) + 1) = ((l.length + 1 : Nat) : Int) := by rw [wrapS (by omega) (by omega)]; push_cast; rfl
  have cw : ∀ (i : Nat) (a b : Span → Int), IsEnd a → IsEnd b → ∀ (f g : Span → (Int → Prop) → Prop), SaysA f a → SaysA g b → ∀ R : Int × Int × Unit → Prop, R ((cenK (sortP l) (endF i a b) (sortP l).length).1, (cenK (sortP l) (endF i a b) (sortP l).length).2, ()) → f81_wp (sortP l, (i : Int), f, g, ()) () R := fun i a b ha hb f g hf hg R hR =>
    ⟨a, b, ⟨hf, hg, ha, hb, by show (sortP l).length ≤ 12; omega, fun s hs => by
      have := so.s s hs
      unfold inR; omega⟩, hR⟩
  refine ⟨fun a b => a.2.2 - b.2.2, fun x hx y hy R hR => ⟨⟨by have := ho.s x hx; show inR 0 5000 x.2.2; unfold inR; omega, by have := ho.s y hy; show inR 0 5000 y.2.2; unfold inR; omega⟩, hR⟩, by omega, ?_⟩
  refine cw 0 hiE loE hi_end lo_end _ _ (fun x R hR => hR) (fun x R hR => hR) _ ?_
  intro _
  rw [hw]
  refine forUp2 (by omega) (fun k => (balK (sortP l) k).1) (fun k => (balK (sortP l) k).2) rfl rfl (fun k hk I μ hI hw => ?_) ?_
  · have g1 := balK_good so s0' k
    have g2 := near_good so s0' k
    have g3 := far_good so s0' k
    rw [balK_succ] at hI
    dsimp only at hI
    rw [← hw] at hI
    refine cw k hiE loE hi_end lo_end _ _ (fun x R hR => hR) (fun x R hR => hR) _ ?_
    change cnd (decide (IntKind.wrap .i64 ((nearC (sortP l) k).1 * (balK (sortP l) k).1.2) < IntKind.wrap .i64 ((balK (sortP l) k).1.1 * (nearC (sortP l) k).2))) _ _
    rw [good_mul g2 g1.1, good_mul g1.1 g2]
    refine cnd_iff.2 ⟨fun c1 => ?_, fun c1 => ?_⟩
    · rw [if_pos (of_decide_eq_true c1)] at hI
      refine cw k loE hiE lo_end hi_end _ _ (fun x R hR => hR) (fun x R hR => hR) _ ?_
      change cnd (decide (IntKind.wrap .i64 ((farC (sortP l) k).1 * (balK (sortP l) k).2.2) > IntKind.wrap .i64 ((balK (sortP l) k).2.1 * (farC (sortP l) k).2))) _ _
      rw [good_mul g3 g1.2, good_mul g1.2 g3]
      refine cnd_iff.2 ⟨fun c2 => ?_, fun c2 => ?_⟩
      · rw [if_pos (of_decide_eq_true c2)] at hI; exact hI
      · rw [if_neg (of_decide_eq_false c2)] at hI; exact hI
    · rw [if_neg (of_decide_eq_false c1)] at hI
      refine cw k loE hiE lo_end hi_end _ _ (fun x R hR => hR) (fun x R hR => hR) _ ?_
      change cnd (decide (IntKind.wrap .i64 ((farC (sortP l) k).1 * (balK (sortP l) k).2.2) > IntKind.wrap .i64 ((balK (sortP l) k).2.1 * (farC (sortP l) k).2))) _ _
      rw [good_mul g3 g1.2, good_mul g1.2 g3]
      refine cnd_iff.2 ⟨fun c2 => ?_, fun c2 => ?_⟩
      · rw [if_pos (of_decide_eq_true c2)] at hI; exact hI
      · rw [if_neg (of_decide_eq_false c2)] at hI; exact hI
  · have g1 := balK_good so s0' (l.length + 1)
    exact ⟨_, ⟨good_low g1.1, rfl⟩, _, ⟨good_low g1.2, rfl⟩, h⟩

theorem p18 {n lo hi : Int} {Q : Bool → Prop} (h : f18_wp (n, lo, hi, ()) () Q) : V18 n lo hi Q := by
  have h : Q (inB lo hi n) := h
  unfold inB at h
  show cnd (decide (n ≥ lo)) (Q (decide (n ≤ hi))) (Q false)
  refine cnd_iff.2 ⟨fun c => ?_, fun c => ?_⟩
  · rw [show decide (lo ≤ n) = true from c] at h; exact h
  · rw [show decide (lo ≤ n) = false from c] at h; exact h
theorem p46 {s : Span} {lo hi : Int} {Q : Bool → Prop} (h : f46_wp (s, lo, hi, ()) () Q) : V46 s lo hi Q := by
  have h : Q (isSpanF s lo hi) := h
  show cnd (inB lo s.2 s.1) (Q (decide (s.2 ≤ hi))) (Q false)
  have e : isSpanF s lo hi = (inB lo s.2 s.1 && decide (s.2 ≤ hi)) := by
    rw [Bool.eq_iff_iff, isSpan_iff]
    simp only [inB, Bool.and_eq_true, decide_eq_true_eq]; omega
  rw [e] at h
  refine cnd_iff.2 ⟨fun c => ?_, fun c => ?_⟩
  · rw [c] at h; exact h
  · rw [c] at h; exact h
theorem p11 {f : Fan} {Q : Fan → Prop} (h : f11_wp f () Q) : V11 f Q := by
  obtain ⟨h1, h⟩ := h
  refine ⟨by simp only [List.length_nil]; omega, ?_⟩
  rw [List.nil_append]; exact h
theorem not_all_at {α : Type} {p : α → Bool} {l : List α} {d : α} {k : Nat} (hk : k < l.length) (h : p (l.getD k d) = false) : l.all p = false := by
  cases h2 : l.all p with
  | false => rfl
  | true => rw [List.all_eq_true.1 h2 _ (getD_mem hk)] at h; cases h
theorem all_at {α : Type} {p : α → Bool} {l : List α} {d : α} (h : ∀ k, k < l.length → p (l.getD k d) = true) : l.all p = true := by
  refine List.all_eq_true.2 fun x hx => ?_
  obtain ⟨k, hk, rfl⟩ := List.mem_iff_getElem.1 hx
  have := h k hk
  rwa [getD_lt hk] at this
theorem p14 {f : Fan} {Q : Int → Prop} (h : f14_wp f () Q) : V14 f Q := by
  have h : Q (checkF f) := h
  unfold checkF at h
  show cnd (!isSpanF f.1 1 5000) (Q 3) (cnd (!isSpanF f.2.1 1 5000) (Q 3) (cnd (decide (f.2.1.2 ≥ f.1.1)) (Q 3) _))
  refine cnd_iff.2 ⟨fun h1 => ?_, fun h1 => cnd_iff.2 ⟨fun h2 => ?_, fun h2 => cnd_iff.2 ⟨fun h3 => ?_, fun h3 hl => cnd_iff.2 ⟨fun h4 => ?_, fun h4 => ?_⟩⟩⟩⟩
  · rw [if_pos (.inl (by simpa using h1))] at h; exact h
  · rw [if_pos (.inr (.inl (by simpa using h2)))] at h; exact h
  · rw [if_pos (.inr (.inr (of_decide_eq_true h3)))] at h; exact h
  all_goals
    have h3 := of_decide_eq_false h3
    rw [if_neg (by rintro (h | h | h); exact (by rw [h] at h1; cases h1); exact (by rw [h] at h2; cases h2); exact h3 h)] at h
  · have h4 : (f.2.2.length : Int) > 40 := of_decide_eq_true h4
    rw [if_pos (by omega)] at h; exact h
  have h4 : ¬ (f.2.2.length : Int) > 40 := of_decide_eq_false h4
  rw [if_neg (by omega)] at h
  refine forUpGL (fun k => ∀ j, j < k → gapOK (f.2.2.getD j g0) = true) (fun j hj => absurd hj (Nat.not_lt_zero _)) (fun k hk hg _ I μ hI hw => ?_) (fun hg => ?_)
  · refine ⟨by omega, by omega, ?_⟩
    change cnd (!isSpanF (f.2.2.getD k g0).1 0 1000) (Q 2) (0 ≤ (k : Int) ∧ (k : Int) < (f.2.2.length : Int) ∧ cnd (!isSpanF (f.2.2.getD k g0).2 0 500) (Q 2) _)
    have no : gapOK (f.2.2.getD k g0) = false → Q 2 := fun hh => by
      rw [if_pos (not_all_at hk hh)] at h; exact h
    refine cnd_iff.2 ⟨fun c1 => no ?_, fun c1 => ⟨by omega, by omega, cnd_iff.2 ⟨fun c2 => no ?_, fun c2 => ?_⟩⟩⟩
    · have c1 : isSpanF (f.2.2.getD k g0).1 0 1000 = false := by simpa using c1
      unfold gapOK; rw [c1]; rfl
    · have c2 : isSpanF (f.2.2.getD k g0).2 0 500 = false := by simpa using c2
      unfold gapOK; rw [c2, Bool.and_false]
    · have c1 : isSpanF (f.2.2.getD k g0).1 0 1000 = true := by simpa using c1
      have c2 : isSpanF (f.2.2.getD k g0).2 0 500 = true := by simpa using c2
      rw [hw]
      refine hI fun j hj => ?_
      rcases Nat.lt_succ_iff_lt_or_eq.1 hj with h5 | rfl
      · exact hg j h5
      · unfold gapOK; rw [c1, c2]; rfl
  · rw [if_neg (by rw [all_at hg]; simp)] at h; exact h

theorem list_eq_iff {α : Type} (d : α) {a b : List α} (hl : a.length = b.length) (h : ∀ k, k < a.length → a.getD k d = b.getD k d) : a = b := by
  refine List.ext_getElem hl fun k h1 h2 => ?_
  have := h k h1
  rwa [getD_lt h1, getD_lt h2] at this
theorem eq_loop {α : Type} [DecidableEq α] {a b : List α} {d : α} {eqb : α → α → Bool} (he : ∀ x y, eqb x y = true ↔ x = y) {Q : Bool → Prop} (hbl : a.length = b.length) (h : Q (decide (a = b))) :
    ∃ (I : Int → Prop) (μ : Int → Nat), I 0 ∧ ∀ x, I x → a.length ≤ 9223372036854775807 → cnd (decide (x < (a.length : Int))) (0 ≤ x ∧ x < (a.length : Int) ∧ 0 ≤ x ∧ x < (b.length : Int) ∧ cnd (!eqb (a.getD x.toNat d) (b.getD x.toNat d)) (Q false) (I (IntKind.wrap .i64 (x + 1)) ∧ μ (IntKind.wrap .i64 (x + 1)) < μ x)) (Q true) := by
  refine forUpGL (fun k => ∀ j, j < k → a.getD j d = b.getD j d) (fun j hj => absurd hj (Nat.not_lt_zero _)) (body := fun I μ x => 0 ≤ x ∧ x < (a.length : Int) ∧ 0 ≤ x ∧ x < (b.length : Int) ∧ cnd (!eqb (a.getD x.toNat d) (b.getD x.toNat d)) (Q false) (I (IntKind.wrap .i64 (x + 1)) ∧ μ (IntKind.wrap .i64 (x + 1)) < μ x)) (e := fun _ => Q true) (fun k hk hg _ I μ hI hw => ?_) (fun hg => ?_)
  · refine ⟨by omega, by omega, by omega, by omega, ?_⟩
    change cnd (!eqb (a.getD k d) (b.getD k d)) _ _
    rw [hw]
    refine cnd_iff.2 ⟨fun c => ?_, fun c => hI fun j hj => ?_⟩
    · have hne : a ≠ b := fun hh => by
        rw [hh, (he _ _).2 rfl] at c; cases c
      rw [decide_eq_false hne] at h; exact h
    · rcases Nat.lt_succ_iff_lt_or_eq.1 hj with h5 | rfl
      · exact hg j h5
      · refine (he _ _).1 ?_
        simpa using c
  · rw [decide_eq_true (list_eq_iff d hbl hg)] at h; exact h
theorem eq_list {α : Type} [DecidableEq α] {a b : List α} {d : α} {eqb : α → α → Bool} (he : ∀ x y, eqb x y = true ↔ x = y) {Q : Bool → Prop} (h : Q (decide (a = b))) :
    a.length ≤ 9223372036854775807 → b.length ≤ 9223372036854775807 → cnd ((a.length : Int) != (b.length : Int)) (Q false) (∃ (I : Int → Prop) (μ : Int → Nat), I 0 ∧ ∀ x, I x → a.length ≤ 9223372036854775807 → cnd (decide (x < (a.length : Int))) (0 ≤ x ∧ x < (a.length : Int) ∧ 0 ≤ x ∧ x < (b.length : Int) ∧ cnd (!eqb (a.getD x.toNat d) (b.getD x.toNat d)) (Q false) (I (IntKind.wrap .i64 (x + 1)) ∧ μ (IntKind.wrap .i64 (x + 1)) < μ x)) (Q true)) := by
  intro _ _
  refine cnd_iff.2 ⟨fun c => ?_, fun c => ?_⟩
  · have c : (a.length : Int) ≠ (b.length : Int) := by simpa using c
    rw [decide_eq_false (fun hh => c (by rw [hh]))] at h; exact h
  · have c : (a.length : Int) = (b.length : Int) := by simpa using c
    exact eq_loop he (by omega) h
theorem eqb_int (x y : Int) : (!(x != y)) = true ↔ x = y := by simp
theorem p41 {a b : List Int} {Q : Bool → Prop} (h : f41_wp (a, b, ()) () Q) : V41 a b Q := by
  have := eq_list (a := a) (b := b) (d := 0) (eqb := fun x y => !(x != y)) eqb_int h
  simp only [Bool.not_not] at this
  exact this
theorem p23 {a b : List Int} {Q : Bool → Prop} (h : f23_wp (a, b, ()) () Q) : V23 a b Q := p41 h
theorem p15 {a b : Fan} {Q : Bool → Prop} (h : f15_wp (a, b, ()) () Q) : V15 a b Q := by
  have h : Q (decide (a = b)) := h
  refine cnd_iff.2 ⟨fun c1 => ?_, fun c1 => cnd_iff.2 ⟨fun c2 => ?_, fun c2 => ?_⟩⟩
  · rw [decide_eq_false (fun hh => by rw [hh] at c1; simp at c1)] at h; exact h
  · rw [decide_eq_false (fun hh => by rw [hh] at c2; simp at c2)] at h; exact h
  have e : a.1 = b.1 ∧ a.2.1 = b.2.1 := by
    simp only [Bool.and_true, Bool.not_eq_false', Bool.and_eq_true, beq_iff_eq] at c1 c2
    exact ⟨Prod.ext c1.1 c1.2, Prod.ext c2.1 c2.2⟩
  have e3 : decide (a = b) = decide (a.2.2 = b.2.2) := decide_eq_decide.2 ⟨fun h => by rw [h], fun h => Prod.ext e.1 (Prod.ext e.2 h)⟩
  rw [e3] at h
  exact eq_list (a := a.2.2) (b := b.2.2) (d := g0) (eqb := fun x y => x.1.1 == y.1.1 && (x.1.2 == y.1.2 && (x.2.1 == y.2.1 && (x.2.2 == y.2.2 && true)))) (fun x y => by
    obtain ⟨⟨_, _⟩, _, _⟩ := x
    obtain ⟨⟨_, _⟩, _, _⟩ := y
    simp [and_assoc]) h

end Go.Proofs.Rz
set_option linter.unusedVariables false
set_option maxRecDepth 100000
namespace Go.Proofs.Rz
open Go Go.GX Go.Proofs

end Go.Proofs.Rz
