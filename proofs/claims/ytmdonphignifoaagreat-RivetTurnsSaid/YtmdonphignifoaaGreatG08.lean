/- Part 8 of the texts behind the proof: RzV5, RzP8, RzV6, RzP9, RzO3, RzPb, RzV9, RzPx, RzV10, RzPy, RzM3, RzM4, RzM6, RzV11, RzV12, RzPz, RzO5. -/
import Derived.Test.YtmdonphignifoaaGreatG07
import Derived.Test.YtmdonphignifoaaGreatProg
set_option linter.unusedSimpArgs false
set_option linter.unusedVariables false
set_option linter.unusedSectionVars false
set_option linter.unusedVariables false
set_option maxRecDepth 100000
namespace Go.Proofs.Rz
open Go Go.GX Go.Proofs

def V34 (a : Int) (b : Int) (Q : Int × Int → Prop) : Prop :=
  Q (a, b)
theorem v34 (a : Int) (b : Int) (Q : Int × Int → Prop) : V34 a b Q = vcFunc (S1 [] [] [] []) f34_ct.own f34_ct.fresh no_an Tryz.f34 (bodyOf Tryz.f34) f34_ct.A f34_ct.C f34_ct.R (a, b, ()) () Q := by kernel_rfl

def V39 (Q : (Int × Int) × (Int × Int) × List ((Int × Int) × Int × Int) → Prop) : Prop :=
  f34_wp ((900 : Int), (1000 : Int), ()) () fun (r : Int × Int) ↦
    f34_wp ((40 : Int), (50 : Int), ()) () fun (r_1 : Int × Int) ↦
      f34_wp ((200 : Int), (210 : Int), ()) () fun (r_2 : Int × Int) ↦
        f34_wp ((12 : Int), (12 : Int), ()) () fun (r_3 : Int × Int) ↦
          f34_wp ((100 : Int), (100 : Int), ()) () fun (r_4 : Int × Int) ↦
            f34_wp ((4 : Int), (5 : Int), ()) () fun (r_5 : Int × Int) ↦
              Q
                ((Prod.fst r, Prod.snd r), (Prod.fst r_1, Prod.snd r_1),
                  ((Prod.fst r_2, Prod.snd r_2), Prod.fst r_3, Prod.snd r_3) ::
                    ((Prod.fst r_4, Prod.snd r_4), Prod.fst r_5, Prod.snd r_5) :: ([] : List ((Int × Int) × Int × Int)))
theorem v39 (Q : (Int × Int) × (Int × Int) × List ((Int × Int) × Int × Int) → Prop) : V39 Q = vcFunc (S1 [(34, f34_ct)] [] [] [108]) f39_ct.own f39_ct.fresh no_an Tryz.f39 (bodyOf Tryz.f39) f39_ct.A f39_ct.C f39_ct.R () () Q := by kernel_rfl

def V74 (b : List Int) (i : Int) (Q : Int → Prop) : Prop :=
  List.length b ≤ (9223372036854775807 : Nat) →
    cnd ((↑(List.length b) : Int) == (0 : Int)) (Q (0 : Int))
      (List.length b ≤ (9223372036854775807 : Nat) →
        (↑(List.length b) : Int) ≠ (0 : Int) ∧
          (0 : Int) ≤ Int.tmod i (↑(List.length b) : Int) ∧
            Int.tmod i (↑(List.length b) : Int) < (↑(List.length b) : Int) ∧
              Q (IntKind.wrap IntKind.i64 (List.getD b (Int.toNat (Int.tmod i (↑(List.length b) : Int))) (0 : Int))))
theorem v74 (b : List Int) (i : Int) (Q : Int → Prop) : V74 b i Q = vcFunc (S1 [] [] [] []) f74_ct.own f74_ct.fresh no_an Tryz.f74 (bodyOf Tryz.f74) f74_ct.A f74_ct.C f74_ct.R (b, i, ()) () Q := by kernel_rfl

def V73 (s : Int × Int) (b : Int) (Q : Int → Prop) : Prop :=
  (255 : Int) ≠ (0 : Int) ∧
    Q
      (IntKind.wrap IntKind.i64
        (Prod.fst s +
          IntKind.wrap IntKind.i64 (Int.tdiv (IntKind.wrap IntKind.i64 (b * IntKind.wrap IntKind.i64 (Prod.snd s - Prod.fst s))) (255 : Int))))
theorem v73 (s : Int × Int) (b : Int) (Q : Int → Prop) : V73 s b Q = vcFunc (S1 [] [] [] []) f73_ct.own f73_ct.fresh no_an Tryz.f73 (bodyOf Tryz.f73) f73_ct.A f73_ct.C f73_ct.R (s, b, ()) () Q := by kernel_rfl

def V72 (s : Int × Int) (i : Int) (b : List Int) (Q : Int × Int → Prop) : Prop :=
  ∃ (r : Int),
    (f74_wp (b, i, ()) () fun (r' : Int) ↦ r' = r) ∧
      ∃ (r_1 : Int),
        (f73_wp ((Prod.fst s, Prod.snd s), r, ()) () fun (r' : Int) ↦ r' = r_1) ∧
          f34_wp (r_1, r_1, ()) () fun (r : Int × Int) ↦ Q (Prod.fst r, Prod.snd r)
theorem v72 (s : Int × Int) (i : Int) (b : List Int) (Q : Int × Int → Prop) : V72 s i b Q = vcFunc (S1 [(74, f74_ct), (73, f73_ct), (34, f34_ct)] [] [] []) f72_ct.own f72_ct.fresh no_an Tryz.f72 (bodyOf Tryz.f72) f72_ct.A f72_ct.C f72_ct.R (s, i, ()) (b, ()) Q := by kernel_rfl

def V31 (f : (Int × Int) × (Int × Int) × List ((Int × Int) × Int × Int)) (b : List Int) (Q : (Int × Int) × (Int × Int) × List ((Int × Int) × Int × Int) → Prop) : Prop :=
  ∃ (r : Int × Int),
    (f72_wp ((Prod.fst (Prod.fst f), Prod.snd (Prod.fst f)), (0 : Int), ()) (b, ()) fun (r' : Int × Int) ↦ r' = r) ∧
      ∃ (r_1 : Int × Int),
        (f72_wp ((Prod.fst (Prod.fst (Prod.snd f)), Prod.snd (Prod.fst (Prod.snd f))), (1 : Int), ()) (b, ()) fun (r' : Int × Int) ↦ r' = r_1) ∧
          ∃ (I : Int → ((Int × Int) × Int × Int) × List ((Int × Int) × Int × Int) → Prop),
            ∃ (μ : Int → ((Int × Int) × Int × Int) × List ((Int × Int) × Int × Int) → Nat),
              I (0 : Int) (((Prod.fst r, Prod.snd r), Prod.fst r_1, Prod.snd r_1), ([] : List ((Int × Int) × Int × Int))) ∧
                ∀ (x : Int) (x_1 : ((Int × Int) × Int × Int) × List ((Int × Int) × Int × Int)),
                  I x x_1 →
                    List.length (Prod.snd (Prod.snd f)) ≤ (9223372036854775807 : Nat) →
                      cnd (decide (x < (↑(List.length (Prod.snd (Prod.snd f))) : Int)))
                        ((0 : Int) ≤ x ∧
                          x < (↑(List.length (Prod.snd (Prod.snd f))) : Int) ∧
                            ∃ (r : Int × Int),
                              (f72_wp
                                  ((Prod.fst
                                        (Prod.fst (List.getD (Prod.snd (Prod.snd f)) (Int.toNat x) (((0 : Int), (0 : Int)), (0 : Int), (0 : Int)))),
                                      Prod.snd
                                        (Prod.fst (List.getD (Prod.snd (Prod.snd f)) (Int.toNat x) (((0 : Int), (0 : Int)), (0 : Int), (0 : Int))))),
                                    IntKind.wrap IntKind.i64 (IntKind.wrap IntKind.i64 ((2 : Int) * x) + (2 : Int)), ())
                                  (b, ()) fun (r' : Int × Int) ↦ r' = r) ∧
                                (0 : Int) ≤ x ∧
                                  x < (↑(List.length (Prod.snd (Prod.snd f))) : Int) ∧
                                    ∃ (r_2 : Int × Int),
                                      (f72_wp
                                          ((Prod.fst
                                                (Prod.snd
                                                  (List.getD (Prod.snd (Prod.snd f)) (Int.toNat x) (((0 : Int), (0 : Int)), (0 : Int), (0 : Int)))),
                                              Prod.snd
                                                (Prod.snd
                                                  (List.getD (Prod.snd (Prod.snd f)) (Int.toNat x) (((0 : Int), (0 : Int)), (0 : Int), (0 : Int))))),
                                            IntKind.wrap IntKind.i64 (IntKind.wrap IntKind.i64 ((2 : Int) * x) + (3 : Int)), ())
                                          (b, ()) fun (r' : Int × Int) ↦ r' = r_2) ∧
                                        (List.length (Prod.snd x_1) +
                                                List.length
                                                  (((Prod.fst r, Prod.snd r), Prod.fst r_2, Prod.snd r_2) :: ([] : List ((Int × Int) × Int × Int)))) *
                                              (32 : Nat) ≤
                                            (140737488355328 : Nat) ∧
                                          I (IntKind.wrap IntKind.i64 (x + (1 : Int)))
                                              (((Prod.fst (Prod.fst (Prod.fst x_1)), Prod.snd (Prod.fst (Prod.fst x_1))),
                                                  Prod.fst (Prod.snd (Prod.fst x_1)), Prod.snd (Prod.snd (Prod.fst x_1))),
                                                Prod.snd x_1 ++
                                                  ((Prod.fst r, Prod.snd r), Prod.fst r_2, Prod.snd r_2) :: ([] : List ((Int × Int) × Int × Int))) ∧
                                            μ (IntKind.wrap IntKind.i64 (x + (1 : Int)))
                                                (((Prod.fst (Prod.fst (Prod.fst x_1)), Prod.snd (Prod.fst (Prod.fst x_1))),
                                                    Prod.fst (Prod.snd (Prod.fst x_1)), Prod.snd (Prod.snd (Prod.fst x_1))),
                                                  Prod.snd x_1 ++
                                                    ((Prod.fst r, Prod.snd r), Prod.fst r_2, Prod.snd r_2) :: ([] : List ((Int × Int) × Int × Int))) <
                                              μ x x_1)
                        (Q
                          ((Prod.fst (Prod.fst (Prod.fst x_1)), Prod.snd (Prod.fst (Prod.fst x_1))),
                            (Prod.fst (Prod.snd (Prod.fst x_1)), Prod.snd (Prod.snd (Prod.fst x_1))), Prod.snd x_1))
theorem v31 (f : (Int × Int) × (Int × Int) × List ((Int × Int) × Int × Int)) (b : List Int) (Q : (Int × Int) × (Int × Int) × List ((Int × Int) × Int × Int) → Prop) : V31 f b Q = vcFunc (S1 [(72, f72_ct)] [] [] []) f31_ct.own f31_ct.fresh f31_an Tryz.f31 (bodyOf Tryz.f31) f31_ct.A f31_ct.C f31_ct.R (f, b, ()) () Q := by kernel_rfl

def V33 (f : (Int × Int) × (Int × Int) × List ((Int × Int) × Int × Int)) (Q : Int × Int × Unit → Prop) : Prop :=
  ∃ (I : Int → Int → Prop),
    ∃ (μ : Int → Int → Nat),
      I (0 : Int) (0 : Int) ∧
        ∀ (x x_1 : Int),
          I x x_1 →
            List.length (Prod.snd (Prod.snd f)) ≤ (9223372036854775807 : Nat) →
              cnd (decide (x < (↑(List.length (Prod.snd (Prod.snd f))) : Int)))
                ((0 : Int) ≤ x ∧
                  x < (↑(List.length (Prod.snd (Prod.snd f))) : Int) ∧
                    (0 : Int) ≤ x ∧
                      x < (↑(List.length (Prod.snd (Prod.snd f))) : Int) ∧
                        cnd
                          (decide
                            (IntKind.wrap IntKind.i64
                                (Prod.fst (Prod.fst (List.getD (Prod.snd (Prod.snd f)) (Int.toNat x) (((0 : Int), (0 : Int)), (0 : Int), (0 : Int)))) *
                                  Prod.fst (Prod.fst (Prod.snd f))) <
                              IntKind.wrap IntKind.i64
                                (Prod.fst (Prod.snd (List.getD (Prod.snd (Prod.snd f)) (Int.toNat x) (((0 : Int), (0 : Int)), (0 : Int), (0 : Int)))) *
                                  Prod.fst (Prod.fst f))))
                          (I (IntKind.wrap IntKind.i64 (x + (1 : Int)))
                              (IntKind.wrap IntKind.i64
                                (x_1 +
                                  IntKind.wrap IntKind.i64
                                    (Prod.fst
                                        (Prod.fst (List.getD (Prod.snd (Prod.snd f)) (Int.toNat x) (((0 : Int), (0 : Int)), (0 : Int), (0 : Int)))) *
                                      Prod.fst (Prod.fst (Prod.snd f))))) ∧
                            μ (IntKind.wrap IntKind.i64 (x + (1 : Int)))
                                (IntKind.wrap IntKind.i64
                                  (x_1 +
                                    IntKind.wrap IntKind.i64
                                      (Prod.fst
                                          (Prod.fst (List.getD (Prod.snd (Prod.snd f)) (Int.toNat x) (((0 : Int), (0 : Int)), (0 : Int), (0 : Int)))) *
                                        Prod.fst (Prod.fst (Prod.snd f))))) <
                              μ x x_1)
                          (I (IntKind.wrap IntKind.i64 (x + (1 : Int)))
                              (IntKind.wrap IntKind.i64
                                (x_1 +
                                  IntKind.wrap IntKind.i64
                                    (Prod.fst
                                        (Prod.snd (List.getD (Prod.snd (Prod.snd f)) (Int.toNat x) (((0 : Int), (0 : Int)), (0 : Int), (0 : Int)))) *
                                      Prod.fst (Prod.fst f)))) ∧
                            μ (IntKind.wrap IntKind.i64 (x + (1 : Int)))
                                (IntKind.wrap IntKind.i64
                                  (x_1 +
                                    IntKind.wrap IntKind.i64
                                      (Prod.fst
                                          (Prod.snd (List.getD (Prod.snd (Prod.snd f)) (Int.toNat x) (((0 : Int), (0 : Int)), (0 : Int), (0 : Int)))) *
                                        Prod.fst (Prod.fst f)))) <
                              μ x x_1))
                (Q (x_1, IntKind.wrap IntKind.i64 (Prod.fst (Prod.fst f) * Prod.fst (Prod.fst (Prod.snd f))), ()))
theorem v33 (f : (Int × Int) × (Int × Int) × List ((Int × Int) × Int × Int)) (Q : Int × Int × Unit → Prop) : V33 f Q = vcFunc (S1 [] [] [] []) f33_ct.own f33_ct.fresh f33_an Tryz.f33 (bodyOf Tryz.f33) f33_ct.A f33_ct.C f33_ct.R f () Q := by kernel_rfl

def V32 (n : Int) (d : Int) (Q : Int → Prop) : Prop :=
  IntKind.wrap IntKind.i64 ((355 : Int) * d) ≠ (0 : Int) ∧
    Q
      (mnI (360 : Int)
        (IntKind.wrap IntKind.i64 (Int.tdiv (IntKind.wrap IntKind.i64 ((20340 : Int) * n)) (IntKind.wrap IntKind.i64 ((355 : Int) * d)))))
theorem v32 (n : Int) (d : Int) (Q : Int → Prop) : V32 n d Q = vcFunc (S1 [] [] [] []) f32_ct.own f32_ct.fresh no_an Tryz.f32 (bodyOf Tryz.f32) f32_ct.A f32_ct.C f32_ct.R (n, d, ()) () Q := by kernel_rfl

def V28 (a : (Int × Int) × (Int × Int) × List (Int × Int × Int × Int)) (Q : (Int × Int) × (Int × Int) × List ((Int × Int) × Int × Int) → Prop) : Prop :=
  ∃ (r : Int × Int),
    (f34_wp
        (IntKind.wrap IntKind.i64 ((300 : Int) + IntKind.wrap IntKind.i64 ((8 : Int) * IntKind.wrap IntKind.i64 (Prod.fst (Prod.fst a)))),
          IntKind.wrap IntKind.i64
            (IntKind.wrap IntKind.i64 ((300 : Int) + IntKind.wrap IntKind.i64 ((8 : Int) * IntKind.wrap IntKind.i64 (Prod.fst (Prod.fst a)))) +
              IntKind.wrap IntKind.i64 (Prod.snd (Prod.fst a))),
          ())
        () fun (r' : Int × Int) ↦ r' = r) ∧
      (20 : Int) ≠ (0 : Int) ∧
        ∃ (r_1 : Int × Int),
          (f34_wp
              (IntKind.wrap IntKind.i64 ((20 : Int) + IntKind.wrap IntKind.i64 (Prod.fst (Prod.fst (Prod.snd a)))),
                IntKind.wrap IntKind.i64
                  (IntKind.wrap IntKind.i64 ((20 : Int) + IntKind.wrap IntKind.i64 (Prod.fst (Prod.fst (Prod.snd a)))) +
                    Int.tmod (IntKind.wrap IntKind.i64 (Prod.snd (Prod.fst (Prod.snd a)))) (20 : Int)),
                ())
              () fun (r' : Int × Int) ↦ r' = r_1) ∧
            ∃ (I : Int → ((Int × Int) × Int × Int) × List ((Int × Int) × Int × Int) → Prop),
              ∃ (μ : Int → ((Int × Int) × Int × Int) × List ((Int × Int) × Int × Int) → Nat),
                I (0 : Int) (((Prod.fst r, Prod.snd r), Prod.fst r_1, Prod.snd r_1), ([] : List ((Int × Int) × Int × Int))) ∧
                  ∀ (x : Int) (x_1 : ((Int × Int) × Int × Int) × List ((Int × Int) × Int × Int)),
                    I x x_1 →
                      List.length (Prod.snd (Prod.snd a)) ≤ (9223372036854775807 : Nat) →
                        cnd (decide (x < (↑(List.length (Prod.snd (Prod.snd a))) : Int)))
                          (cnd (decide (x < (12 : Int)))
                            ((0 : Int) ≤ x ∧
                              x < (↑(List.length (Prod.snd (Prod.snd a))) : Int) ∧
                                (4 : Int) ≠ (0 : Int) ∧
                                  (30 : Int) ≠ (0 : Int) ∧
                                    ∃ (r : Int × Int),
                                      (f34_wp
                                          (IntKind.wrap IntKind.i64
                                              ((2 : Int) *
                                                IntKind.wrap IntKind.i64
                                                  (Prod.fst
                                                    (List.getD (Prod.snd (Prod.snd a)) (Int.toNat x) ((0 : Int), (0 : Int), (0 : Int), (0 : Int))))),
                                            IntKind.wrap IntKind.i64
                                              (IntKind.wrap IntKind.i64
                                                  ((2 : Int) *
                                                    IntKind.wrap IntKind.i64
                                                      (Prod.fst
                                                        (List.getD (Prod.snd (Prod.snd a)) (Int.toNat x)
                                                          ((0 : Int), (0 : Int), (0 : Int), (0 : Int))))) +
                                                Int.tmod
                                                  (IntKind.wrap IntKind.i64
                                                    (Prod.fst
                                                      (Prod.snd
                                                        (List.getD (Prod.snd (Prod.snd a)) (Int.toNat x)
                                                          ((0 : Int), (0 : Int), (0 : Int), (0 : Int))))))
                                                  (30 : Int)),
                                            ())
                                          () fun (r' : Int × Int) ↦ r' = r) ∧
                                        (6 : Int) ≠ (0 : Int) ∧
                                          ∃ (r_2 : Int × Int),
                                            (f34_wp
                                                (IntKind.wrap IntKind.i64
                                                    (Int.tdiv
                                                      (IntKind.wrap IntKind.i64
                                                        (Prod.fst
                                                          (Prod.snd
                                                            (Prod.snd
                                                              (List.getD (Prod.snd (Prod.snd a)) (Int.toNat x)
                                                                ((0 : Int), (0 : Int), (0 : Int), (0 : Int)))))))
                                                      (4 : Int)),
                                                  IntKind.wrap IntKind.i64
                                                    (IntKind.wrap IntKind.i64
                                                        (Int.tdiv
                                                          (IntKind.wrap IntKind.i64
                                                            (Prod.fst
                                                              (Prod.snd
                                                                (Prod.snd
                                                                  (List.getD (Prod.snd (Prod.snd a)) (Int.toNat x)
                                                                    ((0 : Int), (0 : Int), (0 : Int), (0 : Int)))))))
                                                          (4 : Int)) +
                                                      Int.tmod
                                                        (IntKind.wrap IntKind.i64
                                                          (Prod.snd
                                                            (Prod.snd
                                                              (Prod.snd
                                                                (List.getD (Prod.snd (Prod.snd a)) (Int.toNat x)
                                                                  ((0 : Int), (0 : Int), (0 : Int), (0 : Int)))))))
                                                        (6 : Int)),
                                                  ())
                                                () fun (r' : Int × Int) ↦ r' = r_2) ∧
                                              (List.length (Prod.snd x_1) +
                                                      List.length
                                                        (((Prod.fst r, Prod.snd r), Prod.fst r_2, Prod.snd r_2) ::
                                                          ([] : List ((Int × Int) × Int × Int)))) *
                                                    (32 : Nat) ≤
                                                  (140737488355328 : Nat) ∧
                                                I (IntKind.wrap IntKind.i64 (x + (1 : Int)))
                                                    (((Prod.fst (Prod.fst (Prod.fst x_1)), Prod.snd (Prod.fst (Prod.fst x_1))),
                                                        Prod.fst (Prod.snd (Prod.fst x_1)), Prod.snd (Prod.snd (Prod.fst x_1))),
                                                      Prod.snd x_1 ++
                                                        ((Prod.fst r, Prod.snd r), Prod.fst r_2, Prod.snd r_2) ::
                                                          ([] : List ((Int × Int) × Int × Int))) ∧
                                                  μ (IntKind.wrap IntKind.i64 (x + (1 : Int)))
                                                      (((Prod.fst (Prod.fst (Prod.fst x_1)), Prod.snd (Prod.fst (Prod.fst x_1))),
                                                          Prod.fst (Prod.snd (Prod.fst x_1)), Prod.snd (Prod.snd (Prod.fst x_1))),
                                                        Prod.snd x_1 ++
                                                          ((Prod.fst r, Prod.snd r), Prod.fst r_2, Prod.snd r_2) ::
                                                            ([] : List ((Int × Int) × Int × Int))) <
                                                    μ x x_1)
                            (Q
                              ((Prod.fst (Prod.fst (Prod.fst x_1)), Prod.snd (Prod.fst (Prod.fst x_1))),
                                (Prod.fst (Prod.snd (Prod.fst x_1)), Prod.snd (Prod.snd (Prod.fst x_1))), Prod.snd x_1)))
                          (Q
                            ((Prod.fst (Prod.fst (Prod.fst x_1)), Prod.snd (Prod.fst (Prod.fst x_1))),
                              (Prod.fst (Prod.snd (Prod.fst x_1)), Prod.snd (Prod.snd (Prod.fst x_1))), Prod.snd x_1))
theorem v28 (a : (Int × Int) × (Int × Int) × List (Int × Int × Int × Int)) (Q : (Int × Int) × (Int × Int) × List ((Int × Int) × Int × Int) → Prop) : V28 a Q = vcFunc (S1 [(34, f34_ct)] [] [] []) f28_ct.own f28_ct.fresh f28_an Tryz.f28 (bodyOf Tryz.f28) f28_ct.A f28_ct.C f28_ct.R a () Q := by kernel_rfl

end Go.Proofs.Rz
set_option linter.unusedVariables false
set_option maxRecDepth 100000
namespace Go.Proofs.Rz
open Go Go.GX Go.Proofs

theorem upTo1 {σ : Type} {n : Nat} (hn : n ≤ 9223372036854775807) (F : Nat → σ) {s0 : σ} (h0 : s0 = F 0) {P : (Int → σ → Prop) → (Int → σ → Nat) → Int → σ → Prop}
    (hb : ∀ k : Nat, k ≤ n → ∀ (I : Int → σ → Prop) (μ : Int → σ → Nat), (k < n → IntKind.wrap .i64 ((k : Int) + 1) = k + 1 ∧ I (k + 1 : Int) (F (k + 1)) ∧ μ (k + 1 : Int) (F (k + 1)) < μ k (F k)) → P I μ k (F k)) :
    ∃ (I : Int → σ → Prop) (μ : Int → σ → Nat), I 0 s0 ∧ ∀ x s, I x s → P I μ x s := by
  refine ⟨fun x s => ∃ k : Nat, k ≤ n ∧ x = k ∧ s = F k, fun x _ => (n - x).toNat, ⟨0, Nat.zero_le _, rfl, h0⟩, ?_⟩
  rintro x s ⟨k, hk, rfl, rfl⟩
  exact hb k hk _ _ fun h => ⟨wrapS (by omega) (by omega), ⟨k + 1, by omega, by push_cast; rfl, rfl⟩, by omega⟩
theorem p34 {a b : Int} {Q : Span → Prop} (h : f34_wp (a, b, ()) () Q) : V34 a b Q := h
theorem p39 {Q : Fan → Prop} (h : f39_wp () () Q) : V39 Q := h
theorem byteF_ok {b : List Int} (h : ∀ x, x ∈ b → byteB x) {i : Int} (hi : 0 ≤ i) : byteB (byteF b i) ∧ (b.length ≠ 0 → (0 : Int) ≤ Int.tmod i b.length ∧ Int.tmod i b.length < b.length) := by
  have key : b.length ≠ 0 → (0 : Int) ≤ Int.tmod i b.length ∧ Int.tmod i b.length < b.length := fun h0 => by
    have h9 : (0 : Int) < (b.length : Int) := Int.natCast_pos.2 (Nat.pos_of_ne_zero h0)
    rw [Int.tmod_eq_emod_of_nonneg hi]
    exact ⟨Int.emod_nonneg _ (Int.ne_of_gt h9), Int.emod_lt_of_pos _ h9⟩
  refine ⟨?_, key⟩
  unfold byteF
  split
  · exact ⟨by omega, by omega⟩
  · rename_i h0
    obtain ⟨k1, k2⟩ := key h0
    exact h _ (getD_mem (by omega))
theorem p74 {b : List Int} {i : Int} {Q : Int → Prop} (h : f74_wp (b, i, ()) () Q) : V74 b i Q := by
  obtain ⟨⟨hb, h1, h2⟩, h⟩ := h
  have hb : ∀ x, x ∈ b → byteB x := hb
  have h1 : 0 ≤ i := h1
  have h : Q (byteF b i) := h
  obtain ⟨r1, r2⟩ := byteF_ok hb h1
  unfold byteF at h
  intro _
  refine cnd_iff.2 ⟨fun c => ?_, fun c _ => ?_⟩
  · have c : (b.length : Int) = 0 := by simpa using c
    rw [if_pos (by omega)] at h; exact h
  · have c : ¬ b.length = 0 := by
      intro hh
      rw [hh] at c
      simp at c
    rw [if_neg c] at h
    obtain ⟨r3, r4⟩ := r2 c
    have r5 := hb _ (getD_mem (d := 0) (k := (Int.tmod i (b.length : Int)).toNat) (by omega))
    unfold byteB at r5
    rw [wrapS (by omega) (by omega)]
    exact ⟨by omega, r3, r4, h⟩
theorem insF_ok {s : Span} (hs : spanOK s) {b : Int} (hb : byteB b) : s.1 ≤ insF s b ∧ insF s b ≤ s.2 := by
  unfold spanOK at hs
  unfold byteB at hb
  unfold insF
  have h1 := Int.mul_nonneg hb.1 (show 0 ≤ s.2 - s.1 by omega)
  have h2 : b * (s.2 - s.1) ≤ 255 * (s.2 - s.1) := Int.mul_le_mul_of_nonneg_right hb.2 (by omega)
  rw [Int.tdiv_eq_ediv_of_nonneg h1]
  omega
theorem p73 {s : Span} {b : Int} {Q : Int → Prop} (h : f73_wp (s, b, ()) () Q) : V73 s b Q := by
  obtain ⟨⟨hs, hb⟩, h⟩ := h
  have hs : spanOK s := hs
  have hb : byteB b := hb
  have hi := insF_ok hs hb
  have h : Q (insF s b) := h
  unfold insF at h hi
  unfold spanOK at hs
  unfold byteB at hb
  have h1 := mulB hb.1 hb.2 (show 0 ≤ s.2 - s.1 by omega) (show s.2 - s.1 ≤ 1000000 by omega)
  refine ⟨by omega, ?_⟩
  rw [wrapS (x := s.2 - s.1) (by omega) (by omega), wrapS (x := b * (s.2 - s.1)) (by omega) (by omega), wrapS (x := Int.tdiv (b * (s.2 - s.1)) 255) (by omega) (by omega), wrapS (by omega) (by omega)]
  exact h
theorem p72 {s : Span} {i : Int} {b : List Int} {Q : Span → Prop} (h : f72_wp (s, i, ()) (b, ()) Q) : V72 s i b Q := by
  obtain ⟨⟨hs, hb, h1, h2⟩, h⟩ := h
  have h1 : 0 ≤ i := h1
  have h2 : i ≤ 1000 := h2
  exact ⟨_, ⟨⟨hb, h1, by show i ≤ 1000000; omega⟩, rfl⟩, _, ⟨⟨hs, (byteF_ok hb h1).1⟩, rfl⟩, h⟩
theorem CheckOK.sp {f : Fan} (h : CheckOK f) : spanOK f.1 ∧ spanOK f.2.1 ∧ ∀ g, g ∈ f.2.2 → spanOK g.1 ∧ spanOK g.2 := by
  have h1 := h.far
  have h2 := h.near
  refine ⟨by unfold spanOK; omega, by unfold spanOK; omega, fun g hg => ?_⟩
  have := h.g g hg
  unfold spanOK; omega
theorem p31 {f : Fan} {b : List Int} {Q : Fan → Prop} (h : f31_wp (f, b, ()) () Q) : V31 f b Q := by
  obtain ⟨⟨hf, hb⟩, h⟩ := h
  have hf : CheckOK f := hf
  have hb : ∀ x, x ∈ b → byteB x := hb
  have hn := hf.n
  obtain ⟨s1, s2, s3⟩ := hf.sp
  refine ⟨_, ⟨⟨s1, hb, by show (0 : Int) ≤ 0; omega, by show (0 : Int) ≤ 1000; omega⟩, rfl⟩, _, ⟨⟨s2, hb, by show (0 : Int) ≤ 1; omega, by show (1 : Int) ≤ 1000; omega⟩, rfl⟩, ?_⟩
  refine forUpL (fun k => (((ptF b f.1 0, ptF b f.2.1 1), (List.range k).map fun (i : Nat) => (ptF b (f.2.2.getD i g0).1 (2 * i + 2), ptF b (f.2.2.getD i g0).2 (2 * i + 3))) : (Span × Span) × List Gap)) rfl (fun k hk I μ hI hw => ?_) h
  have w1 : IntKind.wrap .i64 (IntKind.wrap .i64 (2 * (k : Int)) + 2) = 2 * k + 2 := by rw [wrapS (x := 2 * (k : Int)) (by omega) (by omega), wrapS (by omega) (by omega)]
  have w2 : IntKind.wrap .i64 (IntKind.wrap .i64 (2 * (k : Int)) + 3) = 2 * k + 3 := by rw [wrapS (x := 2 * (k : Int)) (by omega) (by omega), wrapS (by omega) (by omega)]
  have s4 := s3 _ (getD_mem (d := g0) hk)
  rw [List.range_succ, List.map_append] at hI
  rw [w1, w2, hw]
  refine ⟨by omega, by omega, _, ⟨⟨s4.1, hb, by show (0 : Int) ≤ 2 * k + 2; omega, by show 2 * (k : Int) + 2 ≤ 1000; omega⟩, rfl⟩, by omega, by omega, _, ⟨⟨s4.2, hb, by show (0 : Int) ≤ 2 * k + 3; omega, by show 2 * (k : Int) + 3 ≤ 1000; omega⟩, rfl⟩, ?_, hI⟩
  simp only [List.length_map, List.length_range, List.length_cons, List.length_nil]
  omega
theorem sumG_take_succ (arc : Span → Int) (far near : Int) {gs : List Gap} {k : Nat} (hk : k < gs.length) : sumG arc far near (gs.take (k + 1)) = sumG arc far near (gs.take k) + angG arc far near (gs.getD k g0) := by
  rw [take_succ_getD (d := g0) hk, sumG_append, sumG_cons, sumG_nil]; omega
theorem p33 {f : Fan} {Q : Int × Int × Unit → Prop} (h : f33_wp f () Q) : V33 f Q := by
  obtain ⟨hf, h⟩ := h
  have h1 := hf.far
  have h2 := hf.near
  have hn := hf.n
  have hle : ∀ k, k ≤ f.2.2.length → 0 ≤ sumG loE f.1.1 f.2.1.1 (f.2.2.take k) ∧ sumG loE f.1.1 f.2.1.1 (f.2.2.take k) ≤ 5000000 * k := by
    intro k
    induction k with
    | zero => intro _; exact ⟨Int.le_refl _, Int.le_refl _⟩
    | succ k ih =>
      intro hk
      have ih := ih (by omega)
      have hg := hf.g _ (getD_mem (d := g0) (show k < f.2.2.length from hk))
      have m1 := mulB hg.1.1 (show (f.2.2.getD k g0).1.1 ≤ 1000 by omega) (show 0 ≤ f.2.1.1 by omega) (show f.2.1.1 ≤ 5000 by omega)
      have m2 := mulB hg.2.1 (show (f.2.2.getD k g0).2.1 ≤ 500 by omega) (show 0 ≤ f.1.1 by omega) (show f.1.1 ≤ 5000 by omega)
      have ea : angG loE f.1.1 f.2.1.1 (f.2.2.getD k g0) = min ((f.2.2.getD k g0).1.1 * f.2.1.1) ((f.2.2.getD k g0).2.1 * f.1.1) := rfl
      rw [sumG_take_succ _ _ _ (show k < f.2.2.length from hk), ea]
      push_cast
      omega
  refine forUpL (fun k => sumG loE f.1.1 f.2.1.1 (f.2.2.take k)) rfl (fun k hk I μ hI hw => ?_) ?_
  · have hg := hf.g _ (getD_mem (d := g0) hk)
    have m1 := mulB hg.1.1 (show (f.2.2.getD k g0).1.1 ≤ 1000 by omega) (show 0 ≤ f.2.1.1 by omega) (show f.2.1.1 ≤ 5000 by omega)
    have m2 := mulB hg.2.1 (show (f.2.2.getD k g0).2.1 ≤ 500 by omega) (show 0 ≤ f.1.1 by omega) (show f.1.1 ≤ 5000 by omega)
    have hs := hle k (by omega)
    rw [sumG_take_succ _ _ _ hk] at hI
    have w1 : IntKind.wrap .i64 ((f.2.2.getD k g0).1.1 * f.2.1.1) = (f.2.2.getD k g0).1.1 * f.2.1.1 := wrapS (by omega) (by omega)
    have w2 : IntKind.wrap .i64 ((f.2.2.getD k g0).2.1 * f.1.1) = (f.2.2.getD k g0).2.1 * f.1.1 := wrapS (by omega) (by omega)
    refine ⟨by omega, by omega, by omega, by omega, ?_⟩
    change cnd (decide (IntKind.wrap .i64 ((f.2.2.getD k g0).1.1 * f.2.1.1) < IntKind.wrap .i64 ((f.2.2.getD k g0).2.1 * f.1.1))) (I _ (IntKind.wrap .i64 (sumG loE f.1.1 f.2.1.1 (f.2.2.take k) + IntKind.wrap .i64 ((f.2.2.getD k g0).1.1 * f.2.1.1))) ∧ μ _ (IntKind.wrap .i64 (sumG loE f.1.1 f.2.1.1 (f.2.2.take k) + IntKind.wrap .i64 ((f.2.2.getD k g0).1.1 * f.2.1.1))) < _) (I _ (IntKind.wrap .i64 (sumG loE f.1.1 f.2.1.1 (f.2.2.take k) + IntKind.wrap .i64 ((f.2.2.getD k g0).2.1 * f.1.1))) ∧ μ _ (IntKind.wrap .i64 (sumG loE f.1.1 f.2.1.1 (f.2.2.take k) + IntKind.wrap .i64 ((f.2.2.getD k g0).2.1 * f.1.1))) < _)
    rw [w1, w2, hw, wrapS (x := sumG loE f.1.1 f.2.1.1 (f.2.2.take k) + (f.2.2.getD k g0).1.1 * f.2.1.1) (by omega) (by omega), wrapS (x := sumG loE f.1.1 f.2.1.1 (f.2.2.take k) + (f.2.2.getD k g0).2.1 * f.1.1) (by omega) (by omega)]
    have ea : angG loE f.1.1 f.2.1.1 (f.2.2.getD k g0) = min ((f.2.2.getD k g0).1.1 * f.2.1.1) ((f.2.2.getD k g0).2.1 * f.1.1) := rfl
    refine cnd_iff.2 ⟨fun c => ?_, fun c => ?_⟩
    · have c := of_decide_eq_true c
      rw [ea, Int.min_eq_left (by omega)] at hI; exact hI
    · have c := of_decide_eq_false c
      rw [ea, Int.min_eq_right (by omega)] at hI; exact hI
  · have m := mulB (show 0 ≤ f.1.1 by omega) (show f.1.1 ≤ 5000 by omega) (show 0 ≤ f.2.1.1 by omega) (show f.2.1.1 ≤ 5000 by omega)
    rw [List.take_length]
    show Q (_, IntKind.wrap .i64 (f.1.1 * f.2.1.1), ())
    rw [wrapS (by omega) (by omega)]
    exact h
theorem p32 {n d : Int} {Q : Int → Prop} (h : f32_wp (n, d, ()) () Q) : V32 n d Q := by
  obtain ⟨⟨h1, h2, h3, h4⟩, h⟩ := h
  have h1 : 0 ≤ n := h1
  have h2 : n ≤ 400000000000 := h2
  have h3 : 1 ≤ d := h3
  have h4 : d ≤ 400000000000 := h4
  have h : Q (degND n d) := h
  have e : Int.tdiv (20340 * n) (355 * d) = Int.tdiv (4068 * n) (71 * d) := by
    rw [show (20340 : Int) * n = 5 * (4068 * n) by omega, show (355 : Int) * d = 5 * (71 * d) by omega]
    exact Int.mul_tdiv_mul_of_pos (4068 * n) (71 * d) (by omega)
  have hr : 0 ≤ Int.tdiv (4068 * n) (71 * d) ∧ Int.tdiv (4068 * n) (71 * d) ≤ 4068 * n := by
    rw [Int.tdiv_eq_ediv_of_nonneg (by omega)]
    exact ⟨Int.ediv_nonneg (by omega) (by omega), Int.ediv_le_self _ (by omega)⟩
  rw [V32, wrapS (x := 355 * d) (by omega) (by omega), wrapS (x := 20340 * n) (by omega) (by omega), e, wrapS (by omega) (by omega), mnI_min]
  exact ⟨by omega, h⟩
theorem p28 {a : Folded} {Q : Fan → Prop} (h : f28_wp a () Q) : V28 a Q := by
  obtain ⟨⟨hf, hn, hg⟩, h⟩ := h
  have h : Q (foldF a) := h
  unfold byteB at hf hn
  have b0 : ∀ x, byteB x → IntKind.wrap .i64 x = x := fun x hx => by unfold byteB at hx; exact wrapS (by omega) (by omega)
  have t1 := Int.emod_nonneg a.2.1.2 (show (20 : Int) ≠ 0 by omega)
  have t2 := Int.emod_lt_of_pos a.2.1.2 (show (0 : Int) < 20 by omega)
  rw [V28, b0 _ hf.1, b0 _ hf.2, b0 _ hn.1, b0 _ hn.2]
  rw [wrapS (x := 8 * a.1.1) (by omega) (by omega), wrapS (x := 300 + 8 * a.1.1) (by omega) (by omega), wrapS (x := 300 + 8 * a.1.1 + a.1.2) (by omega) (by omega), wrapS (x := 20 + a.2.1.1) (by omega) (by omega),
    wrapS (x := 20 + a.2.1.1 + Int.tmod a.2.1.2 20) (by rw [Int.tmod_eq_emod_of_nonneg (by omega)]; omega) (by rw [Int.tmod_eq_emod_of_nonneg (by omega)]; omega)]
  refine ⟨_, rfl, by omega, _, rfl, ?_⟩
  refine upTo1 (n := min 12 a.2.2.length) (by omega) (fun k => ((((300 + 8 * a.1.1, 300 + 8 * a.1.1 + a.1.2), (20 + a.2.1.1, 20 + a.2.1.1 + Int.tmod a.2.1.2 20)), (a.2.2.take k).map foldG) : (Span × Span) × List Gap)) rfl (fun k hk I μ hI => ?_)
  intro hl
  have fin : k = 12 ∨ k = a.2.2.length → Q (((300 + 8 * a.1.1, 300 + 8 * a.1.1 + a.1.2), (20 + a.2.1.1, 20 + a.2.1.1 + Int.tmod a.2.1.2 20), (a.2.2.take k).map foldG)) := fun hk2 => by
    have e : a.2.2.take k = a.2.2.take 12 := by
      rcases hk2 with rfl | rfl
      · rfl
      · rw [List.take_of_length_le (Nat.le_refl _), List.take_of_length_le (by omega)]
    rw [e]; exact h
  refine cnd_iff.2 ⟨fun c => cnd_iff.2 ⟨fun c2 => ?_, fun c2 => ?_⟩, fun c => ?_⟩
  · have c : (k : Int) < a.2.2.length := of_decide_eq_true c
    have c2 : (k : Int) < 12 := of_decide_eq_true c2
    have hk' : k < a.2.2.length := by omega
    obtain ⟨hw, hI⟩ := hI (by omega)
    rw [take_succ_getD (d := ((0, 0, 0, 0) : Int × Int × Int × Int)) hk', List.map_append] at hI
    have hr := hg _ (getD_mem (d := ((0, 0, 0, 0) : Int × Int × Int × Int)) hk')
    obtain ⟨r, hrd⟩ : ∃ r, r = a.2.2.getD k ((0, 0, 0, 0) : Int × Int × Int × Int) := ⟨_, rfl⟩
    rw [← hrd] at hI hr
    obtain ⟨q1, q2, q3, q4⟩ := hr
    have u1 := b0 _ q1
    have u2 := b0 _ q2
    have u3 := b0 _ q3
    have u4 := b0 _ q4
    unfold byteB at q1 q2 q3 q4
    have v1 := Int.emod_nonneg r.2.1 (show (30 : Int) ≠ 0 by omega)
    have v2 := Int.emod_lt_of_pos r.2.1 (show (0 : Int) < 30 by omega)
    have v3 := Int.emod_nonneg r.2.2.2 (show (6 : Int) ≠ 0 by omega)
    have v4 := Int.emod_lt_of_pos r.2.2.2 (show (0 : Int) < 6 by omega)
    rw [show Int.toNat (k : Int) = k from rfl, ← hrd, u1, u2, u3, u4, hw]
    have y1 : Int.tmod r.2.1 30 = r.2.1 % 30 := Int.tmod_eq_emod_of_nonneg q2.1
    have y2 : Int.tmod r.2.2.2 6 = r.2.2.2 % 6 := Int.tmod_eq_emod_of_nonneg q4.1
    have y3 : Int.tdiv r.2.2.1 4 = r.2.2.1 / 4 := Int.tdiv_eq_ediv_of_nonneg q3.1
    rw [wrapS (x := 2 * r.1) (by omega) (by omega), wrapS (x := 2 * r.1 + Int.tmod r.2.1 30) (by omega) (by omega), wrapS (x := Int.tdiv r.2.2.1 4) (by omega) (by omega), wrapS (x := Int.tdiv r.2.2.1 4 + Int.tmod r.2.2.2 6) (by omega) (by omega)]
    refine ⟨by omega, by omega, by omega, by omega, _, rfl, by omega, _, rfl, ?_, hI⟩
    simp only [List.length_map, List.length_take, List.length_cons, List.length_nil]
    omega
  · have c2 : ¬ (k : Int) < 12 := of_decide_eq_false c2
    exact fin (.inl (by omega))
  · have c : ¬ (k : Int) < a.2.2.length := of_decide_eq_false c
    exact fin (.inr (by omega))
end Go.Proofs.Rz
set_option linter.unusedVariables false
set_option maxRecDepth 100000
namespace Go.Proofs.Rz
open Go Go.GX Go.Proofs

def V10 (Q : Bool → Prop) : Prop :=
  f39_wp () () fun (r : (Int × Int) × (Int × Int) × List ((Int × Int) × Int × Int)) ↦
    f13_wp ((Prod.fst (Prod.fst r), Prod.snd (Prod.fst r)), (Prod.fst (Prod.fst (Prod.snd r)), Prod.snd (Prod.fst (Prod.snd r))), Prod.snd (Prod.snd r))
      () fun (r : (Int × Int) × Int × Unit) ↦
      f39_wp () () fun (r_1 : (Int × Int) × (Int × Int) × List ((Int × Int) × Int × Int)) ↦
        f30_wp
          ((Prod.fst (Prod.fst r_1), Prod.snd (Prod.fst r_1)), (Prod.fst (Prod.fst (Prod.snd r_1)), Prod.snd (Prod.fst (Prod.snd r_1))),
            Prod.snd (Prod.snd r_1))
          () fun (r_2 : List Int × Int × Unit) ↦
          f39_wp () () fun (r_3 : (Int × Int) × (Int × Int) × List ((Int × Int) × Int × Int)) ↦
            f17_wp
              (((Prod.fst (Prod.fst r_3), Prod.snd (Prod.fst r_3)), (Prod.fst (Prod.fst (Prod.snd r_3)), Prod.snd (Prod.fst (Prod.snd r_3))),
                  Prod.snd (Prod.snd r_3)),
                (100 : Int), ())
              () fun (r_4 : Int × Int × Int × Unit) ↦
              f39_wp () () fun (r_5 : (Int × Int) × (Int × Int) × List ((Int × Int) × Int × Int)) ↦
                f34_wp ((10 : Int), (14 : Int), ()) () fun (r_6 : Int × Int) ↦
                  f21_wp
                    (((Prod.fst (Prod.fst r_5), Prod.snd (Prod.fst r_5)), (Prod.fst (Prod.fst (Prod.snd r_5)), Prod.snd (Prod.fst (Prod.snd r_5))),
                        Prod.snd (Prod.snd r_5)),
                      (Prod.fst r_6, Prod.snd r_6), ())
                    () fun (r_7 : List Int × Int × Unit) ↦
                    f39_wp () () fun (r_8 : (Int × Int) × (Int × Int) × List ((Int × Int) × Int × Int)) ↦
                      f24_wp
                        (((Prod.fst (Prod.fst r_8), Prod.snd (Prod.fst r_8)), (Prod.fst (Prod.fst (Prod.snd r_8)), Prod.snd (Prod.fst (Prod.snd r_8))),
                            Prod.snd (Prod.snd r_8)),
                          (45 : Int), ())
                        () fun (r_9 : Int × Int × Unit) ↦
                        f39_wp () () fun (r_10 : (Int × Int) × (Int × Int) × List ((Int × Int) × Int × Int)) ↦
                          f26_wp
                            (((Prod.fst (Prod.fst r_10), Prod.snd (Prod.fst r_10)),
                                (Prod.fst (Prod.fst (Prod.snd r_10)), Prod.snd (Prod.fst (Prod.snd r_10))), Prod.snd (Prod.snd r_10)),
                              (18 : Int), ())
                            () fun (r_11 : Int × Int × Unit) ↦
                            f34_wp ((100 : Int), (120 : Int), ()) () fun (r_12 : Int × Int) ↦
                              f34_wp ((1 : Int), (1 : Int), ()) () fun (r_13 : Int × Int) ↦
                                f34_wp ((30 : Int), (40 : Int), ()) () fun (r_14 : Int × Int) ↦
                                  f34_wp ((1 : Int), (1 : Int), ()) () fun (r_15 : Int × Int) ↦
                                    f40_wp
                                      (((Prod.fst r_12, Prod.snd r_12), (Prod.fst r_13, Prod.snd r_13), (50 : Int)) ::
                                        ((Prod.fst r_14, Prod.snd r_14), (Prod.fst r_15, Prod.snd r_15), (200 : Int)) ::
                                          ([] : List ((Int × Int) × (Int × Int) × Int)))
                                      () fun (r_16 : (Int × Int) × (Int × Int) × Int × Unit) ↦
                                      cnd (Prod.fst (Prod.snd r) != (0 : Int)) (Q false)
                                        (cnd (Prod.fst (Prod.snd r_2) != (0 : Int)) (Q false)
                                          (cnd (Prod.fst (Prod.snd (Prod.snd r_4)) != (0 : Int)) (Q false)
                                            (cnd (Prod.fst (Prod.snd r_7) != (0 : Int)) (Q false)
                                              (cnd (Prod.fst (Prod.snd r_9) != (0 : Int)) (Q false)
                                                (cnd (Prod.fst (Prod.snd r_11) != (0 : Int)) (Q false)
                                                  (cnd (Prod.fst (Prod.snd (Prod.snd r_16)) != (0 : Int)) (Q false)
                                                    (∃ (r_17 : Int × Int),
                                                      (f34_wp ((16 : Int), (19 : Int), ()) () fun (r' : Int × Int) ↦ r' = r_17) ∧
                                                        cnd (Prod.fst (Prod.fst r) == Prod.fst r_17 && (Prod.snd (Prod.fst r) == Prod.snd r_17 && true))
                                                          (∃ (r : Bool),
                                                            (f41_wp (Prod.fst r_2, (1 : Int) :: (3 : Int) :: ([] : List Int), ()) () fun (r' : Bool) ↦
                                                                r' = r) ∧
                                                              cnd r
                                                                (cnd (Prod.fst r_4 == (0 : Int))
                                                                  (cnd (Prod.fst (Prod.snd r_4) == (18 : Int))
                                                                    (∃ (r : Bool),
                                                                      (f41_wp (Prod.fst r_7, (0 : Int) :: ([] : List Int), ()) () fun (r' : Bool) ↦
                                                                          r' = r) ∧
                                                                        cnd r
                                                                          (cnd (Prod.fst r_9 == (5 : Int))
                                                                            (cnd (Prod.fst r_11 == (235 : Int))
                                                                              (cnd
                                                                                (Prod.fst (Prod.fst r_16) == (80 : Int) &&
                                                                                  (Prod.snd (Prod.fst r_16) == (1 : Int) && true))
                                                                                (Q
                                                                                  (Prod.fst (Prod.fst (Prod.snd r_16)) == (650 : Int) &&
                                                                                    (Prod.snd (Prod.fst (Prod.snd r_16)) == (7 : Int) && true)))
                                                                                (Q false))
                                                                              (Q false))
                                                                            (Q false))
                                                                          (Q false))
                                                                    (Q false))
                                                                  (Q false))
                                                                (Q false))
                                                          (Q false))))))))
theorem v10 (Q : Bool → Prop) : V10 Q = vcFunc (S1 [(39, f39_ct), (13, f13_ct), (30, f30_ct), (17, f17_ct), (34, f34_ct), (21, f21_ct), (24, f24_ct), (26, f26_ct), (40, f40_ct), (41, f41_ct), (23, f23_ct)] [] [] []) f10_ct.own f10_ct.fresh no_an Tryz.f10 (bodyOf Tryz.f10) f10_ct.A f10_ct.C f10_ct.R () () Q := by kernel_rfl

end Go.Proofs.Rz
set_option linter.unusedVariables false
set_option maxRecDepth 100000
namespace Go.Proofs.Rz
open Go Go.GX Go.Proofs

theorem w28 {K : Span × Int × Unit → Prop} (h : K ((16, 19), 0, ())) : f13_wp fan0 () K := by
  have e : (if checkF fan0 = 0 then (opensF fan0, 0, ()) else ((0, 0), checkF fan0, ()) : Span × Int × Unit) = ((16, 19), 0, ()) := by decide +kernel
  show K _
  rw [e]; exact h
theorem w12 {K : List Int × Int × Unit → Prop} (h : K ([1, 3], 0, ())) : f30_wp fan0 () K := by
  have e : (if checkF fan0 = 0 then (fan0.2.2.map (stopF fan0.1 fan0.2.1), 0, ()) else ([], checkF fan0, ()) : List Int × Int × Unit) = ([1, 3], 0, ()) := by decide +kernel
  show K _
  rw [e]; exact h
theorem w32 {K : Int × Int × Int × Unit → Prop} (h : K (0, 18, 0, ())) : f17_wp (fan0, 100, ()) () K := by
  have e : widenF fan0 100 = (0, 18, 0, ()) := by decide +kernel
  show K (widenF fan0 100)
  rw [e]; exact h
theorem w25 {K : List Int × Int × Unit → Prop} (h : K ([0], 0, ())) : f21_wp (fan0, (10, 14), ()) () K := by
  have e : wrongF fan0 (10, 14) = ([0], 0, ()) := by decide +kernel
  refine ⟨fun _ _ _ _ => by show 2 ≤ 12; omega, ?_⟩
  show K (wrongF fan0 (10, 14))
  rw [e]; exact h
theorem w30 {K : Int × Int × Unit → Prop} (h : K (5, 0, ())) : f24_wp (fan0, 45, ()) () K := by
  have e : sticksF fan0 45 = (5, 0, ()) := by decide +kernel
  show K (sticksF fan0 45)
  rw [e]; exact h
theorem w31 {K : Int × Int × Unit → Prop} (h : K (235, 0, ())) : f26_wp (fan0, 18, ()) () K := by
  have e : pleatF fan0 18 = (235, 0, ()) := by decide +kernel
  show K (pleatF fan0 18)
  rw [e]; exact h
theorem w17 {K : Ratio × Ratio × Int × Unit → Prop} (h : K ((80, 1), (650, 7), 0, ())) : f40_wp [((100, 120), (1, 1), 50), ((30, 40), (1, 1), 200)] () K := by
  have e : balanceF [((100, 120), (1, 1), 50), ((30, 40), (1, 1), 200)] = ((80, 1), (650, 7), 0, ()) := by decide +kernel
  show K (balanceF _)
  rw [e]; exact h
theorem p10 {Q : Bool → Prop} (h : f10_wp () () Q) : V10 Q := by
  unfold V10 f39_wp f34_wp
  refine w28 ?_
  refine w12 ?_
  refine w32 ?_
  refine w25 ?_
  refine w30 ?_
  refine w31 ?_
  refine w17 ?_
  refine cndF (cndF (cndF (cndF (cndF (cndF (cndF ⟨_, rfl, cndT ⟨_, rfl, cndT (cndT (cndT ⟨_, rfl, cndT (cndT (cndT (cndT h)))⟩))⟩⟩))))))
theorem cnd_of {c : Bool} {p q : Prop} (hc : c = true) (h : p) : cnd c p q := by rw [hc]; exact h
theorem cnd_not {c : Bool} {p q : Prop} (hc : c = false) (h : q) : cnd c p q := by rw [hc]; exact h
end Go.Proofs.Rz
set_option maxRecDepth 100000
set_option maxHeartbeats 2000000
namespace Go.Proofs.Rz
open Go Go.GX Go.Proofs
variable [Inhabited BaseD]
theorem ok34 : CallsOK Tryz.prog (assoc glT) 34 f34_ct :=
  callsOK_E (env (ct := []) (ios := []) (hos := []) (lits := []) AllOK.nil AllW.nil AllH.nil) no_an Tryz.func34 (by kernel_rfl) (by kernel_rfl) f34_ct fun ⟨a, b, _⟩ _ Q h => (v34 a b Q).mp (p34 h)
theorem ok39 : CallsOK Tryz.prog (assoc glT) 39 f39_ct :=
  callsOK_E (env (ct := [(34, f34_ct)]) (ios := []) (hos := []) (lits := [108]) (AllOK.cons ok34 AllOK.nil) AllW.nil AllH.nil) no_an Tryz.func39 (by kernel_rfl) (by kernel_rfl) f39_ct fun () _ Q h => (v39  Q).mp (p39 h)
theorem ok74 : CallsOK Tryz.prog (assoc glT) 74 f74_ct :=
  callsOK_E (env (ct := []) (ios := []) (hos := []) (lits := []) AllOK.nil AllW.nil AllH.nil) no_an Tryz.func74 (by kernel_rfl) (by kernel_rfl) f74_ct fun ⟨b, i, _⟩ _ Q h => (v74 b i Q).mp (p74 h)
theorem ok73 : CallsOK Tryz.prog (assoc glT) 73 f73_ct :=
  callsOK_E (env (ct := []) (ios := []) (hos := []) (lits := []) AllOK.nil AllW.nil AllH.nil) no_an Tryz.func73 (by kernel_rfl) (by kernel_rfl) f73_ct fun ⟨s, b, _⟩ _ Q h => (v73 s b Q).mp (p73 h)
theorem ok72 : CallsOK Tryz.prog (assoc glT) 72 f72_ct :=
  callsOK_E (env (ct := [(74, f74_ct), (73, f73_ct), (34, f34_ct)]) (ios := []) (hos := []) (lits := []) (AllOK.cons ok74 (AllOK.cons ok73 (AllOK.cons ok34 AllOK.nil))) AllW.nil AllH.nil) no_an Tryz.func72 (by kernel_rfl) (by kernel_rfl) f72_ct fun ⟨s, i, _⟩ ⟨b, _⟩ Q h => (v72 s i b Q).mp (p72 h)
theorem ok31 : CallsOK Tryz.prog (assoc glT) 31 f31_ct :=
  callsOK_E (env (ct := [(72, f72_ct)]) (ios := []) (hos := []) (lits := []) (AllOK.cons ok72 AllOK.nil) AllW.nil AllH.nil) f31_an Tryz.func31 (by kernel_rfl) (by kernel_rfl) f31_ct fun ⟨f, b, _⟩ _ Q h => (v31 f b Q).mp (p31 h)
theorem ok33 : CallsOK Tryz.prog (assoc glT) 33 f33_ct :=
  callsOK_E (env (ct := []) (ios := []) (hos := []) (lits := []) AllOK.nil AllW.nil AllH.nil) f33_an Tryz.func33 (by kernel_rfl) (by kernel_rfl) f33_ct fun f _ Q h => (v33 f Q).mp (p33 h)
theorem ok32 : CallsOK Tryz.prog (assoc glT) 32 f32_ct :=
  callsOK_E (env (ct := []) (ios := []) (hos := []) (lits := []) AllOK.nil AllW.nil AllH.nil) no_an Tryz.func32 (by kernel_rfl) (by kernel_rfl) f32_ct fun ⟨n, d, _⟩ _ Q h => (v32 n d Q).mp (p32 h)
theorem ok28 : CallsOK Tryz.prog (assoc glT) 28 f28_ct :=
  callsOK_E (env (ct := [(34, f34_ct)]) (ios := []) (hos := []) (lits := []) (AllOK.cons ok34 AllOK.nil) AllW.nil AllH.nil) f28_an Tryz.func28 (by kernel_rfl) (by kernel_rfl) f28_ct fun a _ Q h => (v28 a Q).mp (p28 h)
theorem ok10 : CallsOK Tryz.prog (assoc glT) 10 f10_ct :=
  callsOK_E (env (ct := [(39, f39_ct), (13, f13_ct), (30, f30_ct), (17, f17_ct), (34, f34_ct), (21, f21_ct), (24, f24_ct), (26, f26_ct), (40, f40_ct), (41, f41_ct), (23, f23_ct)]) (ios := []) (hos := []) (lits := []) (AllOK.cons ok39 (AllOK.cons ok13 (AllOK.cons ok30 (AllOK.cons ok17 (AllOK.cons ok34 (AllOK.cons ok21 (AllOK.cons ok24 (AllOK.cons ok26 (AllOK.cons ok40 (AllOK.cons ok41 (AllOK.cons ok23 AllOK.nil))))))))))) AllW.nil AllH.nil) no_an Tryz.func10 (by kernel_rfl) (by kernel_rfl) f10_ct fun () _ Q h => (v10  Q).mp (p10 h)
end Go.Proofs.Rz
set_option linter.unusedVariables false
set_option maxRecDepth 100000
namespace Go.Proofs.Rz
open Go Go.GX Go.Proofs

theorem gen21 {a : Folded} {K : Fan → Prop} (h : FoldOK a) (hk : ∀ f, f = foldF a → K f) : f28_wp a () K := ⟨h, hk _ rfl⟩
theorem gen11 {f : Fan} {K : Fan → Prop} (h : f.2.2.length ≤ 1000000) (hk : K f) : f11_wp f () K := ⟨h, hk⟩
theorem gen28 {g : Fan} {K : Span × Int × Unit → Prop} (hg : CheckOK g) (hk : K (opensF g, 0, ())) : f13_wp g () K := by
  show K (if checkF g = 0 then (opensF g, 0, ()) else ((0, 0), checkF g, ()))
  rw [if_pos (checkF_ok.2 hg)]; exact hk
theorem foldG_ok {r : Int × Int × Int × Int} (h : rowOK r) : (0 ≤ (foldG r).1.1 ∧ (foldG r).1.1 ≤ (foldG r).1.2 ∧ (foldG r).1.2 ≤ 540) ∧ 0 ≤ (foldG r).2.1 ∧ (foldG r).2.1 ≤ (foldG r).2.2 ∧ (foldG r).2.2 ≤ 70 := by
  obtain ⟨q1, q2, q3, q4⟩ := h
  unfold byteB at q1 q2 q3 q4
  have v1 := Int.emod_nonneg r.2.1 (show (30 : Int) ≠ 0 by omega)
  have v2 := Int.emod_lt_of_pos r.2.1 (show (0 : Int) < 30 by omega)
  have v3 := Int.emod_nonneg r.2.2.2 (show (6 : Int) ≠ 0 by omega)
  have v4 := Int.emod_lt_of_pos r.2.2.2 (show (0 : Int) < 6 by omega)
  have y1 : Int.tmod r.2.1 30 = r.2.1 % 30 := Int.tmod_eq_emod_of_nonneg q2.1
  have y2 : Int.tmod r.2.2.2 6 = r.2.2.2 % 6 := Int.tmod_eq_emod_of_nonneg q4.1
  have y3 : Int.tdiv r.2.2.1 4 = r.2.2.1 / 4 := Int.tdiv_eq_ediv_of_nonneg q3.1
  unfold foldG
  dsimp only
  omega

structure SmallFan (f : Fan) : Prop where
  ok : CheckOK f
  n : f.2.2.length ≤ 12
  far : f.1.2 ≤ 2600
  near : f.2.1.2 ≤ 294
  lo : 300 ≤ f.1.1
  g : ∀ g, g ∈ f.2.2 → (0 ≤ g.1.1 ∧ g.1.1 ≤ g.1.2 ∧ g.1.2 ≤ 540) ∧ 0 ≤ g.2.1 ∧ g.2.1 ≤ g.2.2 ∧ g.2.2 ≤ 70
theorem fold_small {a : Folded} (h : FoldOK a) : SmallFan (foldF a) := by
  obtain ⟨hf, hn, hg⟩ := h
  unfold byteB at hf hn
  have t1 := Int.emod_nonneg a.2.1.2 (show (20 : Int) ≠ 0 by omega)
  have t2 := Int.emod_lt_of_pos a.2.1.2 (show (0 : Int) < 20 by omega)
  have t3 : Int.tmod a.2.1.2 20 = a.2.1.2 % 20 := Int.tmod_eq_emod_of_nonneg hn.2.1
  have hgs : ∀ g, g ∈ (foldF a).2.2 → (0 ≤ g.1.1 ∧ g.1.1 ≤ g.1.2 ∧ g.1.2 ≤ 540) ∧ 0 ≤ g.2.1 ∧ g.2.1 ≤ g.2.2 ∧ g.2.2 ≤ 70 := fun g hgm => by
    obtain ⟨r, hr, rfl⟩ := List.mem_map.1 (show g ∈ (a.2.2.take 12).map foldG from hgm)
    exact foldG_ok (hg r (List.mem_of_mem_take hr))
  have hl : (foldF a).2.2.length ≤ 12 := by
    show ((a.2.2.take 12).map foldG).length ≤ 12
    rw [List.length_map, List.length_take]; omega
  have e1 : (foldF a).1 = (300 + 8 * a.1.1, 300 + 8 * a.1.1 + a.1.2) := rfl
  have e2 : (foldF a).2.1 = (20 + a.2.1.1, 20 + a.2.1.1 + Int.tmod a.2.1.2 20) := rfl
  refine ⟨⟨?_, ?_, ?_, by omega, fun g hgm => ?_⟩, hl, ?_, ?_, ?_, hgs⟩
  · rw [e1]; dsimp only; omega
  · rw [e2]; dsimp only; omega
  · rw [e1, e2]; dsimp only; omega
  · have := hgs g hgm; omega
  · rw [e1]; dsimp only; omega
  · rw [e2]; dsimp only; omega
  · rw [e1]; dsimp only; omega

theorem nb (a b : Bool) (h : a = b) : (!(a == b)) = false := by rw [h]; cases b <;> rfl
end Go.Proofs.Rz
set_option linter.unusedVariables false
set_option maxRecDepth 100000
namespace Go.Proofs.Rz
open Go Go.GX Go.Proofs

end Go.Proofs.Rz
set_option linter.unusedVariables false
set_option maxRecDepth 100000
namespace Go.Proofs.Rz
open Go Go.GX Go.Proofs

end Go.Proofs.Rz
set_option linter.unusedVariables false
set_option maxRecDepth 100000
namespace Go.Proofs.Rz
open Go Go.GX Go.Proofs

def V3 (f : (Int × Int) × (Int × Int) × List ((Int × Int) × Int × Int)) (Q : Bool → Prop) : Prop :=
  List.length (Prod.snd (Prod.snd f)) ≤ (9223372036854775807 : Nat) →
    cnd (decide ((↑(List.length (Prod.snd (Prod.snd f))) : Int) > (50 : Int))) (f10_wp () () fun (r : Bool) ↦ Q r)
      (f11_wp
        ((Prod.fst (Prod.fst f), Prod.snd (Prod.fst f)), (Prod.fst (Prod.fst (Prod.snd f)), Prod.snd (Prod.fst (Prod.snd f))), Prod.snd (Prod.snd f)) ()
        fun (r : (Int × Int) × (Int × Int) × List ((Int × Int) × Int × Int)) ↦
        f12_wp
          ((Prod.fst (Prod.fst r), Prod.snd (Prod.fst r)), (Prod.fst (Prod.fst (Prod.snd r)), Prod.snd (Prod.fst (Prod.snd r))), Prod.snd (Prod.snd r))
          () fun (r_1 : Int) ↦
          f13_wp
            ((Prod.fst (Prod.fst r), Prod.snd (Prod.fst r)), (Prod.fst (Prod.fst (Prod.snd r)), Prod.snd (Prod.fst (Prod.snd r))),
              Prod.snd (Prod.snd r))
            () fun (r_2 : (Int × Int) × Int × Unit) ↦
            f14_wp
              ((Prod.fst (Prod.fst f), Prod.snd (Prod.fst f)), (Prod.fst (Prod.fst (Prod.snd f)), Prod.snd (Prod.fst (Prod.snd f))),
                Prod.snd (Prod.snd f))
              () fun (r_3 : Int) ↦
              f15_wp
                (((Prod.fst (Prod.fst r), Prod.snd (Prod.fst r)), (Prod.fst (Prod.fst (Prod.snd r)), Prod.snd (Prod.fst (Prod.snd r))),
                    Prod.snd (Prod.snd r)),
                  ((Prod.fst (Prod.fst f), Prod.snd (Prod.fst f)), (Prod.fst (Prod.fst (Prod.snd f)), Prod.snd (Prod.fst (Prod.snd f))),
                    Prod.snd (Prod.snd f)),
                  ())
                () fun (r : Bool) ↦
                cnd (!r) (Q false)
                  (cnd (r_1 != r_3) (Q false)
                    (cnd (Prod.fst (Prod.snd r_2) != r_3) (Q false)
                      (cnd (r_3 != (0 : Int))
                        (cnd (Prod.fst (Prod.fst r_2) == (0 : Int) && (Prod.snd (Prod.fst r_2) == (0 : Int) && true))
                          (f10_wp () () fun (r : Bool) ↦ Q r) (Q false))
                        (∃ (r : Int × Int),
                          (f16_wp
                              ((Prod.fst (Prod.fst f), Prod.snd (Prod.fst f)), (Prod.fst (Prod.fst (Prod.snd f)), Prod.snd (Prod.fst (Prod.snd f))),
                                Prod.snd (Prod.snd f))
                              () fun (r' : Int × Int) ↦ r' = r) ∧
                            cnd (Prod.fst (Prod.fst r_2) == Prod.fst r && (Prod.snd (Prod.fst r_2) == Prod.snd r && true))
                              (∃ (r : Bool), (f10_wp () () fun (r' : Bool) ↦ r' = r) ∧ Q r) (Q false))))))
theorem v3 (f : (Int × Int) × (Int × Int) × List ((Int × Int) × Int × Int)) (Q : Bool → Prop) : V3 f Q = vcFunc (S1 [(10, f10_ct), (11, f11_ct), (12, f12_ct), (13, f13_ct), (14, f14_ct), (15, f15_ct), (16, f16_ct)] [] [] []) f3_ct.own f3_ct.fresh no_an Tryz.f3 (bodyOf Tryz.f3) f3_ct.A f3_ct.C f3_ct.R f () Q := by kernel_rfl

def V4 (f : (Int × Int) × (Int × Int) × List ((Int × Int) × Int × Int)) (more : Int) (Q : Bool → Prop) : Prop :=
  List.length (Prod.snd (Prod.snd f)) ≤ (9223372036854775807 : Nat) →
    cnd (decide ((↑(List.length (Prod.snd (Prod.snd f))) : Int) > (50 : Int))) (f10_wp () () fun (r : Bool) ↦ Q r)
      (f11_wp
        ((Prod.fst (Prod.fst f), Prod.snd (Prod.fst f)), (Prod.fst (Prod.fst (Prod.snd f)), Prod.snd (Prod.fst (Prod.snd f))), Prod.snd (Prod.snd f)) ()
        fun (r : (Int × Int) × (Int × Int) × List ((Int × Int) × Int × Int)) ↦
        f17_wp
          (((Prod.fst (Prod.fst r), Prod.snd (Prod.fst r)), (Prod.fst (Prod.fst (Prod.snd r)), Prod.snd (Prod.fst (Prod.snd r))),
              Prod.snd (Prod.snd r)),
            more, ())
          () fun (r_1 : Int × Int × Int × Unit) ↦
          f15_wp
            (((Prod.fst (Prod.fst r), Prod.snd (Prod.fst r)), (Prod.fst (Prod.fst (Prod.snd r)), Prod.snd (Prod.fst (Prod.snd r))),
                Prod.snd (Prod.snd r)),
              ((Prod.fst (Prod.fst f), Prod.snd (Prod.fst f)), (Prod.fst (Prod.fst (Prod.snd f)), Prod.snd (Prod.fst (Prod.snd f))),
                Prod.snd (Prod.snd f)),
              ())
            () fun (r : Bool) ↦
            cnd (!r) (Q false)
              (f14_wp
                ((Prod.fst (Prod.fst f), Prod.snd (Prod.fst f)), (Prod.fst (Prod.fst (Prod.snd f)), Prod.snd (Prod.fst (Prod.snd f))),
                  Prod.snd (Prod.snd f))
                () fun (r : Int) ↦
                ∃ (I : Bool → Prop),
                  cnd (r == (0 : Int)) (f18_wp (more, (0 : Int), (1000 : Int), ()) () fun (r : Bool) ↦ I !r) (I false) ∧
                    ∀ (x : Bool),
                      I x →
                        ∃ (I : Int → Prop),
                          cnd x (I (4 : Int))
                              (cnd (r == (0 : Int))
                                (List.length (Prod.snd (Prod.snd f)) ≤ (9223372036854775807 : Nat) →
                                  cnd ((↑(List.length (Prod.snd (Prod.snd f))) : Int) == (0 : Int)) (I (7 : Int)) (I r))
                                (I r)) ∧
                            ∀ (x : Int),
                              I x →
                                cnd (x != (0 : Int))
                                  (cnd (Prod.fst (Prod.snd (Prod.snd r_1)) == x)
                                    (cnd (Prod.fst r_1 == (0 : Int))
                                      (cnd (Prod.fst (Prod.snd r_1) == (0 : Int)) (f10_wp () () fun (r : Bool) ↦ Q r) (Q false)) (Q false))
                                    (Q false))
                                  (f19_wp
                                    (((Prod.fst (Prod.fst f), Prod.snd (Prod.fst f)),
                                        (Prod.fst (Prod.fst (Prod.snd f)), Prod.snd (Prod.fst (Prod.snd f))), Prod.snd (Prod.snd f)),
                                      more, ())
                                    () fun (r : Int × Int × Unit) ↦
                                    cnd (Prod.fst (Prod.snd (Prod.snd r_1)) == (0 : Int))
                                      (cnd (Prod.fst r_1 == Prod.fst r)
                                        (cnd (Prod.fst (Prod.snd r_1) == Prod.fst (Prod.snd r)) (f10_wp () () fun (r : Bool) ↦ Q r) (Q false))
                                        (Q false))
                                      (Q false))))
theorem v4 (f : (Int × Int) × (Int × Int) × List ((Int × Int) × Int × Int)) (more : Int) (Q : Bool → Prop) : V4 f more Q = vcFunc (S1 [(10, f10_ct), (11, f11_ct), (17, f17_ct), (15, f15_ct), (14, f14_ct), (18, f18_ct), (19, f19_ct)] [] [] []) f4_ct.own f4_ct.fresh f4_an Tryz.f4 (bodyOf Tryz.f4) f4_ct.A f4_ct.C f4_ct.R (f, more, ()) () Q := by kernel_rfl

end Go.Proofs.Rz
set_option linter.unusedVariables false
set_option maxRecDepth 100000
namespace Go.Proofs.Rz
open Go Go.GX Go.Proofs

theorem gen12 {f : Fan} {K : Int → Prop} (h : K (checkF f)) : f12_wp f () K := h
theorem gen14 {f : Fan} {K : Int → Prop} (h : K (checkF f)) : f14_wp f () K := h
theorem gen15 {a b : Fan} {K : Bool → Prop} (h : K (decide (a = b))) : f15_wp (a, b, ()) () K := h
theorem gen13a {f : Fan} {K : Span × Int × Unit → Prop} (e : checkF f = 0) (h : K (opensF f, 0, ())) : f13_wp f () K := by
  show K (if checkF f = 0 then (opensF f, 0, ()) else ((0, 0), checkF f, ()))
  rw [if_pos e]; exact h
theorem gen13b {f : Fan} {K : Span × Int × Unit → Prop} (e : checkF f ≠ 0) (h : K ((0, 0), checkF f, ())) : f13_wp f () K := by
  show K (if checkF f = 0 then (opensF f, 0, ()) else ((0, 0), checkF f, ()))
  rw [if_neg e]; exact h
theorem gen17 {f : Fan} {d : Int} {K : Int × Int × Int × Unit → Prop} (hk : ∀ z, z = widenF f d → K z) : f17_wp (f, d, ()) () K := hk _ rfl
theorem beqF {x : Int} (h : x ≠ 0) : (x == 0) = false := by simpa using h
theorem beqT {x y : Int} (h : x = y) : (x == y) = true := by simpa using h
theorem p3 {f : Fan} {Q : Bool → Prop} (h : f3_wp f () Q) : V3 f Q := by
  have h : Q true := h
  intro hl
  refine cnd_iff.2 ⟨fun c => h, fun c => ?_⟩
  have c : ¬ (f.2.2.length : Int) > 50 := of_decide_eq_false c
  refine gen11 (f := f) (by omega) (gen12 (f := f) ?_)
  by_cases e : checkF f = 0
  · refine gen13a (f := f) e (gen14 (f := f) (gen15 (a := f) (b := f) ?_))
    refine cnd_not (by simp) (cnd_not (by simp) (cnd_not (by simp [e]) (cnd_not (by simp [e]) ?_)))
    exact ⟨_, ⟨(checkF_ok.1 e).fan, rfl⟩, cnd_of (by simp) ⟨true, rfl, h⟩⟩
  · refine gen13b (f := f) e (gen14 (f := f) (gen15 (a := f) (b := f) ?_))
    exact cnd_not (by simp) (cnd_not (by simp) (cnd_not (by simp) (cnd_of (bne0.1.2 e) (cndT h))))
theorem p4 {f : Fan} {more : Int} {Q : Bool → Prop} (h : f4_wp (f, more, ()) () Q) : V4 f more Q := by
  have h : Q true := h
  intro hl
  refine cnd_iff.2 ⟨fun c => h, fun c => ?_⟩
  have c : ¬ (f.2.2.length : Int) > 50 := of_decide_eq_false c
  refine gen11 (f := f) (by omega) (gen17 (f := f) (d := more) fun z hz => gen15 (a := f) (b := f) (cnd_not (by simp) (gen14 (f := f) ?_)))
  unfold widenF at hz
  by_cases e : checkF f = 0
  · rw [if_neg (by omega)] at hz
    have ho := checkF_ok.1 e
    cases i : inB 0 1000 more with
    | false =>
      rw [if_pos i] at hz
      subst hz
      refine ⟨fun x => x = true, cnd_of (beqT e) (by show (!inB 0 1000 more) = true; rw [i]; rfl), ?_⟩
      rintro _ rfl
      refine ⟨fun x => x = 4, cndT rfl, ?_⟩
      rintro _ rfl
      exact cndT (cndT (cndT (cndT h)))
    | true =>
      rw [if_neg (by rw [i]; simp)] at hz
      refine ⟨fun x => x = false, cnd_of (beqT e) (by show (!inB 0 1000 more) = false; rw [i]; rfl), ?_⟩
      rintro _ rfl
      by_cases n : f.2.2.length = 0
      · rw [if_pos n] at hz
        subst hz
        refine ⟨fun x => x = 7, cndF (cnd_of (beqT e) fun _ => cnd_of (by rw [n]; rfl) rfl), ?_⟩
        rintro _ rfl
        exact cndT (cndT (cndT (cndT h)))
      · rw [if_neg n] at hz
        subst hz
        refine ⟨fun x => x = 0, cndF (cnd_of (beqT e) fun _ => cnd_not (by simpa using n) e), ?_⟩
        rintro _ rfl
        simp only [inB, Bool.and_eq_true, decide_eq_true_eq] at i
        exact cndF ⟨⟨ho, i⟩, cndT (cnd_of (by simp) (cnd_of (by simp) h))⟩
  · rw [if_pos e] at hz
    subst hz
    refine ⟨fun x => x = false, cnd_not (beqF e) rfl, ?_⟩
    rintro _ rfl
    refine ⟨fun x => x = checkF f, cndF (cnd_not (beqF e) rfl), ?_⟩
    rintro _ rfl
    exact cnd_of (bne0.1.2 e) (cnd_of (by simp) (cndT (cndT h)))
end Go.Proofs.Rz
set_option linter.unusedVariables false
set_option maxRecDepth 100000
namespace Go.Proofs.Rz
open Go Go.GX Go.Proofs

def leR (a b : Ratio) : Prop := a.1 * b.2 ≤ b.1 * a.2
theorem leR_trans {a b c : Ratio} (ha : 1 ≤ a.2) (hb : 1 ≤ b.2) (hc : 1 ≤ c.2) (h1 : leR a b) (h2 : leR b c) : leR a c := by
  unfold leR at *
  have e1 := Int.mul_le_mul_of_nonneg_right h1 (show 0 ≤ c.2 by omega)
  have e2 := Int.mul_le_mul_of_nonneg_right h2 (show 0 ≤ a.2 by omega)
  have a1 : a.1 * b.2 * c.2 = a.1 * c.2 * b.2 := by rw [Int.mul_assoc, Int.mul_comm b.2 c.2, ← Int.mul_assoc]
  have a2 : b.1 * a.2 * c.2 = b.1 * c.2 * a.2 := by rw [Int.mul_assoc, Int.mul_comm a.2 c.2, ← Int.mul_assoc]
  have a3 : c.1 * b.2 * a.2 = c.1 * a.2 * b.2 := by rw [Int.mul_assoc, Int.mul_comm b.2 a.2, ← Int.mul_assoc]
  exact Int.le_of_mul_le_mul_right (show a.1 * c.2 * b.2 ≤ c.1 * a.2 * b.2 by omega) (by omega)
inductive Att : List Stick → Ratio → Prop
  | nil : Att [] (0, 0)
  | cons {s : Stick} {t : List Stick} {r : Ratio} {w : Int} : w = s.1.1 ∨ w = s.1.2 → Att t r → Att (s :: t) (r.1 + w * s.2.2, r.2 + w)
end Go.Proofs.Rz
set_option linter.unusedVariables false
set_option maxRecDepth 100000
namespace Go.Proofs.Rz
open Go Go.GX Go.Proofs

def fr (t : Turn) : Ratio := (numT t, denT t)
inductive Pw (R : Gap → Gap → Prop) : List Gap → List Gap → Prop
  | nil : Pw R [] []
  | cons {a b : Gap} {l m : List Gap} : R a b → Pw R l m → Pw R (a :: l) (b :: m)
theorem Pw.of_getD {R : Gap → Gap → Prop} : ∀ {l m : List Gap}, l.length = m.length → (∀ i, i < l.length → R (l.getD i g0) (m.getD i g0)) → Pw R l m
  | [], [], _, _ => .nil
  | a :: l, b :: m, h, hr => .cons (hr 0 (Nat.zero_lt_succ _)) (Pw.of_getD (by simpa using h) fun i hi => hr (i + 1) (Nat.succ_lt_succ hi))
  | [], _ :: _, h, _ => by cases h
  | _ :: _, [], h, _ => by cases h
theorem Pw.refl {R : Gap → Gap → Prop} (l : List Gap) (h : ∀ g, g ∈ l → R g g) : Pw R l l := .of_getD rfl fun i hi => h _ (getD_mem hi)
theorem min_mul {a b c : Int} (hc : 0 ≤ c) : min a b * c = min (a * c) (b * c) := by
  rcases Int.le_total a b with h | h
  · rw [Int.min_eq_left h, Int.min_eq_left (Int.mul_le_mul_of_nonneg_right h hc)]
  · rw [Int.min_eq_right h, Int.min_eq_right (Int.mul_le_mul_of_nonneg_right h hc)]
theorem mul4 {a n f m : Int} : a * n * (f * m) = (a * f) * (n * m) := by
  rw [Int.mul_assoc, Int.mul_assoc, ← Int.mul_assoc n f m, Int.mul_comm n f, Int.mul_assoc f n m]
theorem term_le {l1 t1 l2 t2 F1 N1 F2 N2 : Int} (hl0 : 0 ≤ l1) (ht0 : 0 ≤ t1) (hl : l1 ≤ l2) (ht : t1 ≤ t2) (hF : F2 ≤ F1) (hN : N2 ≤ N1) (hF0 : 0 ≤ F2) (hN0 : 0 ≤ N2) :
    min (l1 * N1) (t1 * F1) * (F2 * N2) ≤ min (l2 * N2) (t2 * F2) * (F1 * N1) := by
  rw [min_mul (Int.mul_nonneg hF0 hN0), min_mul (Int.mul_nonneg (by omega) (by omega))]
  refine min_mono ?_ ?_
  · have e1 : l1 * N1 * (F2 * N2) = (l1 * F2) * (N1 * N2) := mul4
    have e2 : l2 * N2 * (F1 * N1) = (l2 * F1) * (N1 * N2) := by rw [mul4, Int.mul_comm N2 N1]
    rw [e1, e2]
    exact Int.mul_le_mul_of_nonneg_right (Int.mul_le_mul hl hF hF0 (by omega)) (Int.mul_nonneg (by omega) hN0)
  · have e1 : t1 * F1 * (F2 * N2) = (t1 * N2) * (F1 * F2) := by rw [Int.mul_comm F2 N2, mul4]
    have e2 : t2 * F2 * (F1 * N1) = (t2 * N1) * (F1 * F2) := by rw [Int.mul_comm F1 N1, mul4, Int.mul_comm F2 F1]
    rw [e1, e2]
    exact Int.mul_le_mul_of_nonneg_right (Int.mul_le_mul ht hN hN0 (by omega)) (Int.mul_nonneg (by omega) hF0)
theorem sumG_cmp {a1 a2 : Span → Int} {F1 N1 F2 N2 : Int} (hF : F2 ≤ F1) (hN : N2 ≤ N1) (hF0 : 0 ≤ F2) (hN0 : 0 ≤ N2) {l m : List Gap} (h : Pw (fun g1 g2 => (0 ≤ a1 g1.1 ∧ 0 ≤ a1 g1.2) ∧ a1 g1.1 ≤ a2 g2.1 ∧ a1 g1.2 ≤ a2 g2.2) l m) :
    sumG a1 F1 N1 l * (F2 * N2) ≤ sumG a2 F2 N2 m * (F1 * N1) := by
  induction h with
  | nil =>
    rw [sumG_nil, sumG_nil]
    simp
  | cons hr _ ih =>
    rw [sumG_cons, sumG_cons, Int.add_mul, Int.add_mul]
    have := term_le hr.1.1 hr.1.2 hr.2.1 hr.2.2 hF hN hF0 hN0
    unfold angG
    omega
theorem fr_low (f : Fan) : fr (lowT f) = (sumG loE f.1.2 f.2.1.2 f.2.2, f.1.2 * f.2.1.2) := Prod.ext (low_num f).1 (low_num f).2
theorem fr_high (f : Fan) : fr (highT f) = (sumG hiE f.1.1 f.2.1.1 f.2.2, f.1.1 * f.2.1.1) := Prod.ext (high_num f).1 (high_num f).2
theorem fr_le {a1 a2 : Span → Int} {F1 N1 F2 N2 : Int} (hF : F2 ≤ F1) (hN : N2 ≤ N1) (hF0 : 0 ≤ F2) (hN0 : 0 ≤ N2) {l m : List Gap} (h : Pw (fun g1 g2 => (0 ≤ a1 g1.1 ∧ 0 ≤ a1 g1.2) ∧ a1 g1.1 ≤ a2 g2.1 ∧ a1 g1.2 ≤ a2 g2.2) l m) : leR (sumG a1 F1 N1 l, F1 * N1) (sumG a2 F2 N2 m, F2 * N2) :=
  sumG_cmp hF hN hF0 hN0 h
theorem low_den {f : Fan} (h : CheckOK f) : 1 ≤ (fr (lowT f)).2 := h.fan.low.2
theorem high_den {f : Fan} (h : CheckOK f) : 1 ≤ (fr (highT f)).2 := h.fan.high.2
theorem deg_le {t u : Turn} (ht : TurnOK t) (hu : TurnOK u) (h : leR (fr t) (fr u)) : degF t ≤ degF u :=
  degND_mono ht.num.1 ht.den.1 hu.num.1 hu.den.1 h
theorem low_high {f : Fan} (h : CheckOK f) : leR (fr (lowT f)) (fr (highT f)) := by
  have h1 := h.far
  have h2 := h.near
  rw [fr_low, fr_high]
  refine fr_le h1.2.1 h2.2.1 (by omega) (by omega) (Pw.refl _ fun g hg => ?_)
  have := h.g g hg
  unfold loE hiE; omega

structure Made (f : Fan) (k : Nat) (g : Fan) : Prop where
  ok : CheckOK g
  up : k < 3 → leR (fr (lowT f)) (fr (lowT g)) ∧ leR (fr (highT f)) (fr (highT g))
  down : k = 3 ∨ k = 4 → leR (fr (lowT g)) (fr (lowT f)) ∧ leR (fr (highT g)) (fr (highT f))
  mid : k = 5 → leR (fr (lowT f)) (fr (lowT g)) ∧ leR (fr (highT g)) (fr (highT f))
section
variable {f : Fan} (h : SmallFan f)
include h
end

theorem pt_ok {b : List Int} (hb : ∀ x, x ∈ b → byteB x) {s : Span} (hs : spanOK s) {i : Int} (hi : 0 ≤ i) : s.1 ≤ (ptF b s i).1 ∧ (ptF b s i).1 ≤ s.2 ∧ (ptF b s i).2 = (ptF b s i).1 := by
  have := insF_ok hs (byteF_ok hb hi).1
  exact ⟨this.1, this.2, rfl⟩
theorem true_getD {f : Fan} {b : List Int} {i : Nat} (hi : i < f.2.2.length) : (trueF f b).2.2.getD i g0 = (ptF b (f.2.2.getD i g0).1 (2 * i + 2), ptF b (f.2.2.getD i g0).2 (2 * i + 3)) := by
  have hl : (trueF f b).2.2.length = f.2.2.length := by show ((List.range f.2.2.length).map _).length = _; simp
  rw [getD_lt (by omega)]
  unfold trueF
  simp only [List.getElem_map, List.getElem_range]
theorem true_ok {f : Fan} (h : CheckOK f) {b : List Int} (hb : ∀ x, x ∈ b → byteB x) : CheckOK (trueF f b) ∧ leR (fr (lowT f)) (fr (lowT (trueF f b))) ∧ leR (fr (highT (trueF f b))) (fr (highT f)) := by
  have h1 := h.far
  have h2 := h.near
  have h3 := h.lt
  obtain ⟨s1, s2, s3⟩ := h.sp
  have hl : (trueF f b).2.2.length = f.2.2.length := by show ((List.range f.2.2.length).map _).length = _; simp
  have p1 := pt_ok hb s1 (show (0 : Int) ≤ 0 by omega)
  have p2 := pt_ok hb s2 (show (0 : Int) ≤ 1 by omega)
  have hg : ∀ i, i < f.2.2.length → ((f.2.2.getD i g0).1.1 ≤ ((trueF f b).2.2.getD i g0).1.1 ∧ ((trueF f b).2.2.getD i g0).1.1 ≤ (f.2.2.getD i g0).1.2 ∧ ((trueF f b).2.2.getD i g0).1.2 = ((trueF f b).2.2.getD i g0).1.1) ∧
      (f.2.2.getD i g0).2.1 ≤ ((trueF f b).2.2.getD i g0).2.1 ∧ ((trueF f b).2.2.getD i g0).2.1 ≤ (f.2.2.getD i g0).2.2 ∧ ((trueF f b).2.2.getD i g0).2.2 = ((trueF f b).2.2.getD i g0).2.1 := fun i hi => by
    rw [true_getD hi]
    have := s3 _ (getD_mem (d := g0) hi)
    exact ⟨pt_ok hb this.1 (by omega), pt_ok hb this.2 (by omega)⟩
  have c1 : (trueF f b).1 = ptF b f.1 0 := rfl
  have c2 : (trueF f b).2.1 = ptF b f.2.1 1 := rfl
  refine ⟨⟨by rw [c1]; omega, by rw [c2]; omega, by rw [c1, c2]; omega, by rw [hl]; exact h.n, fun g hgm => ?_⟩, ?_, ?_⟩
  · obtain ⟨i, hi, rfl⟩ := List.mem_iff_getElem.1 hgm
    have := hg i (by omega)
    rw [getD_lt hi] at this
    have := h.g _ (getD_mem (d := g0) (show i < f.2.2.length by omega))
    omega
  · rw [fr_low, fr_low]
    refine fr_le (by rw [c1]; omega) (by rw [c2]; omega) (by rw [c1]; omega) (by rw [c2]; omega) (.of_getD hl.symm fun i hi => ?_)
    have := hg i hi
    have := h.g _ (getD_mem (d := g0) hi)
    unfold loE; omega
  · rw [fr_high, fr_high]
    refine fr_le (by rw [c1]; omega) (by rw [c2]; omega) (by omega) (by omega) (.of_getD hl fun i hi => ?_)
    have := hg i (by omega)
    have := h.g _ (getD_mem (d := g0) (show i < f.2.2.length by omega))
    unfold hiE; omega
end Go.Proofs.Rz
set_option linter.unusedVariables false
set_option maxRecDepth 100000
namespace Go.Proofs.Rz
open Go Go.GX Go.Proofs

def ints (n : Nat) : List Int := (List.range n).map fun (i : Nat) => (i : Int)
def cntP (p : Int → Bool) (n : Nat) : Nat := ((ints n).filter p).length
structure WrongSet (f : Fan) (seen : Span) (l : List Int) : Prop where
  ne : l.length ≠ 0
  le : l.length ≤ f.2.2.length
  asc : l.Pairwise (· < ·)
  rng : ∀ x, x ∈ l → 0 ≤ x ∧ x < f.2.2.length
  en : degF (lowT (woF (memF l) f)) ≤ seen.2
  few : ∀ p : Int → Bool, 1 ≤ cntP p f.2.2.length → cntP p f.2.2.length < l.length → ¬ degF (lowT (woF p f)) ≤ seen.2
theorem truth_seen {f : Fan} (h : CheckOK f) {b : List Int} (hb : ∀ x, x ∈ b → byteB x) : (opensF f).1 ≤ degND (sumG loE (trueF f b).1.1 (trueF f b).2.1.1 (trueF f b).2.2) ((trueF f b).1.1 * (trueF f b).2.1.1) ∧
    degND (sumG loE (trueF f b).1.1 (trueF f b).2.1.1 (trueF f b).2.2) ((trueF f b).1.1 * (trueF f b).2.1.1) ≤ (opensF f).2 := by
  obtain ⟨t1, t2, t3⟩ := true_ok h hb
  have e1 : (trueF f b).1.2 = (trueF f b).1.1 := rfl
  have e2 : (trueF f b).2.1.2 = (trueF f b).2.1.1 := rfl
  have el : degF (lowT (trueF f b)) = degND (sumG loE (trueF f b).1.1 (trueF f b).2.1.1 (trueF f b).2.2) ((trueF f b).1.1 * (trueF f b).2.1.1) := by
    rw [degF_eq, (low_num _).1, (low_num _).2, e1, e2]
  rw [← el]
  have lf := lowT_ok h.fan
  have hf := highT_ok h.fan
  have lt := lowT_ok t1.fan
  have ht := highT_ok t1.fan
  refine ⟨deg_le lf lt t2, ?_⟩
  exact deg_le lt hf (leR_trans (low_den t1) (high_den t1) (high_den h) (low_high t1) t3)
end Go.Proofs.Rz
set_option linter.unusedVariables false
set_option maxRecDepth 100000
namespace Go.Proofs.Rz
open Go Go.GX Go.Proofs

def V35 (f : (Int × Int) × (Int × Int) × List ((Int × Int) × Int × Int)) (Q : (Int × Int) × (Int × Int) × List ((Int × Int) × Int × Int) → Prop) : Prop :=
  ∃ (r : Int × Int),
    (f34_wp (Prod.snd (Prod.fst f), Prod.snd (Prod.fst f), ()) () fun (r' : Int × Int) ↦ r' = r) ∧
      ∃ (r_1 : Int × Int),
        (f34_wp (Prod.snd (Prod.fst (Prod.snd f)), Prod.snd (Prod.fst (Prod.snd f)), ()) () fun (r' : Int × Int) ↦ r' = r_1) ∧
          ∃ (I : Int → ((Int × Int) × Int × Int) × List ((Int × Int) × Int × Int) → Prop),
            ∃ (μ : Int → ((Int × Int) × Int × Int) × List ((Int × Int) × Int × Int) → Nat),
              I (0 : Int) (((Prod.fst r, Prod.snd r), Prod.fst r_1, Prod.snd r_1), ([] : List ((Int × Int) × Int × Int))) ∧
                ∀ (x : Int) (x_1 : ((Int × Int) × Int × Int) × List ((Int × Int) × Int × Int)),
                  I x x_1 →
                    List.length (Prod.snd (Prod.snd f)) ≤ (9223372036854775807 : Nat) →
                      cnd (decide (x < (↑(List.length (Prod.snd (Prod.snd f))) : Int)))
                        ((0 : Int) ≤ x ∧
                          x < (↑(List.length (Prod.snd (Prod.snd f))) : Int) ∧
                            ∃ (r : Int × Int),
                              (f34_wp
                                  (Prod.fst (Prod.fst (List.getD (Prod.snd (Prod.snd f)) (Int.toNat x) (((0 : Int), (0 : Int)), (0 : Int), (0 : Int)))),
                                    Prod.fst
                                      (Prod.fst (List.getD (Prod.snd (Prod.snd f)) (Int.toNat x) (((0 : Int), (0 : Int)), (0 : Int), (0 : Int)))),
                                    ())
                                  () fun (r' : Int × Int) ↦ r' = r) ∧
                                ∃ (r_2 : Int × Int),
                                  (f34_wp
                                      (Prod.fst
                                          (Prod.snd (List.getD (Prod.snd (Prod.snd f)) (Int.toNat x) (((0 : Int), (0 : Int)), (0 : Int), (0 : Int)))),
                                        Prod.fst
                                          (Prod.snd (List.getD (Prod.snd (Prod.snd f)) (Int.toNat x) (((0 : Int), (0 : Int)), (0 : Int), (0 : Int)))),
                                        ())
                                      () fun (r' : Int × Int) ↦ r' = r_2) ∧
                                    (List.length (Prod.snd x_1) +
                                            List.length
                                              (((Prod.fst r, Prod.snd r), Prod.fst r_2, Prod.snd r_2) :: ([] : List ((Int × Int) × Int × Int)))) *
                                          (32 : Nat) ≤
                                        (140737488355328 : Nat) ∧
                                      I (IntKind.wrap IntKind.i64 (x + (1 : Int)))
                                          (((Prod.fst (Prod.fst (Prod.fst x_1)), Prod.snd (Prod.fst (Prod.fst x_1))),
                                              Prod.fst (Prod.snd (Prod.fst x_1)), Prod.snd (Prod.snd (Prod.fst x_1))),
                                            Prod.snd x_1 ++
                                              ((Prod.fst r, Prod.snd r), Prod.fst r_2, Prod.snd r_2) :: ([] : List ((Int × Int) × Int × Int))) ∧
                                        μ (IntKind.wrap IntKind.i64 (x + (1 : Int)))
                                            (((Prod.fst (Prod.fst (Prod.fst x_1)), Prod.snd (Prod.fst (Prod.fst x_1))),
                                                Prod.fst (Prod.snd (Prod.fst x_1)), Prod.snd (Prod.snd (Prod.fst x_1))),
                                              Prod.snd x_1 ++
                                                ((Prod.fst r, Prod.snd r), Prod.fst r_2, Prod.snd r_2) :: ([] : List ((Int × Int) × Int × Int))) <
                                          μ x x_1)
                        (Q
                          ((Prod.fst (Prod.fst (Prod.fst x_1)), Prod.snd (Prod.fst (Prod.fst x_1))),
                            (Prod.fst (Prod.snd (Prod.fst x_1)), Prod.snd (Prod.snd (Prod.fst x_1))), Prod.snd x_1))
theorem v35 (f : (Int × Int) × (Int × Int) × List ((Int × Int) × Int × Int)) (Q : (Int × Int) × (Int × Int) × List ((Int × Int) × Int × Int) → Prop) : V35 f Q = vcFunc (S1 [(34, f34_ct)] [] [] []) f35_ct.own f35_ct.fresh f35_an Tryz.f35 (bodyOf Tryz.f35) f35_ct.A f35_ct.C f35_ct.R f () Q := by kernel_rfl

def V36 (f : (Int × Int) × (Int × Int) × List ((Int × Int) × Int × Int)) (Q : (Int × Int) × (Int × Int) × List ((Int × Int) × Int × Int) → Prop) : Prop :=
  ∃ (r : Int × Int),
    (f34_wp (Prod.fst (Prod.fst f), Prod.fst (Prod.fst f), ()) () fun (r' : Int × Int) ↦ r' = r) ∧
      ∃ (r_1 : Int × Int),
        (f34_wp (Prod.fst (Prod.fst (Prod.snd f)), Prod.fst (Prod.fst (Prod.snd f)), ()) () fun (r' : Int × Int) ↦ r' = r_1) ∧
          ∃ (I : Int → ((Int × Int) × Int × Int) × List ((Int × Int) × Int × Int) → Prop),
            ∃ (μ : Int → ((Int × Int) × Int × Int) × List ((Int × Int) × Int × Int) → Nat),
              I (0 : Int) (((Prod.fst r, Prod.snd r), Prod.fst r_1, Prod.snd r_1), ([] : List ((Int × Int) × Int × Int))) ∧
                ∀ (x : Int) (x_1 : ((Int × Int) × Int × Int) × List ((Int × Int) × Int × Int)),
                  I x x_1 →
                    List.length (Prod.snd (Prod.snd f)) ≤ (9223372036854775807 : Nat) →
                      cnd (decide (x < (↑(List.length (Prod.snd (Prod.snd f))) : Int)))
                        ((0 : Int) ≤ x ∧
                          x < (↑(List.length (Prod.snd (Prod.snd f))) : Int) ∧
                            ∃ (r : Int × Int),
                              (f34_wp
                                  (Prod.snd (Prod.fst (List.getD (Prod.snd (Prod.snd f)) (Int.toNat x) (((0 : Int), (0 : Int)), (0 : Int), (0 : Int)))),
                                    Prod.snd
                                      (Prod.fst (List.getD (Prod.snd (Prod.snd f)) (Int.toNat x) (((0 : Int), (0 : Int)), (0 : Int), (0 : Int)))),
                                    ())
                                  () fun (r' : Int × Int) ↦ r' = r) ∧
                                ∃ (r_2 : Int × Int),
                                  (f34_wp
                                      (Prod.snd
                                          (Prod.snd (List.getD (Prod.snd (Prod.snd f)) (Int.toNat x) (((0 : Int), (0 : Int)), (0 : Int), (0 : Int)))),
                                        Prod.snd
                                          (Prod.snd (List.getD (Prod.snd (Prod.snd f)) (Int.toNat x) (((0 : Int), (0 : Int)), (0 : Int), (0 : Int)))),
                                        ())
                                      () fun (r' : Int × Int) ↦ r' = r_2) ∧
                                    (List.length (Prod.snd x_1) +
                                            List.length
                                              (((Prod.fst r, Prod.snd r), Prod.fst r_2, Prod.snd r_2) :: ([] : List ((Int × Int) × Int × Int)))) *
                                          (32 : Nat) ≤
                                        (140737488355328 : Nat) ∧
                                      I (IntKind.wrap IntKind.i64 (x + (1 : Int)))
                                          (((Prod.fst (Prod.fst (Prod.fst x_1)), Prod.snd (Prod.fst (Prod.fst x_1))),
                                              Prod.fst (Prod.snd (Prod.fst x_1)), Prod.snd (Prod.snd (Prod.fst x_1))),
                                            Prod.snd x_1 ++
                                              ((Prod.fst r, Prod.snd r), Prod.fst r_2, Prod.snd r_2) :: ([] : List ((Int × Int) × Int × Int))) ∧
                                        μ (IntKind.wrap IntKind.i64 (x + (1 : Int)))
                                            (((Prod.fst (Prod.fst (Prod.fst x_1)), Prod.snd (Prod.fst (Prod.fst x_1))),
                                                Prod.fst (Prod.snd (Prod.fst x_1)), Prod.snd (Prod.snd (Prod.fst x_1))),
                                              Prod.snd x_1 ++
                                                ((Prod.fst r, Prod.snd r), Prod.fst r_2, Prod.snd r_2) :: ([] : List ((Int × Int) × Int × Int))) <
                                          μ x x_1)
                        (Q
                          ((Prod.fst (Prod.fst (Prod.fst x_1)), Prod.snd (Prod.fst (Prod.fst x_1))),
                            (Prod.fst (Prod.snd (Prod.fst x_1)), Prod.snd (Prod.snd (Prod.fst x_1))), Prod.snd x_1))
theorem v36 (f : (Int × Int) × (Int × Int) × List ((Int × Int) × Int × Int)) (Q : (Int × Int) × (Int × Int) × List ((Int × Int) × Int × Int) → Prop) : V36 f Q = vcFunc (S1 [(34, f34_ct)] [] [] []) f36_ct.own f36_ct.fresh f35_an Tryz.f36 (bodyOf Tryz.f36) f36_ct.A f36_ct.C f36_ct.R f () Q := by kernel_rfl

end Go.Proofs.Rz
set_option linter.unusedVariables false
set_option maxRecDepth 100000
namespace Go.Proofs.Rz
open Go Go.GX Go.Proofs

def V8 (x : (Int × Int) × (Int × Int) × List (Int × Int × Int × Int)) (b : List Int) (Q : Bool → Prop) : Prop :=
  f28_wp ((Prod.fst (Prod.fst x), Prod.snd (Prod.fst x)), (Prod.fst (Prod.fst (Prod.snd x)), Prod.snd (Prod.fst (Prod.snd x))), Prod.snd (Prod.snd x)) () fun (r : (Int ×
  Int) × (Int × Int) × List ((Int × Int) × Int × Int)) ↦ f11_wp ((Prod.fst (Prod.fst r), Prod.snd (Prod.fst r)), (Prod.fst (Prod.fst (Prod.snd r)), Prod.snd (Prod.fst
  (Prod.snd r))), Prod.snd (Prod.snd r)) () fun (r_1 : (Int × Int) × (Int × Int) × List ((Int × Int) × Int × Int)) ↦ f13_wp ((Prod.fst (Prod.fst r_1), Prod.snd (Prod.fst
  r_1)), (Prod.fst (Prod.fst (Prod.snd r_1)), Prod.snd (Prod.fst (Prod.snd r_1))), Prod.snd (Prod.snd r_1)) () fun (r_2 : (Int × Int) × Int × Unit) ↦ f11_wp ((Prod.fst
  (Prod.fst r), Prod.snd (Prod.fst r)), (Prod.fst (Prod.fst (Prod.snd r)), Prod.snd (Prod.fst (Prod.snd r))), Prod.snd (Prod.snd r)) () fun (r_3 : (Int × Int) × (Int × Int)
  × List ((Int × Int) × Int × Int)) ↦ f30_wp ((Prod.fst (Prod.fst r_3), Prod.snd (Prod.fst r_3)), (Prod.fst (Prod.fst (Prod.snd r_3)), Prod.snd (Prod.fst (Prod.snd r_3))),
  Prod.snd (Prod.snd r_3)) () fun (r_4 : List Int × Int × Unit) ↦ f31_wp (((Prod.fst (Prod.fst r), Prod.snd (Prod.fst r)), (Prod.fst (Prod.fst (Prod.snd r)), Prod.snd
  (Prod.fst (Prod.snd r))), Prod.snd (Prod.snd r)), b, ()) () fun (r_5 : (Int × Int) × (Int × Int) × List ((Int × Int) × Int × Int)) ↦ f11_wp ((Prod.fst (Prod.fst r_5),
  Prod.snd (Prod.fst r_5)), (Prod.fst (Prod.fst (Prod.snd r_5)), Prod.snd (Prod.fst (Prod.snd r_5))), Prod.snd (Prod.snd r_5)) () fun (r_6 : (Int × Int) × (Int × Int) ×
  List ((Int × Int) × Int × Int)) ↦ f13_wp ((Prod.fst (Prod.fst r_6), Prod.snd (Prod.fst r_6)), (Prod.fst (Prod.fst (Prod.snd r_6)), Prod.snd (Prod.fst (Prod.snd r_6))),
  Prod.snd (Prod.snd r_6)) () fun (r_7 : (Int × Int) × Int × Unit) ↦ cnd (Prod.fst (Prod.snd r_2) != (0 : Int)) (Q false) (cnd (Prod.fst (Prod.snd r_4) != (0 : Int)) (Q
  false) (cnd (Prod.fst (Prod.snd r_7) != (0 : Int)) (Q false) (List.length (Prod.fst r_4) ≤ (9223372036854775807 : Nat) → List.length (Prod.snd (Prod.snd r)) ≤
  (9223372036854775807 : Nat) → cnd ((↑(List.length (Prod.fst r_4)) : Int) != (↑(List.length (Prod.snd (Prod.snd r))) : Int)) (Q false) (f33_wp ((Prod.fst (Prod.fst r_5),
  Prod.snd (Prod.fst r_5)), (Prod.fst (Prod.fst (Prod.snd r_5)), Prod.snd (Prod.fst (Prod.snd r_5))), Prod.snd (Prod.snd r_5)) () fun (r_8 : Int × Int × Unit) ↦ f32_wp
  (Prod.fst r_8, Prod.fst (Prod.snd r_8), ()) () fun (r_9 : Int) ↦ ∃ (r_10 : Int × Int), (f34_wp (r_9, r_9, ()) () fun (r' : Int × Int) ↦ r' = r_10) ∧ cnd (!(Prod.fst
  (Prod.fst r_7) == Prod.fst r_10 && (Prod.snd (Prod.fst r_7) == Prod.snd r_10 && true))) (Q false) (cnd (decide (r_9 < Prod.fst (Prod.fst r_2))) (Q false) (cnd (decide
  (r_9 > Prod.snd (Prod.fst r_2))) (Q false) (∃ (r_11 : (Int × Int) × (Int × Int) × List ((Int × Int) × Int × Int)), (f35_wp ((Prod.fst (Prod.fst r), Prod.snd (Prod.fst
  r)), (Prod.fst (Prod.fst (Prod.snd r)), Prod.snd (Prod.fst (Prod.snd r))), Prod.snd (Prod.snd r)) () fun (r' : (Int × Int) × (Int × Int) × List ((Int × Int) × Int × Int))
  ↦ r' = r_11) ∧ ∃ (r_12 : Int × Int × Unit), (f33_wp ((Prod.fst (Prod.fst r_11), Prod.snd (Prod.fst r_11)), (Prod.fst (Prod.fst (Prod.snd r_11)), Prod.snd (Prod.fst
  (Prod.snd r_11))), Prod.snd (Prod.snd r_11)) () fun (r' : Int × Int × Unit) ↦ r' = r_12) ∧ ∃ (r_13 : Int), (f32_wp (Prod.fst r_12, Prod.fst (Prod.snd r_12), ()) () fun
  (r' : Int) ↦ r' = r_13) ∧ cnd (Prod.fst (Prod.fst r_2) != r_13) (Q false) (∃ (r_14 : (Int × Int) × (Int × Int) × List ((Int × Int) × Int × Int)), (f36_wp ((Prod.fst
  (Prod.fst r), Prod.snd (Prod.fst r)), (Prod.fst (Prod.fst (Prod.snd r)), Prod.snd (Prod.fst (Prod.snd r))), Prod.snd (Prod.snd r)) () fun (r' : (Int × Int) × (Int × Int)
  × List ((Int × Int) × Int × Int)) ↦ r' = r_14) ∧ ∃ (r_15 : Int × Int × Unit), (f33_wp ((Prod.fst (Prod.fst r_14), Prod.snd (Prod.fst r_14)), (Prod.fst (Prod.fst (Prod.snd
  r_14)), Prod.snd (Prod.fst (Prod.snd r_14))), Prod.snd (Prod.snd r_14)) () fun (r' : Int × Int × Unit) ↦ r' = r_15) ∧ ∃ (r_16 : Int), (f32_wp (Prod.fst r_15, Prod.fst
  (Prod.snd r_15), ()) () fun (r' : Int) ↦ r' = r_16) ∧ cnd (Prod.snd (Prod.fst r_2) != r_16) (Q false) (∃ (I : Int → Prop), ∃ (μ : Int → Nat), I (0 : Int) ∧ ∀ (x : Int), I
  x → List.length (Prod.fst r_4) ≤ (9223372036854775807 : Nat) → cnd (decide (x < (↑(List.length (Prod.fst r_4)) : Int))) ((0 : Int) ≤ x ∧ x < (↑(List.length (Prod.snd
  (Prod.snd r_5))) : Int) ∧ (0 : Int) ≤ x ∧ x < (↑(List.length (Prod.snd (Prod.snd r_5))) : Int) ∧ ∃ (I_1 : Bool → Prop), ((0 : Int) ≤ x ∧ x < (↑(List.length (Prod.fst
  r_4)) : Int) ∧ cnd (List.getD (Prod.fst r_4) (Int.toNat x) (0 : Int) == (1 : Int)) (cnd (decide (IntKind.wrap IntKind.i64 (Prod.fst (Prod.fst (List.getD (Prod.snd
  (Prod.snd r_5)) (Int.toNat x) (((0 : Int), (0 : Int)), (0 : Int), (0 : Int)))) * Prod.fst (Prod.fst (Prod.snd r_5))) ≥ IntKind.wrap IntKind.i64 (Prod.fst (Prod.snd
  (List.getD (Prod.snd (Prod.snd r_5)) (Int.toNat x) (((0 : Int), (0 : Int)), (0 : Int), (0 : Int)))) * Prod.fst (Prod.fst r_5)))) (I_1 true) ((0 : Int) ≤ x ∧ x <
  (↑(List.length (Prod.fst r_4)) : Int) ∧ cnd (List.getD (Prod.fst r_4) (Int.toNat x) (0 : Int) == (2 : Int)) (cnd (decide (IntKind.wrap IntKind.i64 (Prod.fst (Prod.snd
  (List.getD (Prod.snd (Prod.snd r_5)) (Int.toNat x) (((0 : Int), (0 : Int)), (0 : Int), (0 : Int)))) * Prod.fst (Prod.fst r_5)) ≥ IntKind.wrap IntKind.i64 (Prod.fst
  (Prod.fst (List.getD (Prod.snd (Prod.snd r_5)) (Int.toNat x) (((0 : Int), (0 : Int)), (0 : Int), (0 : Int)))) * Prod.fst (Prod.fst (Prod.snd r_5))))) (I_1 true) ((0 :
  Int) ≤ x ∧ x < (↑(List.length (Prod.fst r_4)) : Int) ∧ cnd (List.getD (Prod.fst r_4) (Int.toNat x) (0 : Int) != (1 : Int)) ((0 : Int) ≤ x ∧ x < (↑(List.length (Prod.fst
  r_4)) : Int) ∧ cnd (List.getD (Prod.fst r_4) (Int.toNat x) (0 : Int) != (2 : Int)) ((0 : Int) ≤ x ∧ x < (↑(List.length (Prod.fst r_4)) : Int) ∧ I_1 (List.getD (Prod.fst
  r_4) (Int.toNat x) (0 : Int) != (3 : Int))) (I_1 false)) (I_1 false))) ((0 : Int) ≤ x ∧ x < (↑(List.length (Prod.fst r_4)) : Int) ∧ cnd (List.getD (Prod.fst r_4)
  (Int.toNat x) (0 : Int) != (1 : Int)) ((0 : Int) ≤ x ∧ x < (↑(List.length (Prod.fst r_4)) : Int) ∧ cnd (List.getD (Prod.fst r_4) (Int.toNat x) (0 : Int) != (2 : Int)) ((0
  : Int) ≤ x ∧ x < (↑(List.length (Prod.fst r_4)) : Int) ∧ I_1 (List.getD (Prod.fst r_4) (Int.toNat x) (0 : Int) != (3 : Int))) (I_1 false)) (I_1 false)))) ((0 : Int) ≤ x ∧
  x < (↑(List.length (Prod.fst r_4)) : Int) ∧ cnd (List.getD (Prod.fst r_4) (Int.toNat x) (0 : Int) == (2 : Int)) (cnd (decide (IntKind.wrap IntKind.i64 (Prod.fst (Prod.snd
  (List.getD (Prod.snd (Prod.snd r_5)) (Int.toNat x) (((0 : Int), (0 : Int)), (0 : Int), (0 : Int)))) * Prod.fst (Prod.fst r_5)) ≥ IntKind.wrap IntKind.i64 (Prod.fst
  (Prod.fst (List.getD (Prod.snd (Prod.snd r_5)) (Int.toNat x) (((0 : Int), (0 : Int)), (0 : Int), (0 : Int)))) * Prod.fst (Prod.fst (Prod.snd r_5))))) (I_1 true) ((0 :
  Int) ≤ x ∧ x < (↑(List.length (Prod.fst r_4)) : Int) ∧ cnd (List.getD (Prod.fst r_4) (Int.toNat x) (0 : Int) != (1 : Int)) ((0 : Int) ≤ x ∧ x < (↑(List.length (Prod.fst
  r_4)) : Int) ∧ cnd (List.getD (Prod.fst r_4) (Int.toNat x) (0 : Int) != (2 : Int)) ((0 : Int) ≤ x ∧ x < (↑(List.length (Prod.fst r_4)) : Int) ∧ I_1 (List.getD (Prod.fst
  r_4) (Int.toNat x) (0 : Int) != (3 : Int))) (I_1 false)) (I_1 false))) ((0 : Int) ≤ x ∧ x < (↑(List.length (Prod.fst r_4)) : Int) ∧ cnd (List.getD (Prod.fst r_4)
  (Int.toNat x) (0 : Int) != (1 : Int)) ((0 : Int) ≤ x ∧ x < (↑(List.length (Prod.fst r_4)) : Int) ∧ cnd (List.getD (Prod.fst r_4) (Int.toNat x) (0 : Int) != (2 : Int)) ((0
  : Int) ≤ x ∧ x < (↑(List.length (Prod.fst r_4)) : Int) ∧ I_1 (List.getD (Prod.fst r_4) (Int.toNat x) (0 : Int) != (3 : Int))) (I_1 false)) (I_1 false)))) ∧ ∀ (x_1 :
  Bool), I_1 x_1 → cnd x_1 (Q false) (f11_wp ((Prod.fst (Prod.fst r), Prod.snd (Prod.fst r)), (Prod.fst (Prod.fst (Prod.snd r)), Prod.snd (Prod.fst (Prod.snd r))), Prod.snd
  (Prod.snd r)) () fun (r : (Int × Int) × (Int × Int) × List ((Int × Int) × Int × Int)) ↦ (0 : Int) ≤ x ∧ x < (↑(List.length (Prod.fst r_4)) : Int) ∧ cnd (List.getD
  (Prod.fst r_4) (Int.toNat x) (0 : Int) == (1 : Int)) ((0 : Int) ≤ x ∧ x < (↑(List.length (Prod.snd (Prod.snd r))) : Int) ∧ (0 : Int) ≤ x ∧ x < (↑(List.length (Prod.snd
  (Prod.snd r))) : Int) ∧ f13_wp ((Prod.fst (Prod.fst r), Prod.snd (Prod.fst r)), (Prod.fst (Prod.fst (Prod.snd r)), Prod.snd (Prod.fst (Prod.snd r))), List.set (Prod.snd
  (Prod.snd r)) (Int.toNat x) ((Prod.fst (Prod.fst (List.getD (Prod.snd (Prod.snd r)) (Int.toNat x) (((0 : Int), (0 : Int)), (0 : Int), (0 : Int)))), Prod.snd (Prod.fst
  (List.getD (Prod.snd (Prod.snd r)) (Int.toNat x) (((0 : Int), (0 : Int)), (0 : Int), (0 : Int))))), Prod.fst (Prod.snd (List.getD (Prod.snd (Prod.snd r)) (Int.toNat x)
  (((0 : Int), (0 : Int)), (0 : Int), (0 : Int)))), IntKind.wrap IntKind.i64 (Prod.snd (Prod.snd (List.getD (Prod.snd (Prod.snd r)) (Int.toNat x) (((0 : Int), (0 : Int)),
  (0 : Int), (0 : Int)))) + (9 : Int)))) () fun (r : (Int × Int) × Int × Unit) ↦ cnd (Prod.fst (Prod.snd r) != (0 : Int)) (Q false) (cnd (!(Prod.fst (Prod.fst r) ==
  Prod.fst (Prod.fst r_2) && (Prod.snd (Prod.fst r) == Prod.snd (Prod.fst r_2) && true))) (Q false) (I (IntKind.wrap IntKind.i64 (x + (1 : Int))) ∧ μ (IntKind.wrap
  IntKind.i64 (x + (1 : Int))) < μ x))) (cnd (List.getD (Prod.fst r_4) (Int.toNat x) (0 : Int) == (2 : Int)) ((0 : Int) ≤ x ∧ x < (↑(List.length (Prod.snd (Prod.snd r))) :
  Int) ∧ (0 : Int) ≤ x ∧ x < (↑(List.length (Prod.snd (Prod.snd r))) : Int) ∧ f13_wp ((Prod.fst (Prod.fst r), Prod.snd (Prod.fst r)), (Prod.fst (Prod.fst (Prod.snd r)),
  Prod.snd (Prod.fst (Prod.snd r))), List.set (Prod.snd (Prod.snd r)) (Int.toNat x) ((Prod.fst (Prod.fst (List.getD (Prod.snd (Prod.snd r)) (Int.toNat x) (((0 : Int), (0 :
  Int)), (0 : Int), (0 : Int)))), IntKind.wrap IntKind.i64 (Prod.snd (Prod.fst (List.getD (Prod.snd (Prod.snd r)) (Int.toNat x) (((0 : Int), (0 : Int)), (0 : Int), (0 :
  Int)))) + (9 : Int))), Prod.fst (Prod.snd (List.getD (Prod.snd (Prod.snd r)) (Int.toNat x) (((0 : Int), (0 : Int)), (0 : Int), (0 : Int)))), Prod.snd (Prod.snd (List.getD
  (Prod.snd (Prod.snd r)) (Int.toNat x) (((0 : Int), (0 : Int)), (0 : Int), (0 : Int)))))) () fun (r : (Int × Int) × Int × Unit) ↦ cnd (Prod.fst (Prod.snd r) != (0 : Int))
  (Q false) (cnd (!(Prod.fst (Prod.fst r) == Prod.fst (Prod.fst r_2) && (Prod.snd (Prod.fst r) == Prod.snd (Prod.fst r_2) && true))) (Q false) (I (IntKind.wrap IntKind.i64
  (x + (1 : Int))) ∧ μ (IntKind.wrap IntKind.i64 (x + (1 : Int))) < μ x))) (I (IntKind.wrap IntKind.i64 (x + (1 : Int))) ∧ μ (IntKind.wrap IntKind.i64 (x + (1 : Int))) < μ
  x)))) (f10_wp () () fun (r : Bool) ↦ Q r))))))))))
theorem v8 (x : (Int × Int) × (Int × Int) × List (Int × Int × Int × Int)) (b : List Int) (Q : Bool → Prop) : V8 x b Q = vcFunc (S1 [(28, f28_ct), (29, f29_ct), (13, f13_ct), (30, f30_ct), (31, f31_ct), (33, f33_ct), (32, f32_ct), (34, f34_ct), (35, f35_ct), (36, f36_ct), (10, f10_ct)] [] [] []) f8_ct.own f8_ct.fresh f8_an Tryz.f8 (bodyOf Tryz.f8) f8_ct.A f8_ct.C f8_ct.R (x, b, ()) () Q := by kernel_rfl

end Go.Proofs.Rz
set_option linter.unusedVariables false
set_option maxRecDepth 100000
namespace Go.Proofs.Rz
open Go Go.GX Go.Proofs

theorem p35 {f : Fan} {Q : Fan → Prop} (h : f35_wp f () Q) : V35 f Q := by
  obtain ⟨hl, h⟩ := h
  refine ⟨_, rfl, _, rfl, ?_⟩
  refine forUpL (fun k => ((((f.1.2, f.1.2), (f.2.1.2, f.2.1.2)), (f.2.2.take k).map leastG) : (Span × Span) × List Gap)) rfl (fun k hk I μ hI hw => ?_) (by show Q ((f.1.2, f.1.2), (f.2.1.2, f.2.1.2), (f.2.2.take f.2.2.length).map leastG); rw [List.take_length]; exact h)
  rw [take_succ_getD (d := g0) hk, List.map_append] at hI
  rw [hw]
  refine ⟨by omega, by omega, _, rfl, _, rfl, ?_, hI⟩
  simp only [List.length_map, List.length_take, List.length_cons, List.length_nil]; omega
theorem p36 {f : Fan} {Q : Fan → Prop} (h : f36_wp f () Q) : V36 f Q := by
  obtain ⟨hl, h⟩ := h
  refine ⟨_, rfl, _, rfl, ?_⟩
  refine forUpL (fun k => ((((f.1.1, f.1.1), (f.2.1.1, f.2.1.1)), (f.2.2.take k).map mostG) : (Span × Span) × List Gap)) rfl (fun k hk I μ hI hw => ?_) (by show Q ((f.1.1, f.1.1), (f.2.1.1, f.2.1.1), (f.2.2.take f.2.2.length).map mostG); rw [List.take_length]; exact h)
  rw [take_succ_getD (d := g0) hk, List.map_append] at hI
  rw [hw]
  refine ⟨by omega, by omega, _, rfl, _, rfl, ?_, hI⟩
  simp only [List.length_map, List.length_take, List.length_cons, List.length_nil]; omega
theorem sumG_map {arc arc' : Span → Int} {c : Gap → Gap} {F N : Int} (hc : ∀ g, angG arc F N (c g) = angG arc' F N g) (l : List Gap) : sumG arc F N (l.map c) = sumG arc' F N l := by
  unfold sumG
  rw [List.map_map]
  congr 1
  exact List.map_congr_left fun g _ => hc g
theorem least_ok {f : Fan} (h : CheckOK f) : CheckOK (leastF f) ∧ degND (sumG loE (leastF f).1.1 (leastF f).2.1.1 (leastF f).2.2) ((leastF f).1.1 * (leastF f).2.1.1) = (opensF f).1 ∧ (0 ≤ sumG loE (leastF f).1.1 (leastF f).2.1.1 (leastF f).2.2 ∧ sumG loE (leastF f).1.1 (leastF f).2.1.1 (leastF f).2.2 ≤ 400000000000 ∧ 1 ≤ (leastF f).1.1 * (leastF f).2.1.1 ∧ (leastF f).1.1 * (leastF f).2.1.1 ≤ 400000000000) := by
  have h1 := h.far
  have h2 := h.near
  have h3 := h.lt
  have e : sumG loE (leastF f).1.1 (leastF f).2.1.1 (leastF f).2.2 = numT (lowT f) := by
    rw [(low_num f).1]
    exact sumG_map (arc := loE) (arc' := loE) (c := leastG) (F := f.1.2) (N := f.2.1.2) (fun g => rfl) f.2.2
  have e2 : (leastF f).1.1 * (leastF f).2.1.1 = denT (lowT f) := by rw [(low_num f).2]; rfl
  have l1 := (lowT_ok h.fan).num
  have l2 := (lowT_ok h.fan).den
  rw [e, e2]
  refine ⟨⟨?_, ?_, ?_, ?_, fun g hg => ?_⟩, rfl, by omega⟩
  · show 1 ≤ f.1.2 ∧ f.1.2 ≤ f.1.2 ∧ f.1.2 ≤ 5000; omega
  · show 1 ≤ f.2.1.2 ∧ f.2.1.2 ≤ f.2.1.2 ∧ f.2.1.2 ≤ 5000; omega
  · show f.2.1.2 < f.1.2; omega
  · show (f.2.2.map leastG).length ≤ 40; rw [List.length_map]; exact h.n
  · obtain ⟨g', hg', rfl⟩ := List.mem_map.1 (show g ∈ f.2.2.map leastG from hg)
    have := h.g g' hg'
    unfold leastG; dsimp only; omega
theorem most_ok {f : Fan} (h : CheckOK f) : CheckOK (mostF f) ∧ degND (sumG loE (mostF f).1.1 (mostF f).2.1.1 (mostF f).2.2) ((mostF f).1.1 * (mostF f).2.1.1) = (opensF f).2 ∧ (0 ≤ sumG loE (mostF f).1.1 (mostF f).2.1.1 (mostF f).2.2 ∧ sumG loE (mostF f).1.1 (mostF f).2.1.1 (mostF f).2.2 ≤ 400000000000 ∧ 1 ≤ (mostF f).1.1 * (mostF f).2.1.1 ∧ (mostF f).1.1 * (mostF f).2.1.1 ≤ 400000000000) := by
  have h1 := h.far
  have h2 := h.near
  have h3 := h.lt
  have e : sumG loE (mostF f).1.1 (mostF f).2.1.1 (mostF f).2.2 = numT (highT f) := by
    rw [(high_num f).1]
    exact sumG_map (arc := loE) (arc' := hiE) (c := mostG) (F := f.1.1) (N := f.2.1.1) (fun g => rfl) f.2.2
  have e2 : (mostF f).1.1 * (mostF f).2.1.1 = denT (highT f) := by rw [(high_num f).2]; rfl
  have l1 := (highT_ok h.fan).num
  have l2 := (highT_ok h.fan).den
  rw [e, e2]
  refine ⟨⟨?_, ?_, ?_, ?_, fun g hg => ?_⟩, rfl, by omega⟩
  · show 1 ≤ f.1.1 ∧ f.1.1 ≤ f.1.1 ∧ f.1.1 ≤ 5000; omega
  · show 1 ≤ f.2.1.1 ∧ f.2.1.1 ≤ f.2.1.1 ∧ f.2.1.1 ≤ 5000; omega
  · show f.2.1.1 < f.1.1; omega
  · show (f.2.2.map mostG).length ≤ 40; rw [List.length_map]; exact h.n
  · obtain ⟨g', hg', rfl⟩ := List.mem_map.1 (show g ∈ f.2.2.map mostG from hg)
    have := h.g g' hg'
    unfold mostG; dsimp only; omega
theorem sumG_set {arc : Span → Int} {F N : Int} {l : List Gap} {k : Nat} (hk : k < l.length) {g : Gap} (h : angG arc F N g = angG arc F N (l.getD k g0)) : sumG arc F N (l.set k g) = sumG arc F N l := by
  unfold sumG
  congr 1
  refine List.ext_getElem (by simp) fun i h1 h2 => ?_
  have hi : i < l.length := by simpa using h2
  rw [List.getElem_map, List.getElem_map, List.getElem_set]
  split
  · rename_i e
    subst e
    rw [h, getD_lt hk]
  · rfl
theorem opens_set {f : Fan} {k : Nat} (hk : k < f.2.2.length) {g : Gap} (h1 : angG loE f.1.2 f.2.1.2 g = angG loE f.1.2 f.2.1.2 (f.2.2.getD k g0)) (h2 : angG hiE f.1.1 f.2.1.1 g = angG hiE f.1.1 f.2.1.1 (f.2.2.getD k g0)) : opensF (f.1, f.2.1, f.2.2.set k g) = opensF f := by
  unfold opensF
  rw [degF_eq, degF_eq, degF_eq, degF_eq, (low_num _).1, (low_num _).2, (high_num _).1, (high_num _).2, (low_num f).1, (low_num f).2, (high_num f).1, (high_num f).2]
  show (degND (sumG loE f.1.2 f.2.1.2 (f.2.2.set k g)) _, degND (sumG hiE f.1.1 f.2.1.1 (f.2.2.set k g)) _) = _
  rw [sumG_set hk h1, sumG_set hk h2]
theorem set_check {f : Fan} (h : CheckOK f) (k : Nat) {g : Gap} (hg : (0 ≤ g.1.1 ∧ g.1.1 ≤ g.1.2 ∧ g.1.2 ≤ 1000) ∧ 0 ≤ g.2.1 ∧ g.2.1 ≤ g.2.2 ∧ g.2.2 ≤ 500) : CheckOK (f.1, f.2.1, f.2.2.set k g) := by
  refine ⟨h.far, h.near, h.lt, by show (f.2.2.set k g).length ≤ 40; rw [List.length_set]; exact h.n, fun x hx => ?_⟩
  rcases List.mem_or_eq_of_mem_set (show x ∈ f.2.2.set k g from hx) with hx | rfl
  · exact h.g x hx
  · exact hg
theorem gen30s {f : Fan} {K : List Int × Int × Unit → Prop} (hg : CheckOK f) (hk : ∀ z : List Int × Int × Unit, z.1 = f.2.2.map (stopF f.1 f.2.1) → z.2.1 = 0 → K z) : f30_wp f () K := by
  show K (if checkF f = 0 then (f.2.2.map (stopF f.1 f.2.1), 0, ()) else ([], checkF f, ()))
  rw [if_pos (checkF_ok.2 hg)]; exact hk _ rfl rfl
theorem gen31t {f : Fan} {b : List Int} {K : Fan → Prop} (h : CheckOK f ∧ ∀ x, x ∈ b → byteB x) (hk : ∀ t, t = trueF f b → K t) : f31_wp (f, b, ()) () K := ⟨h, hk _ rfl⟩
theorem gen32d {n d : Int} {K : Int → Prop} (h : 0 ≤ n ∧ n ≤ 400000000000 ∧ 1 ≤ d ∧ d ≤ 400000000000) (hk : ∀ z, z = degND n d → K z) : f32_wp (n, d, ()) () K := ⟨h, hk _ rfl⟩
theorem stop_cases (far near : Span) (g : Gap) : (stopF far near g = 1 ∧ g.1.2 * near.2 < g.2.1 * far.1) ∨ (stopF far near g = 2 ∧ g.2.2 * far.2 < g.1.1 * near.1) ∨ stopF far near g = 3 := by
  unfold stopF
  split
  · rename_i h; exact .inl ⟨rfl, h⟩
  · split
    · rename_i h; exact .inr (.inl ⟨rfl, h⟩)
    · exact .inr (.inr rfl)
theorem p8 {x : Folded} {b : List Int} {Q : Bool → Prop} (h : f8_wp (x, b, ()) () Q) : V8 x b Q := by
  obtain ⟨⟨hx, hb⟩, h⟩ := h
  have hx : FoldOK x := hx
  have hb : ∀ y, y ∈ b → byteB y := hb
  have h : Q true := h
  refine gen21 hx fun f hf => ?_
  have sf : SmallFan f := by rw [hf]; exact fold_small hx
  have ho := sf.ok
  have hn := sf.n
  clear hf
  refine gen11 (f := f) (by omega) (gen28 (g := f) ho (gen11 (f := f) (by omega) (gen30s (f := f) ho fun l l1 l2 => gen31t (f := f) (b := b) ⟨ho, hb⟩ fun t ht => ?_)))
  have tok : CheckOK t := by rw [ht]; exact (true_ok ho hb).1
  have tsn := truth_seen ho hb
  rw [← ht] at tsn
  have tn := tok.n
  have tl : t.2.2.length = f.2.2.length := by rw [ht]; show ((List.range f.2.2.length).map _).length = _; simp
  have tfar : t.1.2 = t.1.1 := by rw [ht]; rfl
  have tnear : t.2.1.2 = t.2.1.1 := by rw [ht]; rfl
  obtain ⟨s1, s2, s3⟩ := ho.sp
  have pf : f.1.1 ≤ t.1.1 ∧ t.1.1 ≤ f.1.2 := by
    have := pt_ok hb s1 (show (0 : Int) ≤ 0 by omega)
    rw [ht]; exact ⟨this.1, this.2.1⟩
  have pn : f.2.1.1 ≤ t.2.1.1 ∧ t.2.1.1 ≤ f.2.1.2 := by
    have := pt_ok hb s2 (show (0 : Int) ≤ 1 by omega)
    rw [ht]; exact ⟨this.1, this.2.1⟩
  have pg : ∀ i, i < f.2.2.length → ((f.2.2.getD i g0).1.1 ≤ (t.2.2.getD i g0).1.1 ∧ (t.2.2.getD i g0).1.1 ≤ (f.2.2.getD i g0).1.2 ∧ (t.2.2.getD i g0).1.2 = (t.2.2.getD i g0).1.1) ∧ (f.2.2.getD i g0).2.1 ≤ (t.2.2.getD i g0).2.1 ∧ (t.2.2.getD i g0).2.1 ≤ (f.2.2.getD i g0).2.2 ∧ (t.2.2.getD i g0).2.2 = (t.2.2.getD i g0).2.1 := fun i hi => by
    rw [ht, true_getD hi]
    have := s3 _ (getD_mem (d := g0) hi)
    exact ⟨pt_ok hb this.1 (by omega), pt_ok hb this.2 (by omega)⟩
  have hlo : (opensF t).1 = degND (sumG loE t.1.1 t.2.1.1 t.2.2) (t.1.1 * t.2.1.1) := by
    show degF (lowT t) = _
    rw [degF_eq, (low_num t).1, (low_num t).2, tfar, tnear]
  have hhi : (opensF t).2 = degND (sumG loE t.1.1 t.2.1.1 t.2.2) (t.1.1 * t.2.1.1) := by
    show degF (highT t) = _
    rw [degF_eq, (high_num t).1, (high_num t).2]
    congr 1
    unfold sumG
    congr 1
    refine List.map_congr_left fun g hg => ?_
    obtain ⟨i, hi, rfl⟩ := List.mem_iff_getElem.1 hg
    have := pg i (by omega)
    rw [getD_lt hi] at this
    show min (t.2.2[i].1.2 * t.2.1.1) (t.2.2[i].2.2 * t.1.1) = min (t.2.2[i].1.1 * t.2.1.1) (t.2.2[i].2.1 * t.1.1)
    rw [this.1.2.2, this.2.2.2]
  have n1 := (lowT_ok tok.fan).num
  have n2 := (lowT_ok tok.fan).den
  rw [(low_num t).1, tfar, tnear] at n1
  rw [(low_num t).2, tfar, tnear] at n2
  clear ht
  refine gen11 (f := t) (by omega) (gen28 (g := t) tok (cndF (cnd_not (by rw [l2]; rfl) (cndF fun _ _ => cnd_not ?_ ⟨tok, gen32d ⟨n1.1, by show sumG loE t.1.1 t.2.1.1 t.2.2 ≤ 400000000000; omega, n2.1, by show t.1.1 * t.2.1.1 ≤ 400000000000; omega⟩ fun d hd => ?_⟩))))
  · rw [l1, List.length_map]; simp
  rw [← hd] at hlo hhi tsn
  obtain ⟨lo1, lo2, lo3⟩ := least_ok ho
  obtain ⟨mo1, mo2, mo3⟩ := most_ok ho
  refine ⟨_, rfl, cnd_not (by show (!((opensF t).1 == d && ((opensF t).2 == d && true))) = false; rw [hlo, hhi]; simp) (cnd_not (decide_eq_false (by show ¬ d < (opensF f).1; omega)) (cnd_not (decide_eq_false (by show ¬ d > (opensF f).2; omega)) ?_))⟩
  refine ⟨leastF f, ⟨by show f.2.2.length ≤ 1000000; omega, rfl⟩, _, ⟨lo1, rfl⟩, _, ⟨lo3, rfl⟩, cnd_not ?_ ⟨mostF f, ⟨by show f.2.2.length ≤ 1000000; omega, rfl⟩, _, ⟨mo1, rfl⟩, _, ⟨mo3, rfl⟩, cnd_not ?_ ?_⟩⟩
  · show ((opensF f).1 != degND (sumG loE (leastF f).1.1 (leastF f).2.1.1 (leastF f).2.2) ((leastF f).1.1 * (leastF f).2.1.1)) = false
    rw [lo2]; simp
  · show ((opensF f).2 != degND (sumG loE (mostF f).1.1 (mostF f).2.1.1 (mostF f).2.2) ((mostF f).1.1 * (mostF f).2.1.1)) = false
    rw [mo2]; simp
  have ll : l.1.length = f.2.2.length := by rw [l1, List.length_map]
  refine forUpGL (n := l.1.length) (fun _ => True) trivial (fun k hk _ _ I μ hI hw => ?_) (fun _ => h)
  have hI := hI trivial
  rw [← hw] at hI
  have hkf : k < f.2.2.length := by omega
  have hS : l.1.getD k 0 = stopF f.1 f.2.1 (f.2.2.getD k g0) := by
    rw [getD_lt hk, getD_lt hkf]
    simp only [l1, List.getElem_map]
  have hg := sf.g _ (getD_mem (d := g0) hkf)
  have hpg := pg k hkf
  have tg := tok.g _ (getD_mem (d := g0) (show k < t.2.2.length by omega))
  have tf2 := tok.far
  have tn2 := tok.near
  have hfa := ho.far
  have hne := ho.near
  have m1 := mulB tg.1.1 (show (t.2.2.getD k g0).1.1 ≤ 1000 by omega) (show 0 ≤ t.2.1.1 by omega) (show t.2.1.1 ≤ 5000 by omega)
  have m2 := mulB tg.2.1 (show (t.2.2.getD k g0).2.1 ≤ 500 by omega) (show 0 ≤ t.1.1 by omega) (show t.1.1 ≤ 5000 by omega)
  have w1 : IntKind.wrap .i64 ((t.2.2.getD k g0).1.1 * t.2.1.1) = (t.2.2.getD k g0).1.1 * t.2.1.1 := wrapS (by omega) (by omega)
  have w2 : IntKind.wrap .i64 ((t.2.2.getD k g0).2.1 * t.1.1) = (t.2.2.getD k g0).2.1 * t.1.1 := wrapS (by omega) (by omega)
  have w3 : IntKind.wrap .i64 ((f.2.2.getD k g0).2.2 + 9) = (f.2.2.getD k g0).2.2 + 9 := wrapS (by omega) (by omega)
  have w4 : IntKind.wrap .i64 ((f.2.2.getD k g0).1.2 + 9) = (f.2.2.getD k g0).1.2 + 9 := wrapS (by omega) (by omega)
  rw [show Int.toNat (k : Int) = k from rfl, hS, w1, w2]
  refine ⟨by omega, by omega, by omega, by omega, fun c => c = false, ⟨by omega, by omega, ?_⟩, ?_⟩
  · rcases stop_cases f.1 f.2.1 (f.2.2.getD k g0) with ⟨e, hlt⟩ | ⟨e, hlt⟩ | e
    · rw [e]
      have c1 := mul_mono hpg.1.2.1 pn.2 (show 0 ≤ t.2.1.1 by omega) (show 0 ≤ (f.2.2.getD k g0).1.2 by omega)
      have c2 := mul_mono hpg.2.1 pf.1 (show 0 ≤ f.1.1 by omega) (show 0 ≤ (t.2.2.getD k g0).2.1 by omega)
      exact cndT (cnd_not (decide_eq_false (by omega)) ⟨by omega, by omega, cndF ⟨by omega, by omega, cndF rfl⟩⟩)
    · rw [e]
      have c1 := mul_mono hpg.2.2.1 pf.2 (show 0 ≤ t.1.1 by omega) (show 0 ≤ (f.2.2.getD k g0).2.2 by omega)
      have c2 := mul_mono hpg.1.1 pn.1 (show 0 ≤ f.2.1.1 by omega) (show 0 ≤ (t.2.2.getD k g0).1.1 by omega)
      exact cndF ⟨by omega, by omega, cndT (cnd_not (decide_eq_false (by omega)) ⟨by omega, by omega, cndT ⟨by omega, by omega, cndF rfl⟩⟩)⟩
    · rw [e]
      exact cndF ⟨by omega, by omega, cndF ⟨by omega, by omega, cndT ⟨by omega, by omega, cndT ⟨by omega, by omega, rfl⟩⟩⟩⟩
  · rintro _ rfl
    refine cndF (gen11 (f := f) (by omega) ⟨by omega, by omega, ?_⟩)
    rcases stop_cases f.1 f.2.1 (f.2.2.getD k g0) with ⟨e, hlt⟩ | ⟨e, hlt⟩ | e
    · rw [e]
      have a1 : angG loE f.1.2 f.2.1.2 ((f.2.2.getD k g0).1, ((f.2.2.getD k g0).2.1, (f.2.2.getD k g0).2.2 + 9)) = angG loE f.1.2 f.2.1.2 (f.2.2.getD k g0) := rfl
      have a2 : angG hiE f.1.1 f.2.1.1 ((f.2.2.getD k g0).1, ((f.2.2.getD k g0).2.1, (f.2.2.getD k g0).2.2 + 9)) = angG hiE f.1.1 f.2.1.1 (f.2.2.getD k g0) := by
        have c1 := Int.mul_le_mul_of_nonneg_left (show f.2.1.1 ≤ f.2.1.2 by omega) (show 0 ≤ (f.2.2.getD k g0).1.2 by omega)
        have c2 := Int.mul_le_mul_of_nonneg_right (show (f.2.2.getD k g0).2.1 ≤ (f.2.2.getD k g0).2.2 by omega) (show 0 ≤ f.1.1 by omega)
        show min ((f.2.2.getD k g0).1.2 * f.2.1.1) (((f.2.2.getD k g0).2.2 + 9) * f.1.1) = min ((f.2.2.getD k g0).1.2 * f.2.1.1) ((f.2.2.getD k g0).2.2 * f.1.1)
        rw [Int.add_mul]; omega
      refine cndT ?_
      change _ ∧ _
      rw [w3]
      refine ⟨by omega, by omega, by omega, by omega, gen28 (g := (f.1, f.2.1, f.2.2.set k ((f.2.2.getD k g0).1, ((f.2.2.getD k g0).2.1, (f.2.2.getD k g0).2.2 + 9)))) (set_check ho k (by dsimp only; omega)) ?_⟩
      rw [opens_set hkf a1 a2]
      exact cndF (cnd_not (by simp) hI)
    · rw [e]
      have a1 : angG loE f.1.2 f.2.1.2 (((f.2.2.getD k g0).1.1, (f.2.2.getD k g0).1.2 + 9), (f.2.2.getD k g0).2) = angG loE f.1.2 f.2.1.2 (f.2.2.getD k g0) := rfl
      have a2 : angG hiE f.1.1 f.2.1.1 (((f.2.2.getD k g0).1.1, (f.2.2.getD k g0).1.2 + 9), (f.2.2.getD k g0).2) = angG hiE f.1.1 f.2.1.1 (f.2.2.getD k g0) := by
        have c1 := Int.mul_le_mul_of_nonneg_left (show f.1.1 ≤ f.1.2 by omega) (show 0 ≤ (f.2.2.getD k g0).2.2 by omega)
        have c2 := Int.mul_le_mul_of_nonneg_right (show (f.2.2.getD k g0).1.1 ≤ (f.2.2.getD k g0).1.2 by omega) (show 0 ≤ f.2.1.1 by omega)
        show min (((f.2.2.getD k g0).1.2 + 9) * f.2.1.1) ((f.2.2.getD k g0).2.2 * f.1.1) = min ((f.2.2.getD k g0).1.2 * f.2.1.1) ((f.2.2.getD k g0).2.2 * f.1.1)
        rw [Int.add_mul]; omega
      refine cndF (cndT ?_)
      change _ ∧ _
      rw [w4]
      refine ⟨by omega, by omega, by omega, by omega, gen28 (g := (f.1, f.2.1, f.2.2.set k (((f.2.2.getD k g0).1.1, (f.2.2.getD k g0).1.2 + 9), (f.2.2.getD k g0).2))) (set_check ho k (by dsimp only; omega)) ?_⟩
      rw [opens_set hkf a1 a2]
      exact cndF (cnd_not (by simp) hI)
    · rw [e]
      exact cndF (cndF hI)
end Go.Proofs.Rz
set_option maxRecDepth 100000
set_option maxHeartbeats 2000000
namespace Go.Proofs.Rz
open Go Go.GX Go.Proofs
variable [Inhabited BaseD]
theorem ok35 : CallsOK Tryz.prog (assoc glT) 35 f35_ct :=
  callsOK_E (env (ct := [(34, f34_ct)]) (ios := []) (hos := []) (lits := []) (AllOK.cons ok34 AllOK.nil) AllW.nil AllH.nil) f35_an Tryz.func35 (by kernel_rfl) (by kernel_rfl) f35_ct fun f _ Q h => (v35 f Q).mp (p35 h)
theorem ok36 : CallsOK Tryz.prog (assoc glT) 36 f36_ct :=
  callsOK_E (env (ct := [(34, f34_ct)]) (ios := []) (hos := []) (lits := []) (AllOK.cons ok34 AllOK.nil) AllW.nil AllH.nil) f35_an Tryz.func36 (by kernel_rfl) (by kernel_rfl) f36_ct fun f _ Q h => (v36 f Q).mp (p36 h)
theorem ok8 : CallsOK Tryz.prog (assoc glT) 8 f8_ct :=
  callsOK_E (env (ct := [(28, f28_ct), (29, f29_ct), (13, f13_ct), (30, f30_ct), (31, f31_ct), (33, f33_ct), (32, f32_ct), (34, f34_ct), (35, f35_ct), (36, f36_ct), (10, f10_ct)]) (ios := []) (hos := []) (lits := []) (AllOK.cons ok28 (AllOK.cons ok29 (AllOK.cons ok13 (AllOK.cons ok30 (AllOK.cons ok31 (AllOK.cons ok33 (AllOK.cons ok32 (AllOK.cons ok34 (AllOK.cons ok35 (AllOK.cons ok36 (AllOK.cons ok10 AllOK.nil))))))))))) AllW.nil AllH.nil) f8_an Tryz.func8 (by kernel_rfl) (by kernel_rfl) f8_ct fun ⟨x, b, _⟩ _ Q h => (v8 x b Q).mp (p8 h)
end Go.Proofs.Rz
