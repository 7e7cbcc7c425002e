/- Part 8 of the texts behind the proof: RvV5, RvP8, RvV6, RvP9, RvO3, RvM3, RvV7, RvPb, RvM4, RvM6, RvV8, RvPc, RvPe, RvO8. -/
import Derived.Test.YtmdonphignifoaaG07
import Derived.Test.YtmdonphignifoaaProg
set_option linter.unusedSimpArgs false
set_option linter.unusedVariables false
set_option linter.unusedSectionVars false
set_option linter.unusedVariables false
set_option maxRecDepth 100000
namespace Go.Proofs.Rv
open Go Go.GX Go.Proofs

def V27 (a : Int) (b : Int) (Q : Int × Int → Prop) : Prop :=
  Q (a, b)
theorem v27 (a : Int) (b : Int) (Q : Int × Int → Prop) : V27 a b Q = vcFunc (S1 [] [] [] []) f27_ct.own f27_ct.fresh no_an Try.f27 (bodyOf Try.f27) f27_ct.A f27_ct.C f27_ct.R (a, b, ()) () Q := by kernel_rfl

def V39 (Q : (Int × Int) × (Int × Int) × List ((Int × Int) × Int × Int) → Prop) : Prop :=
  f27_wp ((900 : Int), (1000 : Int), ()) () fun (r : Int × Int) ↦
    f27_wp ((40 : Int), (50 : Int), ()) () fun (r_1 : Int × Int) ↦
      f27_wp ((200 : Int), (210 : Int), ()) () fun (r_2 : Int × Int) ↦
        f27_wp ((12 : Int), (12 : Int), ()) () fun (r_3 : Int × Int) ↦
          f27_wp ((100 : Int), (100 : Int), ()) () fun (r_4 : Int × Int) ↦
            f27_wp ((4 : Int), (5 : Int), ()) () fun (r_5 : Int × Int) ↦
              Q
                ((Prod.fst r, Prod.snd r), (Prod.fst r_1, Prod.snd r_1),
                  ((Prod.fst r_2, Prod.snd r_2), Prod.fst r_3, Prod.snd r_3) ::
                    ((Prod.fst r_4, Prod.snd r_4), Prod.fst r_5, Prod.snd r_5) :: ([] : List ((Int × Int) × Int × Int)))
theorem v39 (Q : (Int × Int) × (Int × Int) × List ((Int × Int) × Int × Int) → Prop) : V39 Q = vcFunc (S1 [(27, f27_ct)] [] [] [108]) f39_ct.own f39_ct.fresh no_an Try.f39 (bodyOf Try.f39) f39_ct.A f39_ct.C f39_ct.R () () Q := by kernel_rfl

def V29 (b : List Int) (i : Int) (Q : Int → Prop) : Prop :=
  List.length b ≤ (9223372036854775807 : Nat) →
    cnd ((↑(List.length b) : Int) == (0 : Int)) (Q (0 : Int))
      (List.length b ≤ (9223372036854775807 : Nat) →
        (↑(List.length b) : Int) ≠ (0 : Int) ∧
          (0 : Int) ≤ Int.tmod i (↑(List.length b) : Int) ∧
            Int.tmod i (↑(List.length b) : Int) < (↑(List.length b) : Int) ∧
              Q (IntKind.wrap IntKind.i64 (List.getD b (Int.toNat (Int.tmod i (↑(List.length b) : Int))) (0 : Int))))
theorem v29 (b : List Int) (i : Int) (Q : Int → Prop) : V29 b i Q = vcFunc (S1 [] [] [] []) f29_ct.own f29_ct.fresh no_an Try.f29 (bodyOf Try.f29) f29_ct.A f29_ct.C f29_ct.R (b, i, ()) () Q := by kernel_rfl

def V37 (s : Int × Int) (b : Int) (Q : Int → Prop) : Prop :=
  (255 : Int) ≠ (0 : Int) ∧
    Q
      (IntKind.wrap IntKind.i64
        (Prod.fst s +
          IntKind.wrap IntKind.i64 (Int.tdiv (IntKind.wrap IntKind.i64 (b * IntKind.wrap IntKind.i64 (Prod.snd s - Prod.fst s))) (255 : Int))))
theorem v37 (s : Int × Int) (b : Int) (Q : Int → Prop) : V37 s b Q = vcFunc (S1 [] [] [] []) f37_ct.own f37_ct.fresh no_an Try.f37 (bodyOf Try.f37) f37_ct.A f37_ct.C f37_ct.R (s, b, ()) () Q := by kernel_rfl

def V52 (s : Int × Int) (i : Int) (b : List Int) (Q : Int × Int → Prop) : Prop :=
  ∃ (r : Int),
    (f29_wp (b, i, ()) () fun (r' : Int) ↦ r' = r) ∧
      ∃ (r_1 : Int),
        (f37_wp ((Prod.fst s, Prod.snd s), r, ()) () fun (r' : Int) ↦ r' = r_1) ∧
          f27_wp (r_1, r_1, ()) () fun (r : Int × Int) ↦ Q (Prod.fst r, Prod.snd r)
theorem v52 (s : Int × Int) (i : Int) (b : List Int) (Q : Int × Int → Prop) : V52 s i b Q = vcFunc (S1 [(29, f29_ct), (37, f37_ct), (27, f27_ct)] [] [] []) f52_ct.own f52_ct.fresh no_an Try.f52 (bodyOf Try.f52) f52_ct.A f52_ct.C f52_ct.R (s, i, ()) (b, ()) Q := by kernel_rfl

def V24 (f : (Int × Int) × (Int × Int) × List ((Int × Int) × Int × Int)) (b : List Int) (Q : (Int × Int) × (Int × Int) × List ((Int × Int) × Int × Int) → Prop) : Prop :=
  ∃ (r : Int × Int),
    (f52_wp ((Prod.fst (Prod.fst f), Prod.snd (Prod.fst f)), (0 : Int), ()) (b, ()) fun (r' : Int × Int) ↦ r' = r) ∧
      ∃ (r_1 : Int × Int),
        (f52_wp ((Prod.fst (Prod.fst (Prod.snd f)), Prod.snd (Prod.fst (Prod.snd f))), (1 : Int), ()) (b, ()) fun (r' : Int × Int) ↦ r' = r_1) ∧
          ∃ (I : Int → ((Int × Int) × Int × Int) × List ((Int × Int) × Int × Int) → Prop),
            ∃ (μ : Int → ((Int × Int) × Int × Int) × List ((Int × Int) × Int × Int) → Nat),
              I (0 : Int) (((Prod.fst r, Prod.snd r), Prod.fst r_1, Prod.snd r_1), ([] : List ((Int × Int) × Int × Int))) ∧
                ∀ (x : Int) (x_1 : ((Int × Int) × Int × Int) × List ((Int × Int) × Int × Int)),
                  I x x_1 →
                    List.length (Prod.snd (Prod.snd f)) ≤ (9223372036854775807 : Nat) →
                      cnd (decide (x < (↑(List.length (Prod.snd (Prod.snd f))) : Int)))
                        ((0 : Int) ≤ x ∧
                          x < (↑(List.length (Prod.snd (Prod.snd f))) : Int) ∧
                            ∃ (r : Int × Int),
                              (f52_wp
                                  ((Prod.fst
                                        (Prod.fst (List.getD (Prod.snd (Prod.snd f)) (Int.toNat x) (((0 : Int), (0 : Int)), (0 : Int), (0 : Int)))),
                                      Prod.snd
                                        (Prod.fst (List.getD (Prod.snd (Prod.snd f)) (Int.toNat x) (((0 : Int), (0 : Int)), (0 : Int), (0 : Int))))),
                                    IntKind.wrap IntKind.i64 (IntKind.wrap IntKind.i64 ((2 : Int) * x) + (2 : Int)), ())
                                  (b, ()) fun (r' : Int × Int) ↦ r' = r) ∧
                                (0 : Int) ≤ x ∧
                                  x < (↑(List.length (Prod.snd (Prod.snd f))) : Int) ∧
                                    ∃ (r_2 : Int × Int),
                                      (f52_wp
                                          ((Prod.fst
                                                (Prod.snd
                                                  (List.getD (Prod.snd (Prod.snd f)) (Int.toNat x) (((0 : Int), (0 : Int)), (0 : Int), (0 : Int)))),
                                              Prod.snd
                                                (Prod.snd
                                                  (List.getD (Prod.snd (Prod.snd f)) (Int.toNat x) (((0 : Int), (0 : Int)), (0 : Int), (0 : Int))))),
                                            IntKind.wrap IntKind.i64 (IntKind.wrap IntKind.i64 ((2 : Int) * x) + (3 : Int)), ())
                                          (b, ()) fun (r' : Int × Int) ↦ r' = r_2) ∧
                                        (List.length (Prod.snd x_1) +
                                                List.length
                                                  (((Prod.fst r, Prod.snd r), Prod.fst r_2, Prod.snd r_2) :: ([] : List ((Int × Int) × Int × Int)))) *
                                              (32 : Nat) ≤
                                            (140737488355328 : Nat) ∧
                                          I (IntKind.wrap IntKind.i64 (x + (1 : Int)))
                                              (((Prod.fst (Prod.fst (Prod.fst x_1)), Prod.snd (Prod.fst (Prod.fst x_1))),
                                                  Prod.fst (Prod.snd (Prod.fst x_1)), Prod.snd (Prod.snd (Prod.fst x_1))),
                                                Prod.snd x_1 ++
                                                  ((Prod.fst r, Prod.snd r), Prod.fst r_2, Prod.snd r_2) :: ([] : List ((Int × Int) × Int × Int))) ∧
                                            μ (IntKind.wrap IntKind.i64 (x + (1 : Int)))
                                                (((Prod.fst (Prod.fst (Prod.fst x_1)), Prod.snd (Prod.fst (Prod.fst x_1))),
                                                    Prod.fst (Prod.snd (Prod.fst x_1)), Prod.snd (Prod.snd (Prod.fst x_1))),
                                                  Prod.snd x_1 ++
                                                    ((Prod.fst r, Prod.snd r), Prod.fst r_2, Prod.snd r_2) :: ([] : List ((Int × Int) × Int × Int))) <
                                              μ x x_1)
                        (Q
                          ((Prod.fst (Prod.fst (Prod.fst x_1)), Prod.snd (Prod.fst (Prod.fst x_1))),
                            (Prod.fst (Prod.snd (Prod.fst x_1)), Prod.snd (Prod.snd (Prod.fst x_1))), Prod.snd x_1))
theorem v24 (f : (Int × Int) × (Int × Int) × List ((Int × Int) × Int × Int)) (b : List Int) (Q : (Int × Int) × (Int × Int) × List ((Int × Int) × Int × Int) → Prop) : V24 f b Q = vcFunc (S1 [(52, f52_ct)] [] [] []) f24_ct.own f24_ct.fresh f24_an Try.f24 (bodyOf Try.f24) f24_ct.A f24_ct.C f24_ct.R (f, b, ()) () Q := by kernel_rfl

def V23 (f : (Int × Int) × (Int × Int) × List ((Int × Int) × Int × Int)) (Q : Int × Int × Unit → Prop) : Prop :=
  ∃ (I : Int → Int → Prop),
    ∃ (μ : Int → Int → Nat),
      I (0 : Int) (0 : Int) ∧
        ∀ (x x_1 : Int),
          I x x_1 →
            List.length (Prod.snd (Prod.snd f)) ≤ (9223372036854775807 : Nat) →
              cnd (decide (x < (↑(List.length (Prod.snd (Prod.snd f))) : Int)))
                ((0 : Int) ≤ x ∧
                  x < (↑(List.length (Prod.snd (Prod.snd f))) : Int) ∧
                    (0 : Int) ≤ x ∧
                      x < (↑(List.length (Prod.snd (Prod.snd f))) : Int) ∧
                        cnd
                          (decide
                            (IntKind.wrap IntKind.i64
                                (Prod.fst (Prod.fst (List.getD (Prod.snd (Prod.snd f)) (Int.toNat x) (((0 : Int), (0 : Int)), (0 : Int), (0 : Int)))) *
                                  Prod.fst (Prod.fst (Prod.snd f))) <
                              IntKind.wrap IntKind.i64
                                (Prod.fst (Prod.snd (List.getD (Prod.snd (Prod.snd f)) (Int.toNat x) (((0 : Int), (0 : Int)), (0 : Int), (0 : Int)))) *
                                  Prod.fst (Prod.fst f))))
                          (I (IntKind.wrap IntKind.i64 (x + (1 : Int)))
                              (IntKind.wrap IntKind.i64
                                (x_1 +
                                  IntKind.wrap IntKind.i64
                                    (Prod.fst
                                        (Prod.fst (List.getD (Prod.snd (Prod.snd f)) (Int.toNat x) (((0 : Int), (0 : Int)), (0 : Int), (0 : Int)))) *
                                      Prod.fst (Prod.fst (Prod.snd f))))) ∧
                            μ (IntKind.wrap IntKind.i64 (x + (1 : Int)))
                                (IntKind.wrap IntKind.i64
                                  (x_1 +
                                    IntKind.wrap IntKind.i64
                                      (Prod.fst
                                          (Prod.fst (List.getD (Prod.snd (Prod.snd f)) (Int.toNat x) (((0 : Int), (0 : Int)), (0 : Int), (0 : Int)))) *
                                        Prod.fst (Prod.fst (Prod.snd f))))) <
                              μ x x_1)
                          (I (IntKind.wrap IntKind.i64 (x + (1 : Int)))
                              (IntKind.wrap IntKind.i64
                                (x_1 +
                                  IntKind.wrap IntKind.i64
                                    (Prod.fst
                                        (Prod.snd (List.getD (Prod.snd (Prod.snd f)) (Int.toNat x) (((0 : Int), (0 : Int)), (0 : Int), (0 : Int)))) *
                                      Prod.fst (Prod.fst f)))) ∧
                            μ (IntKind.wrap IntKind.i64 (x + (1 : Int)))
                                (IntKind.wrap IntKind.i64
                                  (x_1 +
                                    IntKind.wrap IntKind.i64
                                      (Prod.fst
                                          (Prod.snd (List.getD (Prod.snd (Prod.snd f)) (Int.toNat x) (((0 : Int), (0 : Int)), (0 : Int), (0 : Int)))) *
                                        Prod.fst (Prod.fst f)))) <
                              μ x x_1))
                (Q (x_1, IntKind.wrap IntKind.i64 (Prod.fst (Prod.fst f) * Prod.fst (Prod.fst (Prod.snd f))), ()))
theorem v23 (f : (Int × Int) × (Int × Int) × List ((Int × Int) × Int × Int)) (Q : Int × Int × Unit → Prop) : V23 f Q = vcFunc (S1 [] [] [] []) f23_ct.own f23_ct.fresh f23_an Try.f23 (bodyOf Try.f23) f23_ct.A f23_ct.C f23_ct.R f () Q := by kernel_rfl

def V22 (n : Int) (d : Int) (Q : Int → Prop) : Prop :=
  IntKind.wrap IntKind.i64 ((355 : Int) * d) ≠ (0 : Int) ∧
    Q
      (mnI (360 : Int)
        (IntKind.wrap IntKind.i64 (Int.tdiv (IntKind.wrap IntKind.i64 ((20340 : Int) * n)) (IntKind.wrap IntKind.i64 ((355 : Int) * d)))))
theorem v22 (n : Int) (d : Int) (Q : Int → Prop) : V22 n d Q = vcFunc (S1 [] [] [] []) f22_ct.own f22_ct.fresh no_an Try.f22 (bodyOf Try.f22) f22_ct.A f22_ct.C f22_ct.R (n, d, ()) () Q := by kernel_rfl

def V21 (a : (Int × Int) × (Int × Int) × List (Int × Int × Int × Int)) (Q : (Int × Int) × (Int × Int) × List ((Int × Int) × Int × Int) → Prop) : Prop :=
  ∃ (r : Int × Int),
    (f27_wp
        (IntKind.wrap IntKind.i64 ((300 : Int) + IntKind.wrap IntKind.i64 ((8 : Int) * IntKind.wrap IntKind.i64 (Prod.fst (Prod.fst a)))),
          IntKind.wrap IntKind.i64
            (IntKind.wrap IntKind.i64 ((300 : Int) + IntKind.wrap IntKind.i64 ((8 : Int) * IntKind.wrap IntKind.i64 (Prod.fst (Prod.fst a)))) +
              IntKind.wrap IntKind.i64 (Prod.snd (Prod.fst a))),
          ())
        () fun (r' : Int × Int) ↦ r' = r) ∧
      (20 : Int) ≠ (0 : Int) ∧
        ∃ (r_1 : Int × Int),
          (f27_wp
              (IntKind.wrap IntKind.i64 ((20 : Int) + IntKind.wrap IntKind.i64 (Prod.fst (Prod.fst (Prod.snd a)))),
                IntKind.wrap IntKind.i64
                  (IntKind.wrap IntKind.i64 ((20 : Int) + IntKind.wrap IntKind.i64 (Prod.fst (Prod.fst (Prod.snd a)))) +
                    Int.tmod (IntKind.wrap IntKind.i64 (Prod.snd (Prod.fst (Prod.snd a)))) (20 : Int)),
                ())
              () fun (r' : Int × Int) ↦ r' = r_1) ∧
            ∃ (I : Int → ((Int × Int) × Int × Int) × List ((Int × Int) × Int × Int) → Prop),
              ∃ (μ : Int → ((Int × Int) × Int × Int) × List ((Int × Int) × Int × Int) → Nat),
                I (0 : Int) (((Prod.fst r, Prod.snd r), Prod.fst r_1, Prod.snd r_1), ([] : List ((Int × Int) × Int × Int))) ∧
                  ∀ (x : Int) (x_1 : ((Int × Int) × Int × Int) × List ((Int × Int) × Int × Int)),
                    I x x_1 →
                      List.length (Prod.snd (Prod.snd a)) ≤ (9223372036854775807 : Nat) →
                        cnd (decide (x < (↑(List.length (Prod.snd (Prod.snd a))) : Int)))
                          (cnd (decide (x < (12 : Int)))
                            ((0 : Int) ≤ x ∧
                              x < (↑(List.length (Prod.snd (Prod.snd a))) : Int) ∧
                                (4 : Int) ≠ (0 : Int) ∧
                                  (30 : Int) ≠ (0 : Int) ∧
                                    ∃ (r : Int × Int),
                                      (f27_wp
                                          (IntKind.wrap IntKind.i64
                                              ((2 : Int) *
                                                IntKind.wrap IntKind.i64
                                                  (Prod.fst
                                                    (List.getD (Prod.snd (Prod.snd a)) (Int.toNat x) ((0 : Int), (0 : Int), (0 : Int), (0 : Int))))),
                                            IntKind.wrap IntKind.i64
                                              (IntKind.wrap IntKind.i64
                                                  ((2 : Int) *
                                                    IntKind.wrap IntKind.i64
                                                      (Prod.fst
                                                        (List.getD (Prod.snd (Prod.snd a)) (Int.toNat x)
                                                          ((0 : Int), (0 : Int), (0 : Int), (0 : Int))))) +
                                                Int.tmod
                                                  (IntKind.wrap IntKind.i64
                                                    (Prod.fst
                                                      (Prod.snd
                                                        (List.getD (Prod.snd (Prod.snd a)) (Int.toNat x)
                                                          ((0 : Int), (0 : Int), (0 : Int), (0 : Int))))))
                                                  (30 : Int)),
                                            ())
                                          () fun (r' : Int × Int) ↦ r' = r) ∧
                                        (6 : Int) ≠ (0 : Int) ∧
                                          ∃ (r_2 : Int × Int),
                                            (f27_wp
                                                (IntKind.wrap IntKind.i64
                                                    (Int.tdiv
                                                      (IntKind.wrap IntKind.i64
                                                        (Prod.fst
                                                          (Prod.snd
                                                            (Prod.snd
                                                              (List.getD (Prod.snd (Prod.snd a)) (Int.toNat x)
                                                                ((0 : Int), (0 : Int), (0 : Int), (0 : Int)))))))
                                                      (4 : Int)),
                                                  IntKind.wrap IntKind.i64
                                                    (IntKind.wrap IntKind.i64
                                                        (Int.tdiv
                                                          (IntKind.wrap IntKind.i64
                                                            (Prod.fst
                                                              (Prod.snd
                                                                (Prod.snd
                                                                  (List.getD (Prod.snd (Prod.snd a)) (Int.toNat x)
                                                                    ((0 : Int), (0 : Int), (0 : Int), (0 : Int)))))))
                                                          (4 : Int)) +
                                                      Int.tmod
                                                        (IntKind.wrap IntKind.i64
                                                          (Prod.snd
                                                            (Prod.snd
                                                              (Prod.snd
                                                                (List.getD (Prod.snd (Prod.snd a)) (Int.toNat x)
                                                                  ((0 : Int), (0 : Int), (0 : Int), (0 : Int)))))))
                                                        (6 : Int)),
                                                  ())
                                                () fun (r' : Int × Int) ↦ r' = r_2) ∧
                                              (List.length (Prod.snd x_1) +
                                                      List.length
                                                        (((Prod.fst r, Prod.snd r), Prod.fst r_2, Prod.snd r_2) ::
                                                          ([] : List ((Int × Int) × Int × Int)))) *
                                                    (32 : Nat) ≤
                                                  (140737488355328 : Nat) ∧
                                                I (IntKind.wrap IntKind.i64 (x + (1 : Int)))
                                                    (((Prod.fst (Prod.fst (Prod.fst x_1)), Prod.snd (Prod.fst (Prod.fst x_1))),
                                                        Prod.fst (Prod.snd (Prod.fst x_1)), Prod.snd (Prod.snd (Prod.fst x_1))),
                                                      Prod.snd x_1 ++
                                                        ((Prod.fst r, Prod.snd r), Prod.fst r_2, Prod.snd r_2) ::
                                                          ([] : List ((Int × Int) × Int × Int))) ∧
                                                  μ (IntKind.wrap IntKind.i64 (x + (1 : Int)))
                                                      (((Prod.fst (Prod.fst (Prod.fst x_1)), Prod.snd (Prod.fst (Prod.fst x_1))),
                                                          Prod.fst (Prod.snd (Prod.fst x_1)), Prod.snd (Prod.snd (Prod.fst x_1))),
                                                        Prod.snd x_1 ++
                                                          ((Prod.fst r, Prod.snd r), Prod.fst r_2, Prod.snd r_2) ::
                                                            ([] : List ((Int × Int) × Int × Int))) <
                                                    μ x x_1)
                            (Q
                              ((Prod.fst (Prod.fst (Prod.fst x_1)), Prod.snd (Prod.fst (Prod.fst x_1))),
                                (Prod.fst (Prod.snd (Prod.fst x_1)), Prod.snd (Prod.snd (Prod.fst x_1))), Prod.snd x_1)))
                          (Q
                            ((Prod.fst (Prod.fst (Prod.fst x_1)), Prod.snd (Prod.fst (Prod.fst x_1))),
                              (Prod.fst (Prod.snd (Prod.fst x_1)), Prod.snd (Prod.snd (Prod.fst x_1))), Prod.snd x_1))
theorem v21 (a : (Int × Int) × (Int × Int) × List (Int × Int × Int × Int)) (Q : (Int × Int) × (Int × Int) × List ((Int × Int) × Int × Int) → Prop) : V21 a Q = vcFunc (S1 [(27, f27_ct)] [] [] []) f21_ct.own f21_ct.fresh f21_an Try.f21 (bodyOf Try.f21) f21_ct.A f21_ct.C f21_ct.R a () Q := by kernel_rfl

end Go.Proofs.Rv
set_option linter.unusedVariables false
set_option maxRecDepth 100000
namespace Go.Proofs.Rv
open Go Go.GX Go.Proofs

theorem upTo1 {σ : Type} {n : Nat} (hn : n ≤ 9223372036854775807) (F : Nat → σ) {s0 : σ} (h0 : s0 = F 0) {P : (Int → σ → Prop) → (Int → σ → Nat) → Int → σ → Prop}
    (hb : ∀ k : Nat, k ≤ n → ∀ (I : Int → σ → Prop) (μ : Int → σ → Nat), (k < n → IntKind.wrap .i64 ((k : Int) + 1) = k + 1 ∧ I (k + 1 : Int) (F (k + 1)) ∧ μ (k + 1 : Int) (F (k + 1)) < μ k (F k)) → P I μ k (F k)) :
    ∃ (I : Int → σ → Prop) (μ : Int → σ → Nat), I 0 s0 ∧ ∀ x s, I x s → P I μ x s := by
  refine ⟨fun x s => ∃ k : Nat, k ≤ n ∧ x = k ∧ s = F k, fun x _ => (n - x).toNat, ⟨0, Nat.zero_le _, rfl, h0⟩, ?_⟩
  rintro x s ⟨k, hk, rfl, rfl⟩
  exact hb k hk _ _ fun h => ⟨wrapS (by omega) (by omega), ⟨k + 1, by omega, by push_cast; rfl, rfl⟩, by omega⟩
theorem p27 {a b : Int} {Q : Span → Prop} (h : f27_wp (a, b, ()) () Q) : V27 a b Q := h
theorem p39 {Q : Fan → Prop} (h : f39_wp () () Q) : V39 Q := h
theorem byteF_ok {b : List Int} (h : ∀ x, x ∈ b → byteB x) {i : Int} (hi : 0 ≤ i) : byteB (byteF b i) ∧ (b.length ≠ 0 → (0 : Int) ≤ Int.tmod i b.length ∧ Int.tmod i b.length < b.length) := by
  have key : b.length ≠ 0 → (0 : Int) ≤ Int.tmod i b.length ∧ Int.tmod i b.length < b.length := fun h0 => by
    have h9 : (0 : Int) < (b.length : Int) := Int.natCast_pos.2 (Nat.pos_of_ne_zero h0)
    rw [Int.tmod_eq_emod_of_nonneg hi]
    exact ⟨Int.emod_nonneg _ (Int.ne_of_gt h9), Int.emod_lt_of_pos _ h9⟩
  refine ⟨?_, key⟩
  unfold byteF
  split
  · exact ⟨by omega, by omega⟩
  · rename_i h0
    obtain ⟨k1, k2⟩ := key h0
    exact h _ (getD_mem (by omega))
theorem p29 {b : List Int} {i : Int} {Q : Int → Prop} (h : f29_wp (b, i, ()) () Q) : V29 b i Q := by
  obtain ⟨⟨hb, h1, h2⟩, h⟩ := h
  have hb : ∀ x, x ∈ b → byteB x := hb
  have h1 : 0 ≤ i := h1
  have h : Q (byteF b i) := h
  obtain ⟨r1, r2⟩ := byteF_ok hb h1
  unfold byteF at h
  intro _
  refine cnd_iff.2 ⟨fun c => ?_, fun c _ => ?_⟩
  · have c : (b.length : Int) = 0 := by simpa using c
    rw [if_pos (by omega)] at h; exact h
  · have c : ¬ b.length = 0 := by
      intro hh
      rw [hh] at c
      simp at c
    rw [if_neg c] at h
    obtain ⟨r3, r4⟩ := r2 c
    have r5 := hb _ (getD_mem (d := 0) (k := (Int.tmod i (b.length : Int)).toNat) (by omega))
    unfold byteB at r5
    rw [wrapS (by omega) (by omega)]
    exact ⟨by omega, r3, r4, h⟩
theorem insF_ok {s : Span} (hs : spanOK s) {b : Int} (hb : byteB b) : s.1 ≤ insF s b ∧ insF s b ≤ s.2 := by
  unfold spanOK at hs
  unfold byteB at hb
  unfold insF
  have h1 := Int.mul_nonneg hb.1 (show 0 ≤ s.2 - s.1 by omega)
  have h2 : b * (s.2 - s.1) ≤ 255 * (s.2 - s.1) := Int.mul_le_mul_of_nonneg_right hb.2 (by omega)
  rw [Int.tdiv_eq_ediv_of_nonneg h1]
  omega
theorem p37 {s : Span} {b : Int} {Q : Int → Prop} (h : f37_wp (s, b, ()) () Q) : V37 s b Q := by
  obtain ⟨⟨hs, hb⟩, h⟩ := h
  have hs : spanOK s := hs
  have hb : byteB b := hb
  have hi := insF_ok hs hb
  have h : Q (insF s b) := h
  unfold insF at h hi
  unfold spanOK at hs
  unfold byteB at hb
  have h1 := mulB hb.1 hb.2 (show 0 ≤ s.2 - s.1 by omega) (show s.2 - s.1 ≤ 1000000 by omega)
  refine ⟨by omega, ?_⟩
  rw [wrapS (x := s.2 - s.1) (by omega) (by omega), wrapS (x := b * (s.2 - s.1)) (by omega) (by omega), wrapS (x := Int.tdiv (b * (s.2 - s.1)) 255) (by omega) (by omega), wrapS (by omega) (by omega)]
  exact h
theorem p52 {s : Span} {i : Int} {b : List Int} {Q : Span → Prop} (h : f52_wp (s, i, ()) (b, ()) Q) : V52 s i b Q := by
  obtain ⟨⟨hs, hb, h1, h2⟩, h⟩ := h
  have h1 : 0 ≤ i := h1
  have h2 : i ≤ 1000 := h2
  exact ⟨_, ⟨⟨hb, h1, by show i ≤ 1000000; omega⟩, rfl⟩, _, ⟨⟨hs, (byteF_ok hb h1).1⟩, rfl⟩, h⟩
theorem CheckOK.sp {f : Fan} (h : CheckOK f) : spanOK f.1 ∧ spanOK f.2.1 ∧ ∀ g, g ∈ f.2.2 → spanOK g.1 ∧ spanOK g.2 := by
  have h1 := h.far
  have h2 := h.near
  refine ⟨by unfold spanOK; omega, by unfold spanOK; omega, fun g hg => ?_⟩
  have := h.g g hg
  unfold spanOK; omega
theorem p24 {f : Fan} {b : List Int} {Q : Fan → Prop} (h : f24_wp (f, b, ()) () Q) : V24 f b Q := by
  obtain ⟨⟨hf, hb⟩, h⟩ := h
  have hf : CheckOK f := hf
  have hb : ∀ x, x ∈ b → byteB x := hb
  have hn := hf.n
  obtain ⟨s1, s2, s3⟩ := hf.sp
  refine ⟨_, ⟨⟨s1, hb, by show (0 : Int) ≤ 0; omega, by show (0 : Int) ≤ 1000; omega⟩, rfl⟩, _, ⟨⟨s2, hb, by show (0 : Int) ≤ 1; omega, by show (1 : Int) ≤ 1000; omega⟩, rfl⟩, ?_⟩
  refine forUpL (fun k => (((ptF b f.1 0, ptF b f.2.1 1), (List.range k).map fun (i : Nat) => (ptF b (f.2.2.getD i g0).1 (2 * i + 2), ptF b (f.2.2.getD i g0).2 (2 * i + 3))) : (Span × Span) × List Gap)) rfl (fun k hk I μ hI hw => ?_) h
  have w1 : IntKind.wrap .i64 (IntKind.wrap .i64 (2 * (k : Int)) + 2) = 2 * k + 2 := by rw [wrapS (x := 2 * (k : Int)) (by omega) (by omega), wrapS (by omega) (by omega)]
  have w2 : IntKind.wrap .i64 (IntKind.wrap .i64 (2 * (k : Int)) + 3) = 2 * k + 3 := by rw [wrapS (x := 2 * (k : Int)) (by omega) (by omega), wrapS (by omega) (by omega)]
  have s4 := s3 _ (getD_mem (d := g0) hk)
  rw [List.range_succ, List.map_append] at hI
  rw [w1, w2, hw]
  refine ⟨by omega, by omega, _, ⟨⟨s4.1, hb, by show (0 : Int) ≤ 2 * k + 2; omega, by show 2 * (k : Int) + 2 ≤ 1000; omega⟩, rfl⟩, by omega, by omega, _, ⟨⟨s4.2, hb, by show (0 : Int) ≤ 2 * k + 3; omega, by show 2 * (k : Int) + 3 ≤ 1000; omega⟩, rfl⟩, ?_, hI⟩
  simp only [List.length_map, List.length_range, List.length_cons, List.length_nil]
  omega
theorem sumG_take_succ (arc : Span → Int) (far near : Int) {gs : List Gap} {k : Nat} (hk : k < gs.length) : sumG arc far near (gs.take (k + 1)) = sumG arc far near (gs.take k) + angG arc far near (gs.getD k g0) := by
  rw [take_succ_getD (d := g0) hk, sumG_append, sumG_cons, sumG_nil]; omega
theorem p23 {f : Fan} {Q : Int × Int × Unit → Prop} (h : f23_wp f () Q) : V23 f Q := by
  obtain ⟨hf, h⟩ := h
  have h1 := hf.far
  have h2 := hf.near
  have hn := hf.n
  have hle : ∀ k, k ≤ f.2.2.length → 0 ≤ sumG loE f.1.1 f.2.1.1 (f.2.2.take k) ∧ sumG loE f.1.1 f.2.1.1 (f.2.2.take k) ≤ 5000000 * k := by
    intro k
    induction k with
    | zero => intro _; exact ⟨Int.le_refl _, Int.le_refl _⟩
    | succ k ih =>
      intro hk
      have ih := ih (by omega)
      have hg := hf.g _ (getD_mem (d := g0) (show k < f.2.2.length from hk))
      have m1 := mulB hg.1.1 (show (f.2.2.getD k g0).1.1 ≤ 1000 by omega) (show 0 ≤ f.2.1.1 by omega) (show f.2.1.1 ≤ 5000 by omega)
      have m2 := mulB hg.2.1 (show (f.2.2.getD k g0).2.1 ≤ 500 by omega) (show 0 ≤ f.1.1 by omega) (show f.1.1 ≤ 5000 by omega)
      have ea : angG loE f.1.1 f.2.1.1 (f.2.2.getD k g0) = min ((f.2.2.getD k g0).1.1 * f.2.1.1) ((f.2.2.getD k g0).2.1 * f.1.1) := rfl
      rw [sumG_take_succ _ _ _ (show k < f.2.2.length from hk), ea]
      push_cast
      omega
  refine forUpL (fun k => sumG loE f.1.1 f.2.1.1 (f.2.2.take k)) rfl (fun k hk I μ hI hw => ?_) ?_
  · have hg := hf.g _ (getD_mem (d := g0) hk)
    have m1 := mulB hg.1.1 (show (f.2.2.getD k g0).1.1 ≤ 1000 by omega) (show 0 ≤ f.2.1.1 by omega) (show f.2.1.1 ≤ 5000 by omega)
    have m2 := mulB hg.2.1 (show (f.2.2.getD k g0).2.1 ≤ 500 by omega) (show 0 ≤ f.1.1 by omega) (show f.1.1 ≤ 5000 by omega)
    have hs := hle k (by omega)
    rw [sumG_take_succ _ _ _ hk] at hI
    have w1 : IntKind.wrap .i64 ((f.2.2.getD k g0).1.1 * f.2.1.1) = (f.2.2.getD k g0).1.1 * f.2.1.1 := wrapS (by omega) (by omega)
    have w2 : IntKind.wrap .i64 ((f.2.2.getD k g0).2.1 * f.1.1) = (f.2.2.getD k g0).2.1 * f.1.1 := wrapS (by omega) (by omega)
    refine ⟨by omega, by omega, by omega, by omega, ?_⟩
    change cnd (decide (IntKind.wrap .i64 ((f.2.2.getD k g0).1.1 * f.2.1.1) < IntKind.wrap .i64 ((f.2.2.getD k g0).2.1 * f.1.1))) (I _ (IntKind.wrap .i64 (sumG loE f.1.1 f.2.1.1 (f.2.2.take k) + IntKind.wrap .i64 ((f.2.2.getD k g0).1.1 * f.2.1.1))) ∧ μ _ (IntKind.wrap .i64 (sumG loE f.1.1 f.2.1.1 (f.2.2.take k) + IntKind.wrap .i64 ((f.2.2.getD k g0).1.1 * f.2.1.1))) < _) (I _ (IntKind.wrap .i64 (sumG loE f.1.1 f.2.1.1 (f.2.2.take k) + IntKind.wrap .i64 ((f.2.2.getD k g0).2.1 * f.1.1))) ∧ μ _ (IntKind.wrap .i64 (sumG loE f.1.1 f.2.1.1 (f.2.2.take k) + IntKind.wrap .i64 ((f.2.2.getD k g0).2.1 * f.1.1))) < _)
    rw [w1, w2, hw, wrapS (x := sumG loE f.1.1 f.2.1.1 (f.2.2.take k) + (f.2.2.getD k g0).1.1 * f.2.1.1) (by omega) (by omega), wrapS (x := sumG loE f.1.1 f.2.1.1 (f.2.2.take k) + (f.2.2.getD k g0).2.1 * f.1.1) (by omega) (by omega)]
    have ea : angG loE f.1.1 f.2.1.1 (f.2.2.getD k g0) = min ((f.2.2.getD k g0).1.1 * f.2.1.1) ((f.2.2.getD k g0).2.1 * f.1.1) := rfl
    refine cnd_iff.2 ⟨fun c => ?_, fun c => ?_⟩
    · have c := of_decide_eq_true c
      rw [ea, Int.min_eq_left (by omega)] at hI; exact hI
    · have c := of_decide_eq_false c
      rw [ea, Int.min_eq_right (by omega)] at hI; exact hI
  · have m := mulB (show 0 ≤ f.1.1 by omega) (show f.1.1 ≤ 5000 by omega) (show 0 ≤ f.2.1.1 by omega) (show f.2.1.1 ≤ 5000 by omega)
    rw [List.take_length]
    show Q (_, IntKind.wrap .i64 (f.1.1 * f.2.1.1), ())
    rw [wrapS (by omega) (by omega)]
    exact h
theorem p22 {n d : Int} {Q : Int → Prop} (h : f22_wp (n, d, ()) () Q) : V22 n d Q := by
  obtain ⟨⟨h1, h2, h3, h4⟩, h⟩ := h
  have h1 : 0 ≤ n := h1
  have h2 : n ≤ 400000000000 := h2
  have h3 : 1 ≤ d := h3
  have h4 : d ≤ 400000000000 := h4
  have h : Q (degND n d) := h
  have e : Int.tdiv (20340 * n) (355 * d) = Int.tdiv (4068 * n) (71 * d) := by
    rw [show (20340 : Int) * n = 5 * (4068 * n) by omega, show (355 : Int) * d = 5 * (71 * d) by omega]
    exact Int.mul_tdiv_mul_of_pos (4068 * n) (71 * d) (by omega)
  have hr : 0 ≤ Int.tdiv (4068 * n) (71 * d) ∧ Int.tdiv (4068 * n) (71 * d) ≤ 4068 * n := by
    rw [Int.tdiv_eq_ediv_of_nonneg (by omega)]
    exact ⟨Int.ediv_nonneg (by omega) (by omega), Int.ediv_le_self _ (by omega)⟩
  rw [V22, wrapS (x := 355 * d) (by omega) (by omega), wrapS (x := 20340 * n) (by omega) (by omega), e, wrapS (by omega) (by omega), mnI_min]
  exact ⟨by omega, h⟩
theorem p21 {a : Folded} {Q : Fan → Prop} (h : f21_wp a () Q) : V21 a Q := by
  obtain ⟨⟨hf, hn, hg⟩, h⟩ := h
  have h : Q (foldF a) := h
  unfold byteB at hf hn
  have b0 : ∀ x, byteB x → IntKind.wrap .i64 x = x := fun x hx => by unfold byteB at hx; exact wrapS (by omega) (by omega)
  have t1 := Int.emod_nonneg a.2.1.2 (show (20 : Int) ≠ 0 by omega)
  have t2 := Int.emod_lt_of_pos a.2.1.2 (show (0 : Int) < 20 by omega)
  rw [V21, b0 _ hf.1, b0 _ hf.2, b0 _ hn.1, b0 _ hn.2]
  rw [wrapS (x := 8 * a.1.1) (by omega) (by omega), wrapS (x := 300 + 8 * a.1.1) (by omega) (by omega), wrapS (x := 300 + 8 * a.1.1 + a.1.2) (by omega) (by omega), wrapS (x := 20 + a.2.1.1) (by omega) (by omega),
    wrapS (x := 20 + a.2.1.1 + Int.tmod a.2.1.2 20) (by rw [Int.tmod_eq_emod_of_nonneg (by omega)]; omega) (by rw [Int.tmod_eq_emod_of_nonneg (by omega)]; omega)]
  refine ⟨_, rfl, by omega, _, rfl, ?_⟩
  refine upTo1 (n := min 12 a.2.2.length) (by omega) (fun k => ((((300 + 8 * a.1.1, 300 + 8 * a.1.1 + a.1.2), (20 + a.2.1.1, 20 + a.2.1.1 + Int.tmod a.2.1.2 20)), (a.2.2.take k).map foldG) : (Span × Span) × List Gap)) rfl (fun k hk I μ hI => ?_)
  intro hl
  have fin : k = 12 ∨ k = a.2.2.length → Q (((300 + 8 * a.1.1, 300 + 8 * a.1.1 + a.1.2), (20 + a.2.1.1, 20 + a.2.1.1 + Int.tmod a.2.1.2 20), (a.2.2.take k).map foldG)) := fun hk2 => by
    have e : a.2.2.take k = a.2.2.take 12 := by
      rcases hk2 with rfl | rfl
      · rfl
      · rw [List.take_of_length_le (Nat.le_refl _), List.take_of_length_le (by omega)]
    rw [e]; exact h
  refine cnd_iff.2 ⟨fun c => cnd_iff.2 ⟨fun c2 => ?_, fun c2 => ?_⟩, fun c => ?_⟩
  · have c : (k : Int) < a.2.2.length := of_decide_eq_true c
    have c2 : (k : Int) < 12 := of_decide_eq_true c2
    have hk' : k < a.2.2.length := by omega
    obtain ⟨hw, hI⟩ := hI (by omega)
    rw [take_succ_getD (d := ((0, 0, 0, 0) : Int × Int × Int × Int)) hk', List.map_append] at hI
    have hr := hg _ (getD_mem (d := ((0, 0, 0, 0) : Int × Int × Int × Int)) hk')
    obtain ⟨r, hrd⟩ : ∃ r, r = a.2.2.getD k ((0, 0, 0, 0) : Int × Int × Int × Int) := ⟨_, rfl⟩
    rw [← hrd] at hI hr
    obtain ⟨q1, q2, q3, q4⟩ := hr
    have u1 := b0 _ q1
    have u2 := b0 _ q2
    have u3 := b0 _ q3
    have u4 := b0 _ q4
    unfold byteB at q1 q2 q3 q4
    have v1 := Int.emod_nonneg r.2.1 (show (30 : Int) ≠ 0 by omega)
    have v2 := Int.emod_lt_of_pos r.2.1 (show (0 : Int) < 30 by omega)
    have v3 := Int.emod_nonneg r.2.2.2 (show (6 : Int) ≠ 0 by omega)
    have v4 := Int.emod_lt_of_pos r.2.2.2 (show (0 : Int) < 6 by omega)
    rw [show Int.toNat (k : Int) = k from rfl, ← hrd, u1, u2, u3, u4, hw]
    have y1 : Int.tmod r.2.1 30 = r.2.1 % 30 := Int.tmod_eq_emod_of_nonneg q2.1
    have y2 : Int.tmod r.2.2.2 6 = r.2.2.2 % 6 := Int.tmod_eq_emod_of_nonneg q4.1
    have y3 : Int.tdiv r.2.2.1 4 = r.2.2.1 / 4 := Int.tdiv_eq_ediv_of_nonneg q3.1
    rw [wrapS (x := 2 * r.1) (by omega) (by omega), wrapS (x := 2 * r.1 + Int.tmod r.2.1 30) (by omega) (by omega), wrapS (x := Int.tdiv r.2.2.1 4) (by omega) (by omega), wrapS (x := Int.tdiv r.2.2.1 4 + Int.tmod r.2.2.2 6) (by omega) (by omega)]
    refine ⟨by omega, by omega, by omega, by omega, _, rfl, by omega, _, rfl, ?_, hI⟩
    simp only [List.length_map, List.length_take, List.length_cons, List.length_nil]
    omega
  · have c2 : ¬ (k : Int) < 12 := of_decide_eq_false c2
    exact fin (.inl (by omega))
  · have c : ¬ (k : Int) < a.2.2.length := of_decide_eq_false c
    exact fin (.inr (by omega))
end Go.Proofs.Rv
set_option linter.unusedVariables false
set_option maxRecDepth 100000
namespace Go.Proofs.Rv
open Go Go.GX Go.Proofs

def V10 (Q : Bool → Prop) : Prop :=
  f39_wp () () fun (r : (Int × Int) × (Int × Int) × List ((Int × Int) × Int × Int)) ↦
    f28_wp ((Prod.fst (Prod.fst r), Prod.snd (Prod.fst r)), (Prod.fst (Prod.fst (Prod.snd r)), Prod.snd (Prod.fst (Prod.snd r))), Prod.snd (Prod.snd r))
      () fun (r : (Int × Int) × Int × Unit) ↦
      f39_wp () () fun (r_1 : (Int × Int) × (Int × Int) × List ((Int × Int) × Int × Int)) ↦
        f12_wp
          ((Prod.fst (Prod.fst r_1), Prod.snd (Prod.fst r_1)), (Prod.fst (Prod.fst (Prod.snd r_1)), Prod.snd (Prod.fst (Prod.snd r_1))),
            Prod.snd (Prod.snd r_1))
          () fun (r_2 : List Int × Int × Unit) ↦
          f39_wp () () fun (r_3 : (Int × Int) × (Int × Int) × List ((Int × Int) × Int × Int)) ↦
            f32_wp
              (((Prod.fst (Prod.fst r_3), Prod.snd (Prod.fst r_3)), (Prod.fst (Prod.fst (Prod.snd r_3)), Prod.snd (Prod.fst (Prod.snd r_3))),
                  Prod.snd (Prod.snd r_3)),
                (100 : Int), ())
              () fun (r_4 : Int × Int × Int × Unit) ↦
              f39_wp () () fun (r_5 : (Int × Int) × (Int × Int) × List ((Int × Int) × Int × Int)) ↦
                f27_wp ((10 : Int), (14 : Int), ()) () fun (r_6 : Int × Int) ↦
                  f25_wp
                    (((Prod.fst (Prod.fst r_5), Prod.snd (Prod.fst r_5)), (Prod.fst (Prod.fst (Prod.snd r_5)), Prod.snd (Prod.fst (Prod.snd r_5))),
                        Prod.snd (Prod.snd r_5)),
                      (Prod.fst r_6, Prod.snd r_6), ())
                    () fun (r_7 : List Int × Int × Unit) ↦
                    f39_wp () () fun (r_8 : (Int × Int) × (Int × Int) × List ((Int × Int) × Int × Int)) ↦
                      f30_wp
                        (((Prod.fst (Prod.fst r_8), Prod.snd (Prod.fst r_8)), (Prod.fst (Prod.fst (Prod.snd r_8)), Prod.snd (Prod.fst (Prod.snd r_8))),
                            Prod.snd (Prod.snd r_8)),
                          (45 : Int), ())
                        () fun (r_9 : Int × Int × Unit) ↦
                        f39_wp () () fun (r_10 : (Int × Int) × (Int × Int) × List ((Int × Int) × Int × Int)) ↦
                          f31_wp
                            (((Prod.fst (Prod.fst r_10), Prod.snd (Prod.fst r_10)),
                                (Prod.fst (Prod.fst (Prod.snd r_10)), Prod.snd (Prod.fst (Prod.snd r_10))), Prod.snd (Prod.snd r_10)),
                              (18 : Int), ())
                            () fun (r_11 : Int × Int × Unit) ↦
                            f27_wp ((100 : Int), (120 : Int), ()) () fun (r_12 : Int × Int) ↦
                              f27_wp ((1 : Int), (1 : Int), ()) () fun (r_13 : Int × Int) ↦
                                f27_wp ((30 : Int), (40 : Int), ()) () fun (r_14 : Int × Int) ↦
                                  f27_wp ((1 : Int), (1 : Int), ()) () fun (r_15 : Int × Int) ↦
                                    f17_wp
                                      (((Prod.fst r_12, Prod.snd r_12), (Prod.fst r_13, Prod.snd r_13), (50 : Int)) ::
                                        ((Prod.fst r_14, Prod.snd r_14), (Prod.fst r_15, Prod.snd r_15), (200 : Int)) ::
                                          ([] : List ((Int × Int) × (Int × Int) × Int)))
                                      () fun (r_16 : (Int × Int) × (Int × Int) × Int × Unit) ↦
                                      cnd (Prod.fst (Prod.snd r) != (0 : Int)) (Q false)
                                        (cnd (Prod.fst (Prod.snd r_2) != (0 : Int)) (Q false)
                                          (cnd (Prod.fst (Prod.snd (Prod.snd r_4)) != (0 : Int)) (Q false)
                                            (cnd (Prod.fst (Prod.snd r_7) != (0 : Int)) (Q false)
                                              (cnd (Prod.fst (Prod.snd r_9) != (0 : Int)) (Q false)
                                                (cnd (Prod.fst (Prod.snd r_11) != (0 : Int)) (Q false)
                                                  (cnd (Prod.fst (Prod.snd (Prod.snd r_16)) != (0 : Int)) (Q false)
                                                    (∃ (r_17 : Int × Int),
                                                      (f27_wp ((16 : Int), (19 : Int), ()) () fun (r' : Int × Int) ↦ r' = r_17) ∧
                                                        cnd (Prod.fst (Prod.fst r) == Prod.fst r_17 && (Prod.snd (Prod.fst r) == Prod.snd r_17 && true))
                                                          (∃ (r : Bool),
                                                            (f40_wp (Prod.fst r_2, (1 : Int) :: (3 : Int) :: ([] : List Int), ()) () fun (r' : Bool) ↦
                                                                r' = r) ∧
                                                              cnd r
                                                                (cnd (Prod.fst r_4 == (0 : Int))
                                                                  (cnd (Prod.fst (Prod.snd r_4) == (18 : Int))
                                                                    (∃ (r : Bool),
                                                                      (f40_wp (Prod.fst r_7, (0 : Int) :: ([] : List Int), ()) () fun (r' : Bool) ↦
                                                                          r' = r) ∧
                                                                        cnd r
                                                                          (cnd (Prod.fst r_9 == (5 : Int))
                                                                            (cnd (Prod.fst r_11 == (235 : Int))
                                                                              (cnd
                                                                                (Prod.fst (Prod.fst r_16) == (80 : Int) &&
                                                                                  (Prod.snd (Prod.fst r_16) == (1 : Int) && true))
                                                                                (Q
                                                                                  (Prod.fst (Prod.fst (Prod.snd r_16)) == (650 : Int) &&
                                                                                    (Prod.snd (Prod.fst (Prod.snd r_16)) == (7 : Int) && true)))
                                                                                (Q false))
                                                                              (Q false))
                                                                            (Q false))
                                                                          (Q false))
                                                                    (Q false))
                                                                  (Q false))
                                                                (Q false))
                                                          (Q false))))))))
theorem v10 (Q : Bool → Prop) : V10 Q = vcFunc (S1 [(39, f39_ct), (28, f28_ct), (12, f12_ct), (32, f32_ct), (27, f27_ct), (25, f25_ct), (30, f30_ct), (31, f31_ct), (17, f17_ct), (40, f40_ct), (41, f41_ct)] [] [] []) f10_ct.own f10_ct.fresh no_an Try.f10 (bodyOf Try.f10) f10_ct.A f10_ct.C f10_ct.R () () Q := by kernel_rfl

def V3 (f : (Int × Int) × (Int × Int) × List ((Int × Int) × Int × Int)) (Q : Bool → Prop) : Prop :=
  List.length (Prod.snd (Prod.snd f)) ≤ (9223372036854775807 : Nat) →
    cnd (decide ((↑(List.length (Prod.snd (Prod.snd f))) : Int) > (50 : Int))) (f10_wp () () fun (r : Bool) ↦ Q r)
      (f11_wp
        ((Prod.fst (Prod.fst f), Prod.snd (Prod.fst f)), (Prod.fst (Prod.fst (Prod.snd f)), Prod.snd (Prod.fst (Prod.snd f))), Prod.snd (Prod.snd f)) ()
        fun (r : (Int × Int) × (Int × Int) × List ((Int × Int) × Int × Int)) ↦
        f12_wp
          ((Prod.fst (Prod.fst r), Prod.snd (Prod.fst r)), (Prod.fst (Prod.fst (Prod.snd r)), Prod.snd (Prod.fst (Prod.snd r))), Prod.snd (Prod.snd r))
          () fun (r_1 : List Int × Int × Unit) ↦
          f13_wp
            (((Prod.fst (Prod.fst r), Prod.snd (Prod.fst r)), (Prod.fst (Prod.fst (Prod.snd r)), Prod.snd (Prod.fst (Prod.snd r))),
                Prod.snd (Prod.snd r)),
              ((Prod.fst (Prod.fst f), Prod.snd (Prod.fst f)), (Prod.fst (Prod.fst (Prod.snd f)), Prod.snd (Prod.fst (Prod.snd f))),
                Prod.snd (Prod.snd f)),
              ())
            () fun (r : Bool) ↦
            cnd (!r) (Q false)
              (f14_wp
                ((Prod.fst (Prod.fst f), Prod.snd (Prod.fst f)), (Prod.fst (Prod.fst (Prod.snd f)), Prod.snd (Prod.fst (Prod.snd f))),
                  Prod.snd (Prod.snd f))
                () fun (r : Int) ↦
                cnd (r != (0 : Int))
                  (cnd (Prod.fst (Prod.snd r_1) == r)
                    (List.length (Prod.fst r_1) ≤ (9223372036854775807 : Nat) →
                      cnd ((↑(List.length (Prod.fst r_1)) : Int) == (0 : Int)) (f10_wp () () fun (r : Bool) ↦ Q r) (Q false))
                    (Q false))
                  (cnd (Prod.fst (Prod.snd r_1) != (0 : Int)) (Q false)
                    (List.length (Prod.fst r_1) ≤ (9223372036854775807 : Nat) →
                      List.length (Prod.snd (Prod.snd f)) ≤ (9223372036854775807 : Nat) →
                        cnd ((↑(List.length (Prod.fst r_1)) : Int) != (↑(List.length (Prod.snd (Prod.snd f))) : Int)) (Q false)
                          (∃ (I : Int → Prop),
                            ∃ (μ : Int → Nat),
                              I (0 : Int) ∧
                                ∀ (x : Int),
                                  I x →
                                    List.length (Prod.fst r_1) ≤ (9223372036854775807 : Nat) →
                                      cnd (decide (x < (↑(List.length (Prod.fst r_1)) : Int)))
                                        ((0 : Int) ≤ x ∧
                                          x < (↑(List.length (Prod.fst r_1)) : Int) ∧
                                            (0 : Int) ≤ x ∧
                                              x < (↑(List.length (Prod.snd (Prod.snd f))) : Int) ∧
                                                ∃ (r : Int),
                                                  (f15_wp
                                                      (((Prod.fst (Prod.fst f), Prod.snd (Prod.fst f)),
                                                          (Prod.fst (Prod.fst (Prod.snd f)), Prod.snd (Prod.fst (Prod.snd f))), Prod.snd (Prod.snd f)),
                                                        ((Prod.fst
                                                              (Prod.fst
                                                                (List.getD (Prod.snd (Prod.snd f)) (Int.toNat x)
                                                                  (((0 : Int), (0 : Int)), (0 : Int), (0 : Int)))),
                                                            Prod.snd
                                                              (Prod.fst
                                                                (List.getD (Prod.snd (Prod.snd f)) (Int.toNat x)
                                                                  (((0 : Int), (0 : Int)), (0 : Int), (0 : Int))))),
                                                          Prod.fst
                                                            (Prod.snd
                                                              (List.getD (Prod.snd (Prod.snd f)) (Int.toNat x)
                                                                (((0 : Int), (0 : Int)), (0 : Int), (0 : Int)))),
                                                          Prod.snd
                                                            (Prod.snd
                                                              (List.getD (Prod.snd (Prod.snd f)) (Int.toNat x)
                                                                (((0 : Int), (0 : Int)), (0 : Int), (0 : Int))))),
                                                        ())
                                                      () fun (r' : Int) ↦ r' = r) ∧
                                                    cnd (List.getD (Prod.fst r_1) (Int.toNat x) (0 : Int) != r) (Q false)
                                                      (I (IntKind.wrap IntKind.i64 (x + (1 : Int))) ∧
                                                        μ (IntKind.wrap IntKind.i64 (x + (1 : Int))) < μ x))
                                        (f10_wp () () fun (r : Bool) ↦ Q r))))))
theorem v3 (f : (Int × Int) × (Int × Int) × List ((Int × Int) × Int × Int)) (Q : Bool → Prop) : V3 f Q = vcFunc (S1 [(10, f10_ct), (11, f11_ct), (12, f12_ct), (13, f13_ct), (14, f14_ct), (15, f15_ct)] [] [] []) f3_ct.own f3_ct.fresh f3_an Try.f3 (bodyOf Try.f3) f3_ct.A f3_ct.C f3_ct.R f () Q := by kernel_rfl

def V4 (l : List ((Int × Int) × (Int × Int) × Int)) (Q : Bool → Prop) : Prop :=
  List.length l ≤ (9223372036854775807 : Nat) →
    cnd (decide ((↑(List.length l) : Int) > (20 : Int))) (f10_wp () () fun (r : Bool) ↦ Q r)
      (f16_wp l () fun (r : List ((Int × Int) × (Int × Int) × Int)) ↦
        f17_wp r () fun (r_1 : (Int × Int) × (Int × Int) × Int × Unit) ↦
          f18_wp (r, l, ()) () fun (r : Bool) ↦
            cnd (!r) (Q false)
              (f19_wp l () fun (r : Int) ↦
                ∃ (I : Bool → Prop),
                  cnd (r == (0 : Int)) (List.length l ≤ (9223372036854775807 : Nat) → I ((↑(List.length l) : Int) == (0 : Int))) (I false) ∧
                    ∀ (x : Bool),
                      I x →
                        ∃ (I : Int → Prop),
                          cnd x (I (7 : Int)) (I r) ∧
                            ∀ (x : Int),
                              I x →
                                cnd (x != (0 : Int))
                                  (cnd (Prod.fst (Prod.snd (Prod.snd r_1)) == x)
                                    (cnd (Prod.fst (Prod.fst r_1) == (0 : Int) && (Prod.snd (Prod.fst r_1) == (0 : Int) && true))
                                      (cnd
                                        (Prod.fst (Prod.fst (Prod.snd r_1)) == (0 : Int) && (Prod.snd (Prod.fst (Prod.snd r_1)) == (0 : Int) && true))
                                        (f10_wp () () fun (r : Bool) ↦ Q r) (Q false))
                                      (Q false))
                                    (Q false))
                                  (f20_wp l () fun (r : (Int × Int) × (Int × Int) × Unit) ↦
                                    cnd (Prod.fst (Prod.snd (Prod.snd r_1)) == (0 : Int))
                                      (cnd
                                        (Prod.fst (Prod.fst r_1) == Prod.fst (Prod.fst r) && (Prod.snd (Prod.fst r_1) == Prod.snd (Prod.fst r) && true))
                                        (cnd
                                          (Prod.fst (Prod.fst (Prod.snd r_1)) == Prod.fst (Prod.fst (Prod.snd r)) &&
                                            (Prod.snd (Prod.fst (Prod.snd r_1)) == Prod.snd (Prod.fst (Prod.snd r)) && true))
                                          (f10_wp () () fun (r : Bool) ↦ Q r) (Q false))
                                        (Q false))
                                      (Q false))))
theorem v4 (l : List ((Int × Int) × (Int × Int) × Int)) (Q : Bool → Prop) : V4 l Q = vcFunc (S1 [(10, f10_ct), (16, f16_ct), (17, f17_ct), (18, f18_ct), (19, f19_ct), (20, f20_ct)] [] [] []) f4_ct.own f4_ct.fresh f4_an Try.f4 (bodyOf Try.f4) f4_ct.A f4_ct.C f4_ct.R l () Q := by kernel_rfl

end Go.Proofs.Rv
set_option linter.unusedVariables false
set_option maxRecDepth 100000
namespace Go.Proofs.Rv
open Go Go.GX Go.Proofs

theorem w28 {K : Span × Int × Unit → Prop} (h : K ((16, 19), 0, ())) : f28_wp fan0 () K := by
  have e : (if checkF fan0 = 0 then (opensF fan0, 0, ()) else ((0, 0), checkF fan0, ()) : Span × Int × Unit) = ((16, 19), 0, ()) := by decide +kernel
  show K _
  rw [e]; exact h
theorem w12 {K : List Int × Int × Unit → Prop} (h : K ([1, 3], 0, ())) : f12_wp fan0 () K := by
  have e : (if checkF fan0 = 0 then (fan0.2.2.map (stopF fan0.1 fan0.2.1), 0, ()) else ([], checkF fan0, ()) : List Int × Int × Unit) = ([1, 3], 0, ()) := by decide +kernel
  show K _
  rw [e]; exact h
theorem w32 {K : Int × Int × Int × Unit → Prop} (h : K (0, 18, 0, ())) : f32_wp (fan0, 100, ()) () K := by
  have e : widenF fan0 100 = (0, 18, 0, ()) := by decide +kernel
  show K (widenF fan0 100)
  rw [e]; exact h
theorem w25 {K : List Int × Int × Unit → Prop} (h : K ([0], 0, ())) : f25_wp (fan0, (10, 14), ()) () K := by
  have e : wrongF fan0 (10, 14) = ([0], 0, ()) := by decide +kernel
  refine ⟨fun _ _ _ _ => by show 2 ≤ 12; omega, ?_⟩
  show K (wrongF fan0 (10, 14))
  rw [e]; exact h
theorem w30 {K : Int × Int × Unit → Prop} (h : K (5, 0, ())) : f30_wp (fan0, 45, ()) () K := by
  have e : sticksF fan0 45 = (5, 0, ()) := by decide +kernel
  show K (sticksF fan0 45)
  rw [e]; exact h
theorem w31 {K : Int × Int × Unit → Prop} (h : K (235, 0, ())) : f31_wp (fan0, 18, ()) () K := by
  have e : pleatF fan0 18 = (235, 0, ()) := by decide +kernel
  show K (pleatF fan0 18)
  rw [e]; exact h
theorem w17 {K : Ratio × Ratio × Int × Unit → Prop} (h : K ((80, 1), (650, 7), 0, ())) : f17_wp [((100, 120), (1, 1), 50), ((30, 40), (1, 1), 200)] () K := by
  have e : balanceF [((100, 120), (1, 1), 50), ((30, 40), (1, 1), 200)] = ((80, 1), (650, 7), 0, ()) := by decide +kernel
  show K (balanceF _)
  rw [e]; exact h
theorem p10 {Q : Bool → Prop} (h : f10_wp () () Q) : V10 Q := by
  unfold V10 f39_wp f27_wp
  refine w28 ?_
  refine w12 ?_
  refine w32 ?_
  refine w25 ?_
  refine w30 ?_
  refine w31 ?_
  refine w17 ?_
  refine cndF (cndF (cndF (cndF (cndF (cndF (cndF ⟨_, rfl, cndT ⟨_, rfl, cndT (cndT (cndT ⟨_, rfl, cndT (cndT (cndT (cndT h)))⟩))⟩⟩))))))
theorem cnd_of {c : Bool} {p q : Prop} (hc : c = true) (h : p) : cnd c p q := by rw [hc]; exact h
theorem cnd_not {c : Bool} {p q : Prop} (hc : c = false) (h : q) : cnd c p q := by rw [hc]; exact h
theorem p3 {f : Fan} {Q : Bool → Prop} (h : f3_wp f () Q) : V3 f Q := by
  have h : Q true := h
  intro hl
  refine cnd_iff.2 ⟨fun c => h, fun c => ?_⟩
  have c : ¬ (f.2.2.length : Int) > 50 := of_decide_eq_false c
  refine ⟨by show f.2.2.length ≤ 1000000; omega, ?_⟩
  show cnd (!decide (f = f)) (Q false) (cnd (checkF f != 0) _ _)
  refine cnd_not (by simp) ?_
  refine cnd_iff.2 ⟨fun d => ?_, fun d => ?_⟩
  · have d := bne0.1.1 d
    have e : (if checkF f = 0 then (f.2.2.map (stopF f.1 f.2.1), 0, ()) else ([], checkF f, ()) : List Int × Int × Unit) = ([], checkF f, ()) := if_neg d
    show cnd ((if checkF f = 0 then (f.2.2.map (stopF f.1 f.2.1), 0, ()) else ([], checkF f, ()) : List Int × Int × Unit).2.1 == checkF f) ((if checkF f = 0 then (f.2.2.map (stopF f.1 f.2.1), 0, ()) else ([], checkF f, ()) : List Int × Int × Unit).1.length ≤ _ → cnd (((if checkF f = 0 then (f.2.2.map (stopF f.1 f.2.1), 0, ()) else ([], checkF f, ()) : List Int × Int × Unit).1.length : Int) == 0) _ _) _
    rw [e]
    exact cnd_of (by simp) fun _ => cnd_of rfl h
  · have d := bne0.2.1 d
    have ho := checkF_ok.1 d
    have e : (if checkF f = 0 then (f.2.2.map (stopF f.1 f.2.1), 0, ()) else ([], checkF f, ()) : List Int × Int × Unit) = (f.2.2.map (stopF f.1 f.2.1), 0, ()) := if_pos d
    have key : ∀ z : List Int × Int × Unit, z = (f.2.2.map (stopF f.1 f.2.1), 0, ()) → cnd (z.2.1 != 0) (Q false) (z.1.length ≤ 9223372036854775807 → f.2.2.length ≤ 9223372036854775807 → cnd ((z.1.length : Int) != (f.2.2.length : Int)) (Q false) (∃ (I : Int → Prop) (μ : Int → Nat), I 0 ∧ ∀ x, I x → z.1.length ≤ 9223372036854775807 → cnd (decide (x < (z.1.length : Int))) (0 ≤ x ∧ x < (z.1.length : Int) ∧ 0 ≤ x ∧ x < (f.2.2.length : Int) ∧ ∃ r : Int, (f15_wp (f, f.2.2.getD x.toNat g0, ()) () fun r' => r' = r) ∧ cnd (z.1.getD x.toNat 0 != r) (Q false) (I (IntKind.wrap .i64 (x + 1)) ∧ μ (IntKind.wrap .i64 (x + 1)) < μ x)) (f10_wp () () fun r => Q r))) := by
      rintro z rfl
      refine cndF fun _ _ => ?_
      have hlen : (f.2.2.map (stopF f.1 f.2.1)).length = f.2.2.length := by simp
      refine cnd_not (by simp) ?_
      refine forUpGL (n := (f.2.2.map (stopF f.1 f.2.1)).length) (fun _ => True) trivial (body := fun I μ x => 0 ≤ x ∧ x < ((f.2.2.map (stopF f.1 f.2.1)).length : Int) ∧ 0 ≤ x ∧ x < (f.2.2.length : Int) ∧ ∃ r : Int, (f15_wp (f, f.2.2.getD x.toNat g0, ()) () fun r' => r' = r) ∧ cnd ((f.2.2.map (stopF f.1 f.2.1)).getD x.toNat 0 != r) (Q false) (I (IntKind.wrap .i64 (x + 1)) ∧ μ (IntKind.wrap .i64 (x + 1)) < μ x)) (e := fun _ => f10_wp () () fun r => Q r) (fun k hk _ _ I μ hI hw => ?_) (fun _ => h)
      have hk' : k < f.2.2.length := by omega
      have hg : gapOK (f.2.2.getD k g0) = true := by
        have := ho.g _ (getD_mem (d := g0) hk')
        unfold gapOK
        rw [Bool.and_eq_true, isSpan_iff, isSpan_iff]; omega
      refine ⟨by omega, by omega, by omega, by omega, _, ⟨⟨ho, hg⟩, rfl⟩, ?_⟩
      rw [hw]
      refine cnd_not ?_ (hI trivial)
      show ((f.2.2.map (stopF f.1 f.2.1)).getD k 0 != stopF f.1 f.2.1 (f.2.2.getD k g0)) = false
      rw [getD_lt hk, getD_lt hk']
      simp
    exact key _ e
end Go.Proofs.Rv
set_option maxRecDepth 100000
namespace Go.Proofs.Rv
open Go Go.GX Go.Proofs
variable [Inhabited BaseD]
theorem ok27 : CallsOK Try.prog (assoc glT) 27 f27_ct :=
  callsOK_E (env (ct := []) (ios := []) (hos := []) (lits := []) AllOK.nil AllW.nil AllH.nil) no_an Try.func27 (by kernel_rfl) (by kernel_rfl) f27_ct fun ⟨a, b, _⟩ _ Q h => (v27 a b Q).mp (p27 h)
theorem ok39 : CallsOK Try.prog (assoc glT) 39 f39_ct :=
  callsOK_E (env (ct := [(27, f27_ct)]) (ios := []) (hos := []) (lits := [108]) (AllOK.cons ok27 AllOK.nil) AllW.nil AllH.nil) no_an Try.func39 (by kernel_rfl) (by kernel_rfl) f39_ct fun () _ Q h => (v39  Q).mp (p39 h)
theorem ok29 : CallsOK Try.prog (assoc glT) 29 f29_ct :=
  callsOK_E (env (ct := []) (ios := []) (hos := []) (lits := []) AllOK.nil AllW.nil AllH.nil) no_an Try.func29 (by kernel_rfl) (by kernel_rfl) f29_ct fun ⟨b, i, _⟩ _ Q h => (v29 b i Q).mp (p29 h)
theorem ok37 : CallsOK Try.prog (assoc glT) 37 f37_ct :=
  callsOK_E (env (ct := []) (ios := []) (hos := []) (lits := []) AllOK.nil AllW.nil AllH.nil) no_an Try.func37 (by kernel_rfl) (by kernel_rfl) f37_ct fun ⟨s, b, _⟩ _ Q h => (v37 s b Q).mp (p37 h)
theorem ok52 : CallsOK Try.prog (assoc glT) 52 f52_ct :=
  callsOK_E (env (ct := [(29, f29_ct), (37, f37_ct), (27, f27_ct)]) (ios := []) (hos := []) (lits := []) (AllOK.cons ok29 (AllOK.cons ok37 (AllOK.cons ok27 AllOK.nil))) AllW.nil AllH.nil) no_an Try.func52 (by kernel_rfl) (by kernel_rfl) f52_ct fun ⟨s, i, _⟩ ⟨b, _⟩ Q h => (v52 s i b Q).mp (p52 h)
theorem ok24 : CallsOK Try.prog (assoc glT) 24 f24_ct :=
  callsOK_E (env (ct := [(52, f52_ct)]) (ios := []) (hos := []) (lits := []) (AllOK.cons ok52 AllOK.nil) AllW.nil AllH.nil) f24_an Try.func24 (by kernel_rfl) (by kernel_rfl) f24_ct fun ⟨f, b, _⟩ _ Q h => (v24 f b Q).mp (p24 h)
theorem ok23 : CallsOK Try.prog (assoc glT) 23 f23_ct :=
  callsOK_E (env (ct := []) (ios := []) (hos := []) (lits := []) AllOK.nil AllW.nil AllH.nil) f23_an Try.func23 (by kernel_rfl) (by kernel_rfl) f23_ct fun f _ Q h => (v23 f Q).mp (p23 h)
theorem ok22 : CallsOK Try.prog (assoc glT) 22 f22_ct :=
  callsOK_E (env (ct := []) (ios := []) (hos := []) (lits := []) AllOK.nil AllW.nil AllH.nil) no_an Try.func22 (by kernel_rfl) (by kernel_rfl) f22_ct fun ⟨n, d, _⟩ _ Q h => (v22 n d Q).mp (p22 h)
theorem ok21 : CallsOK Try.prog (assoc glT) 21 f21_ct :=
  callsOK_E (env (ct := [(27, f27_ct)]) (ios := []) (hos := []) (lits := []) (AllOK.cons ok27 AllOK.nil) AllW.nil AllH.nil) f21_an Try.func21 (by kernel_rfl) (by kernel_rfl) f21_ct fun a _ Q h => (v21 a Q).mp (p21 h)
set_option maxHeartbeats 2000000 in
theorem ok10 : CallsOK Try.prog (assoc glT) 10 f10_ct :=
  callsOK_E (env (ct := [(39, f39_ct), (28, f28_ct), (12, f12_ct), (32, f32_ct), (27, f27_ct), (25, f25_ct), (30, f30_ct), (31, f31_ct), (17, f17_ct), (40, f40_ct), (41, f41_ct)]) (ios := []) (hos := []) (lits := []) (AllOK.cons ok39 (AllOK.cons ok28 (AllOK.cons ok12 (AllOK.cons ok32 (AllOK.cons ok27 (AllOK.cons ok25 (AllOK.cons ok30 (AllOK.cons ok31 (AllOK.cons ok17 (AllOK.cons ok40 (AllOK.cons ok41 AllOK.nil))))))))))) AllW.nil AllH.nil) no_an Try.func10 (by kernel_rfl) (by kernel_rfl) f10_ct fun () () Q h => (v10 Q).mp (p10 (Q := Q) h)
end Go.Proofs.Rv
set_option linter.unusedVariables false
set_option maxRecDepth 100000
namespace Go.Proofs.Rv
open Go Go.GX Go.Proofs

def leR (a b : Ratio) : Prop := a.1 * b.2 ≤ b.1 * a.2
theorem leR_trans {a b c : Ratio} (ha : 1 ≤ a.2) (hb : 1 ≤ b.2) (hc : 1 ≤ c.2) (h1 : leR a b) (h2 : leR b c) : leR a c := by
  unfold leR at *
  have e1 := Int.mul_le_mul_of_nonneg_right h1 (show 0 ≤ c.2 by omega)
  have e2 := Int.mul_le_mul_of_nonneg_right h2 (show 0 ≤ a.2 by omega)
  have a1 : a.1 * b.2 * c.2 = a.1 * c.2 * b.2 := by rw [Int.mul_assoc, Int.mul_comm b.2 c.2, ← Int.mul_assoc]
  have a2 : b.1 * a.2 * c.2 = b.1 * c.2 * a.2 := by rw [Int.mul_assoc, Int.mul_comm a.2 c.2, ← Int.mul_assoc]
  have a3 : c.1 * b.2 * a.2 = c.1 * a.2 * b.2 := by rw [Int.mul_assoc, Int.mul_comm b.2 a.2, ← Int.mul_assoc]
  exact Int.le_of_mul_le_mul_right (show a.1 * c.2 * b.2 ≤ c.1 * a.2 * b.2 by omega) (by omega)
inductive Att : List Stick → Ratio → Prop
  | nil : Att [] (0, 0)
  | cons {s : Stick} {t : List Stick} {r : Ratio} {w : Int} : w = s.1.1 ∨ w = s.1.2 → Att t r → Att (s :: t) (r.1 + w * s.2.2, r.2 + w)
end Go.Proofs.Rv
set_option linter.unusedVariables false
set_option maxRecDepth 100000
namespace Go.Proofs.Rv
open Go Go.GX Go.Proofs

def V5 (x : (Int × Int) × (Int × Int) × List (Int × Int × Int × Int)) (b : List Int) (v : Int × Int × Int) (Q : Bool → Prop) : Prop :=
  f21_wp ((Prod.fst (Prod.fst x), Prod.snd (Prod.fst x)), (Prod.fst (Prod.fst (Prod.snd x)), Prod.snd (Prod.fst (Prod.snd x))), Prod.snd (Prod.snd x)) () fun (r : (Int ×
  Int) × (Int × Int) × List ((Int × Int) × Int × Int)) ↦ f24_wp (((Prod.fst (Prod.fst r), Prod.snd (Prod.fst r)), (Prod.fst (Prod.fst (Prod.snd r)), Prod.snd (Prod.fst
  (Prod.snd r))), Prod.snd (Prod.snd r)), b, ()) () fun (r_1 : (Int × Int) × (Int × Int) × List ((Int × Int) × Int × Int)) ↦ f23_wp ((Prod.fst (Prod.fst r_1), Prod.snd
  (Prod.fst r_1)), (Prod.fst (Prod.fst (Prod.snd r_1)), Prod.snd (Prod.fst (Prod.snd r_1))), Prod.snd (Prod.snd r_1)) () fun (r_2 : Int × Int × Unit) ↦ f22_wp (Prod.fst
  r_2, Prod.fst (Prod.snd r_2), ()) () fun (r_3 : Int) ↦ ∃ (r_4 : (Int × Int) × (Int × Int) × List ((Int × Int) × Int × Int)), (f11_wp ((Prod.fst (Prod.fst r), Prod.snd
  (Prod.fst r)), (Prod.fst (Prod.fst (Prod.snd r)), Prod.snd (Prod.fst (Prod.snd r))), Prod.snd (Prod.snd r)) () fun (r' : (Int × Int) × (Int × Int) × List ((Int × Int) ×
  Int × Int)) ↦ r' = r_4) ∧ (3 : Int) ≠ (0 : Int) ∧ (3 : Int) ≠ (0 : Int) ∧ (3 : Int) ≠ (0 : Int) ∧ ∃ (r_5 : Int × Int), (f27_wp (mxI (0 : Int) (IntKind.wrap IntKind.i64
  (r_3 - Int.tmod (IntKind.wrap IntKind.i64 (Prod.fst v)) (3 : Int))), mnI (360 : Int) (IntKind.wrap IntKind.i64 (r_3 + Int.tmod (IntKind.wrap IntKind.i64 (Int.tdiv
  (IntKind.wrap IntKind.i64 (Prod.fst v)) (3 : Int))) (3 : Int))), ()) () fun (r' : Int × Int) ↦ r' = r_5) ∧ ∃ (r_6 : List Int × Int × Unit), (f25_wp (((Prod.fst (Prod.fst
  r_4), Prod.snd (Prod.fst r_4)), (Prod.fst (Prod.fst (Prod.snd r_4)), Prod.snd (Prod.fst (Prod.snd r_4))), Prod.snd (Prod.snd r_4)), (Prod.fst r_5, Prod.snd r_5), ()) ()
  fun (r' : List Int × Int × Unit) ↦ r' = r_6) ∧ cnd (Prod.fst (Prod.snd r_6) != (7 : Int)) (Q false) ((255 : Int) ≠ (0 : Int) ∧ (5 : Int) ≠ (0 : Int) ∧ f27_wp
  (IntKind.wrap IntKind.i64 (Int.tdiv (IntKind.wrap IntKind.i64 (IntKind.wrap IntKind.i64 (Prod.fst (Prod.snd v)) * (360 : Int))) (255 : Int)), mnI (360 : Int)
  (IntKind.wrap IntKind.i64 (IntKind.wrap IntKind.i64 (Int.tdiv (IntKind.wrap IntKind.i64 (IntKind.wrap IntKind.i64 (Prod.fst (Prod.snd v)) * (360 : Int))) (255 : Int)) +
  Int.tmod (IntKind.wrap IntKind.i64 (Prod.snd (Prod.snd v))) (5 : Int))), ()) () fun (r_7 : Int × Int) ↦ ∃ (r_8 : (Int × Int) × (Int × Int) × List ((Int × Int) × Int ×
  Int)), (f11_wp ((Prod.fst (Prod.fst r), Prod.snd (Prod.fst r)), (Prod.fst (Prod.fst (Prod.snd r)), Prod.snd (Prod.fst (Prod.snd r))), Prod.snd (Prod.snd r)) () fun (r' :
  (Int × Int) × (Int × Int) × List ((Int × Int) × Int × Int)) ↦ r' = r_8) ∧ ∃ (r_9 : List Int × Int × Unit), (f25_wp (((Prod.fst (Prod.fst r_8), Prod.snd (Prod.fst r_8)),
  (Prod.fst (Prod.fst (Prod.snd r_8)), Prod.snd (Prod.fst (Prod.snd r_8))), Prod.snd (Prod.snd r_8)), (Prod.fst r_7, Prod.snd r_7), ()) () fun (r' : List Int × Int × Unit)
  ↦ r' = r_9) ∧ f11_wp ((Prod.fst (Prod.fst r), Prod.snd (Prod.fst r)), (Prod.fst (Prod.fst (Prod.snd r)), Prod.snd (Prod.fst (Prod.snd r))), Prod.snd (Prod.snd r)) () fun
  (r_10 : (Int × Int) × (Int × Int) × List ((Int × Int) × Int × Int)) ↦ f28_wp ((Prod.fst (Prod.fst r_10), Prod.snd (Prod.fst r_10)), (Prod.fst (Prod.fst (Prod.snd r_10)),
  Prod.snd (Prod.fst (Prod.snd r_10))), Prod.snd (Prod.snd r_10)) () fun (r_11 : (Int × Int) × Int × Unit) ↦ cnd (Prod.fst (Prod.snd r_11) != (0 : Int)) (Q false) (∃ (I :
  Bool → Prop), cnd (decide (Prod.fst (Prod.fst r_11) ≤ Prod.snd r_7)) (I (decide (Prod.fst r_7 ≤ Prod.snd (Prod.fst r_11)))) (I false) ∧ ∀ (x : Bool), I x → cnd x (cnd
  (Prod.fst (Prod.snd r_9) == (7 : Int)) (List.length (Prod.fst r_9) ≤ (9223372036854775807 : Nat) → cnd ((↑(List.length (Prod.fst r_9)) : Int) == (0 : Int)) (f10_wp () ()
  fun (r : Bool) ↦ Q r) (Q false)) (Q false)) (List.length (Prod.snd (Prod.snd r)) ≤ (9223372036854775807 : Nat) → cnd ((↑(List.length (Prod.snd (Prod.snd r))) : Int) == (0
  : Int)) (cnd (Prod.fst (Prod.snd r_9) == (9 : Int)) (List.length (Prod.fst r_9) ≤ (9223372036854775807 : Nat) → cnd ((↑(List.length (Prod.fst r_9)) : Int) == (0 : Int))
  (f10_wp () () fun (r : Bool) ↦ Q r) (Q false)) (Q false)) (cnd (Prod.fst (Prod.snd r_9) != (0 : Int)) (Q false) (List.length (Prod.fst r_9) ≤ (9223372036854775807 : Nat)
  → cnd ((↑(List.length (Prod.fst r_9)) : Int) == (0 : Int)) (Q false) (List.length (Prod.fst r_9) ≤ (9223372036854775807 : Nat) → List.length (Prod.snd (Prod.snd r)) ≤
  (9223372036854775807 : Nat) → cnd (decide ((↑(List.length (Prod.fst r_9)) : Int) > (↑(List.length (Prod.snd (Prod.snd r))) : Int))) (Q false) (∃ (I : Int → Prop), ∃ (μ :
  Int → Nat), I (-1 : Int) ∧ ∀ (x : Int), I x → List.length (Prod.fst r_9) ≤ (9223372036854775807 : Nat) → cnd (decide (x < (↑(List.length (Prod.fst r_9)) : Int))) (∃ (I_1
  : Int → Bool × Bool × Bool × Bool × Bool × Bool × Bool × Bool × Bool × Bool × Bool × Bool → Prop), ∃ (μ_1 : Int → Bool × Bool × Bool × Bool × Bool × Bool × Bool × Bool ×
  Bool × Bool × Bool × Bool → Nat), I_1 (0 : Int) (false, false, false, false, false, false, false, false, false, false, false, false) ∧ ∀ (x_1 : Int) (x_2 : Bool × Bool ×
  Bool × Bool × Bool × Bool × Bool × Bool × Bool × Bool × Bool × Bool), I_1 x_1 x_2 → List.length (Prod.fst r_9) ≤ (9223372036854775807 : Nat) → cnd (decide (x_1 <
  (↑(List.length (Prod.fst r_9)) : Int))) (∃ (I : Bool → Prop), ((0 : Int) ≤ x_1 ∧ x_1 < (↑(List.length (Prod.fst r_9)) : Int) ∧ cnd (decide (List.getD (Prod.fst r_9)
  (Int.toNat x_1) (0 : Int) < (0 : Int))) (I true) ((0 : Int) ≤ x_1 ∧ x_1 < (↑(List.length (Prod.fst r_9)) : Int) ∧ cnd (decide (List.getD (Prod.fst r_9) (Int.toNat x_1) (0
  : Int) ≥ (↑(List.length (Prod.snd (Prod.snd r))) : Int))) (I true) (cnd (decide (x_1 > (0 : Int))) ((0 : Int) ≤ x_1 ∧ x_1 < (↑(List.length (Prod.fst r_9)) : Int) ∧ (0 :
  Int) ≤ IntKind.wrap IntKind.i64 (x_1 - (1 : Int)) ∧ IntKind.wrap IntKind.i64 (x_1 - (1 : Int)) < (↑(List.length (Prod.fst r_9)) : Int) ∧ I (decide (List.getD (Prod.fst
  r_9) (Int.toNat x_1) (0 : Int) ≤ List.getD (Prod.fst r_9) (Int.toNat (IntKind.wrap IntKind.i64 (x_1 - (1 : Int)))) (0 : Int)))) (I false)))) ∧ ∀ (x_3 : Bool), I x_3 → cnd
  x_3 (Q false) ((0 : Int) ≤ x_1 ∧ x_1 < (↑(List.length (Prod.fst r_9)) : Int) ∧ (0 : Int) ≤ List.getD (Prod.fst r_9) (Int.toNat x_1) (0 : Int) ∧ List.getD (Prod.fst r_9)
  (Int.toNat x_1) (0 : Int) < (↑(12 : Nat) : Int) ∧ I_1 (IntKind.wrap IntKind.i64 (x_1 + (1 : Int))) (List.getD (List.set (Prod.fst x_2 :: Prod.fst (Prod.snd x_2) ::
  Prod.fst (Prod.snd (Prod.snd x_2)) :: Prod.fst (Prod.snd (Prod.snd (Prod.snd x_2))) :: Prod.fst (Prod.snd (Prod.snd (Prod.snd (Prod.snd x_2)))) :: Prod.fst (Prod.snd
  (Prod.snd (Prod.snd (Prod.snd (Prod.snd x_2))))) :: Prod.fst (Prod.snd (Prod.snd (Prod.snd (Prod.snd (Prod.snd (Prod.snd x_2)))))) :: Prod.fst (Prod.snd (Prod.snd
  (Prod.snd (Prod.snd (Prod.snd (Prod.snd (Prod.snd x_2))))))) :: Prod.fst (Prod.snd (Prod.snd (Prod.snd (Prod.snd (Prod.snd (Prod.snd (Prod.snd (Prod.snd x_2)))))))) ::
  Prod.fst (Prod.snd (Prod.snd (Prod.snd (Prod.snd (Prod.snd (Prod.snd (Prod.snd (Prod.snd (Prod.snd x_2))))))))) :: Prod.fst (Prod.snd (Prod.snd (Prod.snd (Prod.snd
  (Prod.snd (Prod.snd (Prod.snd (Prod.snd (Prod.snd (Prod.snd x_2)))))))))) :: Prod.snd (Prod.snd (Prod.snd (Prod.snd (Prod.snd (Prod.snd (Prod.snd (Prod.snd (Prod.snd
  (Prod.snd (Prod.snd x_2)))))))))) :: ([] : List Bool)) (Int.toNat (List.getD (Prod.fst r_9) (Int.toNat x_1) (0 : Int))) (x_1 != x)) (nat_lit 0) (x_1 != x), List.getD
  (List.set (Prod.fst x_2 :: Prod.fst (Prod.snd x_2) :: Prod.fst (Prod.snd (Prod.snd x_2)) :: Prod.fst (Prod.snd (Prod.snd (Prod.snd x_2))) :: Prod.fst (Prod.snd (Prod.snd
  (Prod.snd (Prod.snd x_2)))) :: Prod.fst (Prod.snd (Prod.snd (Prod.snd (Prod.snd (Prod.snd x_2))))) :: Prod.fst (Prod.snd (Prod.snd (Prod.snd (Prod.snd (Prod.snd (Prod.snd
  x_2)))))) :: Prod.fst (Prod.snd (Prod.snd (Prod.snd (Prod.snd (Prod.snd (Prod.snd (Prod.snd x_2))))))) :: Prod.fst (Prod.snd (Prod.snd (Prod.snd (Prod.snd (Prod.snd
  (Prod.snd (Prod.snd (Prod.snd x_2)))))))) :: Prod.fst (Prod.snd (Prod.snd (Prod.snd (Prod.snd (Prod.snd (Prod.snd (Prod.snd (Prod.snd (Prod.snd x_2))))))))) :: Prod.fst
  (Prod.snd (Prod.snd (Prod.snd (Prod.snd (Prod.snd (Prod.snd (Prod.snd (Prod.snd (Prod.snd (Prod.snd x_2)))))))))) :: Prod.snd (Prod.snd (Prod.snd (Prod.snd (Prod.snd
  (Prod.snd (Prod.snd (Prod.snd (Prod.snd (Prod.snd (Prod.snd x_2)))))))))) :: ([] : List Bool)) (Int.toNat (List.getD (Prod.fst r_9) (Int.toNat x_1) (0 : Int))) (x_1 !=
  x)) (nat_lit 1) (x_1 != x), List.getD (List.set (Prod.fst x_2 :: Prod.fst (Prod.snd x_2) :: Prod.fst (Prod.snd (Prod.snd x_2)) :: Prod.fst (Prod.snd (Prod.snd (Prod.snd
  x_2))) :: Prod.fst (Prod.snd (Prod.snd (Prod.snd (Prod.snd x_2)))) :: Prod.fst (Prod.snd (Prod.snd (Prod.snd (Prod.snd (Prod.snd x_2))))) :: Prod.fst (Prod.snd (Prod.snd
  (Prod.snd (Prod.snd (Prod.snd (Prod.snd x_2)))))) :: Prod.fst (Prod.snd (Prod.snd (Prod.snd (Prod.snd (Prod.snd (Prod.snd (Prod.snd x_2))))))) :: Prod.fst (Prod.snd
  (Prod.snd (Prod.snd (Prod.snd (Prod.snd (Prod.snd (Prod.snd (Prod.snd x_2)))))))) :: Prod.fst (Prod.snd (Prod.snd (Prod.snd (Prod.snd (Prod.snd (Prod.snd (Prod.snd
  (Prod.snd (Prod.snd x_2))))))))) :: Prod.fst (Prod.snd (Prod.snd (Prod.snd (Prod.snd (Prod.snd (Prod.snd (Prod.snd (Prod.snd (Prod.snd (Prod.snd x_2)))))))))) :: Prod.snd
  (Prod.snd (Prod.snd (Prod.snd (Prod.snd (Prod.snd (Prod.snd (Prod.snd (Prod.snd (Prod.snd (Prod.snd x_2)))))))))) :: ([] : List Bool)) (Int.toNat (List.getD (Prod.fst
  r_9) (Int.toNat x_1) (0 : Int))) (x_1 != x)) (nat_lit 2) (x_1 != x), List.getD (List.set (Prod.fst x_2 :: Prod.fst (Prod.snd x_2) :: Prod.fst (Prod.snd (Prod.snd x_2)) ::
  Prod.fst (Prod.snd (Prod.snd (Prod.snd x_2))) :: Prod.fst (Prod.snd (Prod.snd (Prod.snd (Prod.snd x_2)))) :: Prod.fst (Prod.snd (Prod.snd (Prod.snd (Prod.snd (Prod.snd
  x_2))))) :: Prod.fst (Prod.snd (Prod.snd (Prod.snd (Prod.snd (Prod.snd (Prod.snd x_2)))))) :: Prod.fst (Prod.snd (Prod.snd (Prod.snd (Prod.snd (Prod.snd (Prod.snd
  (Prod.snd x_2))))))) :: Prod.fst (Prod.snd (Prod.snd (Prod.snd (Prod.snd (Prod.snd (Prod.snd (Prod.snd (Prod.snd x_2)))))))) :: Prod.fst (Prod.snd (Prod.snd (Prod.snd
  (Prod.snd (Prod.snd (Prod.snd (Prod.snd (Prod.snd (Prod.snd x_2))))))))) :: Prod.fst (Prod.snd (Prod.snd (Prod.snd (Prod.snd (Prod.snd (Prod.snd (Prod.snd (Prod.snd
  (Prod.snd (Prod.snd x_2)))))))))) :: Prod.snd (Prod.snd (Prod.snd (Prod.snd (Prod.snd (Prod.snd (Prod.snd (Prod.snd (Prod.snd (Prod.snd (Prod.snd x_2)))))))))) :: ([] :
  List Bool)) (Int.toNat (List.getD (Prod.fst r_9) (Int.toNat x_1) (0 : Int))) (x_1 != x)) (nat_lit 3) (x_1 != x), List.getD (List.set (Prod.fst x_2 :: Prod.fst (Prod.snd
  x_2) :: Prod.fst (Prod.snd (Prod.snd x_2)) :: Prod.fst (Prod.snd (Prod.snd (Prod.snd x_2))) :: Prod.fst (Prod.snd (Prod.snd (Prod.snd (Prod.snd x_2)))) :: Prod.fst
  (Prod.snd (Prod.snd (Prod.snd (Prod.snd (Prod.snd x_2))))) :: Prod.fst (Prod.snd (Prod.snd (Prod.snd (Prod.snd (Prod.snd (Prod.snd x_2)))))) :: Prod.fst (Prod.snd
  (Prod.snd (Prod.snd (Prod.snd (Prod.snd (Prod.snd (Prod.snd x_2))))))) :: Prod.fst (Prod.snd (Prod.snd (Prod.snd (Prod.snd (Prod.snd (Prod.snd (Prod.snd (Prod.snd
  x_2)))))))) :: Prod.fst (Prod.snd (Prod.snd (Prod.snd (Prod.snd (Prod.snd (Prod.snd (Prod.snd (Prod.snd (Prod.snd x_2))))))))) :: Prod.fst (Prod.snd (Prod.snd (Prod.snd
  (Prod.snd (Prod.snd (Prod.snd (Prod.snd (Prod.snd (Prod.snd (Prod.snd x_2)))))))))) :: Prod.snd (Prod.snd (Prod.snd (Prod.snd (Prod.snd (Prod.snd (Prod.snd (Prod.snd
  (Prod.snd (Prod.snd (Prod.snd x_2)))))))))) :: ([] : List Bool)) (Int.toNat (List.getD (Prod.fst r_9) (Int.toNat x_1) (0 : Int))) (x_1 != x)) (nat_lit 4) (x_1 != x),
  List.getD (List.set (Prod.fst x_2 :: Prod.fst (Prod.snd x_2) :: Prod.fst (Prod.snd (Prod.snd x_2)) :: Prod.fst (Prod.snd (Prod.snd (Prod.snd x_2))) :: Prod.fst (Prod.snd
  (Prod.snd (Prod.snd (Prod.snd x_2)))) :: Prod.fst (Prod.snd (Prod.snd (Prod.snd (Prod.snd (Prod.snd x_2))))) :: Prod.fst (Prod.snd (Prod.snd (Prod.snd (Prod.snd (Prod.snd
  (Prod.snd x_2)))))) :: Prod.fst (Prod.snd (Prod.snd (Prod.snd (Prod.snd (Prod.snd (Prod.snd (Prod.snd x_2))))))) :: Prod.fst (Prod.snd (Prod.snd (Prod.snd (Prod.snd
  (Prod.snd (Prod.snd (Prod.snd (Prod.snd x_2)))))))) :: Prod.fst (Prod.snd (Prod.snd (Prod.snd (Prod.snd (Prod.snd (Prod.snd (Prod.snd (Prod.snd (Prod.snd x_2))))))))) ::
  Prod.fst (Prod.snd (Prod.snd (Prod.snd (Prod.snd (Prod.snd (Prod.snd (Prod.snd (Prod.snd (Prod.snd (Prod.snd x_2)))))))))) :: Prod.snd (Prod.snd (Prod.snd (Prod.snd
  (Prod.snd (Prod.snd (Prod.snd (Prod.snd (Prod.snd (Prod.snd (Prod.snd x_2)))))))))) :: ([] : List Bool)) (Int.toNat (List.getD (Prod.fst r_9) (Int.toNat x_1) (0 : Int)))
  (x_1 != x)) (nat_lit 5) (x_1 != x), List.getD (List.set (Prod.fst x_2 :: Prod.fst (Prod.snd x_2) :: Prod.fst (Prod.snd (Prod.snd x_2)) :: Prod.fst (Prod.snd (Prod.snd
  (Prod.snd x_2))) :: Prod.fst (Prod.snd (Prod.snd (Prod.snd (Prod.snd x_2)))) :: Prod.fst (Prod.snd (Prod.snd (Prod.snd (Prod.snd (Prod.snd x_2))))) :: Prod.fst (Prod.snd
  (Prod.snd (Prod.snd (Prod.snd (Prod.snd (Prod.snd x_2)))))) :: Prod.fst (Prod.snd (Prod.snd (Prod.snd (Prod.snd (Prod.snd (Prod.snd (Prod.snd x_2))))))) :: Prod.fst
  (Prod.snd (Prod.snd (Prod.snd (Prod.snd (Prod.snd (Prod.snd (Prod.snd (Prod.snd x_2)))))))) :: Prod.fst (Prod.snd (Prod.snd (Prod.snd (Prod.snd (Prod.snd (Prod.snd
  (Prod.snd (Prod.snd (Prod.snd x_2))))))))) :: Prod.fst (Prod.snd (Prod.snd (Prod.snd (Prod.snd (Prod.snd (Prod.snd (Prod.snd (Prod.snd (Prod.snd (Prod.snd x_2))))))))))
  :: Prod.snd (Prod.snd (Prod.snd (Prod.snd (Prod.snd (Prod.snd (Prod.snd (Prod.snd (Prod.snd (Prod.snd (Prod.snd x_2)))))))))) :: ([] : List Bool)) (Int.toNat (List.getD
  (Prod.fst r_9) (Int.toNat x_1) (0 : Int))) (x_1 != x)) (nat_lit 6) (x_1 != x), List.getD (List.set (Prod.fst x_2 :: Prod.fst (Prod.snd x_2) :: Prod.fst (Prod.snd
  (Prod.snd x_2)) :: Prod.fst (Prod.snd (Prod.snd (Prod.snd x_2))) :: Prod.fst (Prod.snd (Prod.snd (Prod.snd (Prod.snd x_2)))) :: Prod.fst (Prod.snd (Prod.snd (Prod.snd
  (Prod.snd (Prod.snd x_2))))) :: Prod.fst (Prod.snd (Prod.snd (Prod.snd (Prod.snd (Prod.snd (Prod.snd x_2)))))) :: Prod.fst (Prod.snd (Prod.snd (Prod.snd (Prod.snd
  (Prod.snd (Prod.snd (Prod.snd x_2))))))) :: Prod.fst (Prod.snd (Prod.snd (Prod.snd (Prod.snd (Prod.snd (Prod.snd (Prod.snd (Prod.snd x_2)))))))) :: Prod.fst (Prod.snd
  (Prod.snd (Prod.snd (Prod.snd (Prod.snd (Prod.snd (Prod.snd (Prod.snd (Prod.snd x_2))))))))) :: Prod.fst (Prod.snd (Prod.snd (Prod.snd (Prod.snd (Prod.snd (Prod.snd
  (Prod.snd (Prod.snd (Prod.snd (Prod.snd x_2)))))))))) :: Prod.snd (Prod.snd (Prod.snd (Prod.snd (Prod.snd (Prod.snd (Prod.snd (Prod.snd (Prod.snd (Prod.snd (Prod.snd
  x_2)))))))))) :: ([] : List Bool)) (Int.toNat (List.getD (Prod.fst r_9) (Int.toNat x_1) (0 : Int))) (x_1 != x)) (nat_lit 7) (x_1 != x), List.getD (List.set (Prod.fst x_2
  :: Prod.fst (Prod.snd x_2) :: Prod.fst (Prod.snd (Prod.snd x_2)) :: Prod.fst (Prod.snd (Prod.snd (Prod.snd x_2))) :: Prod.fst (Prod.snd (Prod.snd (Prod.snd (Prod.snd
  x_2)))) :: Prod.fst (Prod.snd (Prod.snd (Prod.snd (Prod.snd (Prod.snd x_2))))) :: Prod.fst (Prod.snd (Prod.snd (Prod.snd (Prod.snd (Prod.snd (Prod.snd x_2)))))) ::
  Prod.fst (Prod.snd (Prod.snd (Prod.snd (Prod.snd (Prod.snd (Prod.snd (Prod.snd x_2))))))) :: Prod.fst (Prod.snd (Prod.snd (Prod.snd (Prod.snd (Prod.snd (Prod.snd
  (Prod.snd (Prod.snd x_2)))))))) :: Prod.fst (Prod.snd (Prod.snd (Prod.snd (Prod.snd (Prod.snd (Prod.snd (Prod.snd (Prod.snd (Prod.snd x_2))))))))) :: Prod.fst (Prod.snd
  (Prod.snd (Prod.snd (Prod.snd (Prod.snd (Prod.snd (Prod.snd (Prod.snd (Prod.snd (Prod.snd x_2)))))))))) :: Prod.snd (Prod.snd (Prod.snd (Prod.snd (Prod.snd (Prod.snd
  (Prod.snd (Prod.snd (Prod.snd (Prod.snd (Prod.snd x_2)))))))))) :: ([] : List Bool)) (Int.toNat (List.getD (Prod.fst r_9) (Int.toNat x_1) (0 : Int))) (x_1 != x)) (nat_lit
  8) (x_1 != x), List.getD (List.set (Prod.fst x_2 :: Prod.fst (Prod.snd x_2) :: Prod.fst (Prod.snd (Prod.snd x_2)) :: Prod.fst (Prod.snd (Prod.snd (Prod.snd x_2))) ::
  Prod.fst (Prod.snd (Prod.snd (Prod.snd (Prod.snd x_2)))) :: Prod.fst (Prod.snd (Prod.snd (Prod.snd (Prod.snd (Prod.snd x_2))))) :: Prod.fst (Prod.snd (Prod.snd (Prod.snd
  (Prod.snd (Prod.snd (Prod.snd x_2)))))) :: Prod.fst (Prod.snd (Prod.snd (Prod.snd (Prod.snd (Prod.snd (Prod.snd (Prod.snd x_2))))))) :: Prod.fst (Prod.snd (Prod.snd
  (Prod.snd (Prod.snd (Prod.snd (Prod.snd (Prod.snd (Prod.snd x_2)))))))) :: Prod.fst (Prod.snd (Prod.snd (Prod.snd (Prod.snd (Prod.snd (Prod.snd (Prod.snd (Prod.snd
  (Prod.snd x_2))))))))) :: Prod.fst (Prod.snd (Prod.snd (Prod.snd (Prod.snd (Prod.snd (Prod.snd (Prod.snd (Prod.snd (Prod.snd (Prod.snd x_2)))))))))) :: Prod.snd (Prod.snd
  (Prod.snd (Prod.snd (Prod.snd (Prod.snd (Prod.snd (Prod.snd (Prod.snd (Prod.snd (Prod.snd x_2)))))))))) :: ([] : List Bool)) (Int.toNat (List.getD (Prod.fst r_9)
  (Int.toNat x_1) (0 : Int))) (x_1 != x)) (nat_lit 9) (x_1 != x), List.getD (List.set (Prod.fst x_2 :: Prod.fst (Prod.snd x_2) :: Prod.fst (Prod.snd (Prod.snd x_2)) ::
  Prod.fst (Prod.snd (Prod.snd (Prod.snd x_2))) :: Prod.fst (Prod.snd (Prod.snd (Prod.snd (Prod.snd x_2)))) :: Prod.fst (Prod.snd (Prod.snd (Prod.snd (Prod.snd (Prod.snd
  x_2))))) :: Prod.fst (Prod.snd (Prod.snd (Prod.snd (Prod.snd (Prod.snd (Prod.snd x_2)))))) :: Prod.fst (Prod.snd (Prod.snd (Prod.snd (Prod.snd (Prod.snd (Prod.snd
  (Prod.snd x_2))))))) :: Prod.fst (Prod.snd (Prod.snd (Prod.snd (Prod.snd (Prod.snd (Prod.snd (Prod.snd (Prod.snd x_2)))))))) :: Prod.fst (Prod.snd (Prod.snd (Prod.snd
  (Prod.snd (Prod.snd (Prod.snd (Prod.snd (Prod.snd (Prod.snd x_2))))))))) :: Prod.fst (Prod.snd (Prod.snd (Prod.snd (Prod.snd (Prod.snd (Prod.snd (Prod.snd (Prod.snd
  (Prod.snd (Prod.snd x_2)))))))))) :: Prod.snd (Prod.snd (Prod.snd (Prod.snd (Prod.snd (Prod.snd (Prod.snd (Prod.snd (Prod.snd (Prod.snd (Prod.snd x_2)))))))))) :: ([] :
  List Bool)) (Int.toNat (List.getD (Prod.fst r_9) (Int.toNat x_1) (0 : Int))) (x_1 != x)) (nat_lit 10) (x_1 != x), List.getD (List.set (Prod.fst x_2 :: Prod.fst (Prod.snd
  x_2) :: Prod.fst (Prod.snd (Prod.snd x_2)) :: Prod.fst (Prod.snd (Prod.snd (Prod.snd x_2))) :: Prod.fst (Prod.snd (Prod.snd (Prod.snd (Prod.snd x_2)))) :: Prod.fst
  (Prod.snd (Prod.snd (Prod.snd (Prod.snd (Prod.snd x_2))))) :: Prod.fst (Prod.snd (Prod.snd (Prod.snd (Prod.snd (Prod.snd (Prod.snd x_2)))))) :: Prod.fst (Prod.snd
  (Prod.snd (Prod.snd (Prod.snd (Prod.snd (Prod.snd (Prod.snd x_2))))))) :: Prod.fst (Prod.snd (Prod.snd (Prod.snd (Prod.snd (Prod.snd (Prod.snd (Prod.snd (Prod.snd
  x_2)))))))) :: Prod.fst (Prod.snd (Prod.snd (Prod.snd (Prod.snd (Prod.snd (Prod.snd (Prod.snd (Prod.snd (Prod.snd x_2))))))))) :: Prod.fst (Prod.snd (Prod.snd (Prod.snd
  (Prod.snd (Prod.snd (Prod.snd (Prod.snd (Prod.snd (Prod.snd (Prod.snd x_2)))))))))) :: Prod.snd (Prod.snd (Prod.snd (Prod.snd (Prod.snd (Prod.snd (Prod.snd (Prod.snd
  (Prod.snd (Prod.snd (Prod.snd x_2)))))))))) :: ([] : List Bool)) (Int.toNat (List.getD (Prod.fst r_9) (Int.toNat x_1) (0 : Int))) (x_1 != x)) (nat_lit 11) (x_1 != x)) ∧
  μ_1 (IntKind.wrap IntKind.i64 (x_1 + (1 : Int))) (List.getD (List.set (Prod.fst x_2 :: Prod.fst (Prod.snd x_2) :: Prod.fst (Prod.snd (Prod.snd x_2)) :: Prod.fst (Prod.snd
  (Prod.snd (Prod.snd x_2))) :: Prod.fst (Prod.snd (Prod.snd (Prod.snd (Prod.snd x_2)))) :: Prod.fst (Prod.snd (Prod.snd (Prod.snd (Prod.snd (Prod.snd x_2))))) :: Prod.fst
  (Prod.snd (Prod.snd (Prod.snd (Prod.snd (Prod.snd (Prod.snd x_2)))))) :: Prod.fst (Prod.snd (Prod.snd (Prod.snd (Prod.snd (Prod.snd (Prod.snd (Prod.snd x_2))))))) ::
  Prod.fst (Prod.snd (Prod.snd (Prod.snd (Prod.snd (Prod.snd (Prod.snd (Prod.snd (Prod.snd x_2)))))))) :: Prod.fst (Prod.snd (Prod.snd (Prod.snd (Prod.snd (Prod.snd
  (Prod.snd (Prod.snd (Prod.snd (Prod.snd x_2))))))))) :: Prod.fst (Prod.snd (Prod.snd (Prod.snd (Prod.snd (Prod.snd (Prod.snd (Prod.snd (Prod.snd (Prod.snd (Prod.snd
  x_2)))))))))) :: Prod.snd (Prod.snd (Prod.snd (Prod.snd (Prod.snd (Prod.snd (Prod.snd (Prod.snd (Prod.snd (Prod.snd (Prod.snd x_2)))))))))) :: ([] : List Bool))
  (Int.toNat (List.getD (Prod.fst r_9) (Int.toNat x_1) (0 : Int))) (x_1 != x)) (nat_lit 0) (x_1 != x), List.getD (List.set (Prod.fst x_2 :: Prod.fst (Prod.snd x_2) ::
  Prod.fst (Prod.snd (Prod.snd x_2)) :: Prod.fst (Prod.snd (Prod.snd (Prod.snd x_2))) :: Prod.fst (Prod.snd (Prod.snd (Prod.snd (Prod.snd x_2)))) :: Prod.fst (Prod.snd
  (Prod.snd (Prod.snd (Prod.snd (Prod.snd x_2))))) :: Prod.fst (Prod.snd (Prod.snd (Prod.snd (Prod.snd (Prod.snd (Prod.snd x_2)))))) :: Prod.fst (Prod.snd (Prod.snd
  (Prod.snd (Prod.snd (Prod.snd (Prod.snd (Prod.snd x_2))))))) :: Prod.fst (Prod.snd (Prod.snd (Prod.snd (Prod.snd (Prod.snd (Prod.snd (Prod.snd (Prod.snd x_2)))))))) ::
  Prod.fst (Prod.snd (Prod.snd (Prod.snd (Prod.snd (Prod.snd (Prod.snd (Prod.snd (Prod.snd (Prod.snd x_2))))))))) :: Prod.fst (Prod.snd (Prod.snd (Prod.snd (Prod.snd
  (Prod.snd (Prod.snd (Prod.snd (Prod.snd (Prod.snd (Prod.snd x_2)))))))))) :: Prod.snd (Prod.snd (Prod.snd (Prod.snd (Prod.snd (Prod.snd (Prod.snd (Prod.snd (Prod.snd
  (Prod.snd (Prod.snd x_2)))))))))) :: ([] : List Bool)) (Int.toNat (List.getD (Prod.fst r_9) (Int.toNat x_1) (0 : Int))) (x_1 != x)) (nat_lit 1) (x_1 != x), List.getD
  (List.set (Prod.fst x_2 :: Prod.fst (Prod.snd x_2) :: Prod.fst (Prod.snd (Prod.snd x_2)) :: Prod.fst (Prod.snd (Prod.snd (Prod.snd x_2))) :: Prod.fst (Prod.snd (Prod.snd
  (Prod.snd (Prod.snd x_2)))) :: Prod.fst (Prod.snd (Prod.snd (Prod.snd (Prod.snd (Prod.snd x_2))))) :: Prod.fst (Prod.snd (Prod.snd (Prod.snd (Prod.snd (Prod.snd (Prod.snd
  x_2)))))) :: Prod.fst (Prod.snd (Prod.snd (Prod.snd (Prod.snd (Prod.snd (Prod.snd (Prod.snd x_2))))))) :: Prod.fst (Prod.snd (Prod.snd (Prod.snd (Prod.snd (Prod.snd
  (Prod.snd (Prod.snd (Prod.snd x_2)))))))) :: Prod.fst (Prod.snd (Prod.snd (Prod.snd (Prod.snd (Prod.snd (Prod.snd (Prod.snd (Prod.snd (Prod.snd x_2))))))))) :: Prod.fst
  (Prod.snd (Prod.snd (Prod.snd (Prod.snd (Prod.snd (Prod.snd (Prod.snd (Prod.snd (Prod.snd (Prod.snd x_2)))))))))) :: Prod.snd (Prod.snd (Prod.snd (Prod.snd (Prod.snd
  (Prod.snd (Prod.snd (Prod.snd (Prod.snd (Prod.snd (Prod.snd x_2)))))))))) :: ([] : List Bool)) (Int.toNat (List.getD (Prod.fst r_9) (Int.toNat x_1) (0 : Int))) (x_1 !=
  x)) (nat_lit 2) (x_1 != x), List.getD (List.set (Prod.fst x_2 :: Prod.fst (Prod.snd x_2) :: Prod.fst (Prod.snd (Prod.snd x_2)) :: Prod.fst (Prod.snd (Prod.snd (Prod.snd
  x_2))) :: Prod.fst (Prod.snd (Prod.snd (Prod.snd (Prod.snd x_2)))) :: Prod.fst (Prod.snd (Prod.snd (Prod.snd (Prod.snd (Prod.snd x_2))))) :: Prod.fst (Prod.snd (Prod.snd
  (Prod.snd (Prod.snd (Prod.snd (Prod.snd x_2)))))) :: Prod.fst (Prod.snd (Prod.snd (Prod.snd (Prod.snd (Prod.snd (Prod.snd (Prod.snd x_2))))))) :: Prod.fst (Prod.snd
  (Prod.snd (Prod.snd (Prod.snd (Prod.snd (Prod.snd (Prod.snd (Prod.snd x_2)))))))) :: Prod.fst (Prod.snd (Prod.snd (Prod.snd (Prod.snd (Prod.snd (Prod.snd (Prod.snd
  (Prod.snd (Prod.snd x_2))))))))) :: Prod.fst (Prod.snd (Prod.snd (Prod.snd (Prod.snd (Prod.snd (Prod.snd (Prod.snd (Prod.snd (Prod.snd (Prod.snd x_2)))))))))) :: Prod.snd
  (Prod.snd (Prod.snd (Prod.snd (Prod.snd (Prod.snd (Prod.snd (Prod.snd (Prod.snd (Prod.snd (Prod.snd x_2)))))))))) :: ([] : List Bool)) (Int.toNat (List.getD (Prod.fst
  r_9) (Int.toNat x_1) (0 : Int))) (x_1 != x)) (nat_lit 3) (x_1 != x), List.getD (List.set (Prod.fst x_2 :: Prod.fst (Prod.snd x_2) :: Prod.fst (Prod.snd (Prod.snd x_2)) ::
  Prod.fst (Prod.snd (Prod.snd (Prod.snd x_2))) :: Prod.fst (Prod.snd (Prod.snd (Prod.snd (Prod.snd x_2)))) :: Prod.fst (Prod.snd (Prod.snd (Prod.snd (Prod.snd (Prod.snd
  x_2))))) :: Prod.fst (Prod.snd (Prod.snd (Prod.snd (Prod.snd (Prod.snd (Prod.snd x_2)))))) :: Prod.fst (Prod.snd (Prod.snd (Prod.snd (Prod.snd (Prod.snd (Prod.snd
  (Prod.snd x_2))))))) :: Prod.fst (Prod.snd (Prod.snd (Prod.snd (Prod.snd (Prod.snd (Prod.snd (Prod.snd (Prod.snd x_2)))))))) :: Prod.fst (Prod.snd (Prod.snd (Prod.snd
  (Prod.snd (Prod.snd (Prod.snd (Prod.snd (Prod.snd (Prod.snd x_2))))))))) :: Prod.fst (Prod.snd (Prod.snd (Prod.snd (Prod.snd (Prod.snd (Prod.snd (Prod.snd (Prod.snd
  (Prod.snd (Prod.snd x_2)))))))))) :: Prod.snd (Prod.snd (Prod.snd (Prod.snd (Prod.snd (Prod.snd (Prod.snd (Prod.snd (Prod.snd (Prod.snd (Prod.snd x_2)))))))))) :: ([] :
  List Bool)) (Int.toNat (List.getD (Prod.fst r_9) (Int.toNat x_1) (0 : Int))) (x_1 != x)) (nat_lit 4) (x_1 != x), List.getD (List.set (Prod.fst x_2 :: Prod.fst (Prod.snd
  x_2) :: Prod.fst (Prod.snd (Prod.snd x_2)) :: Prod.fst (Prod.snd (Prod.snd (Prod.snd x_2))) :: Prod.fst (Prod.snd (Prod.snd (Prod.snd (Prod.snd x_2)))) :: Prod.fst
  (Prod.snd (Prod.snd (Prod.snd (Prod.snd (Prod.snd x_2))))) :: Prod.fst (Prod.snd (Prod.snd (Prod.snd (Prod.snd (Prod.snd (Prod.snd x_2)))))) :: Prod.fst (Prod.snd
  (Prod.snd (Prod.snd (Prod.snd (Prod.snd (Prod.snd (Prod.snd x_2))))))) :: Prod.fst (Prod.snd (Prod.snd (Prod.snd (Prod.snd (Prod.snd (Prod.snd (Prod.snd (Prod.snd
  x_2)))))))) :: Prod.fst (Prod.snd (Prod.snd (Prod.snd (Prod.snd (Prod.snd (Prod.snd (Prod.snd (Prod.snd (Prod.snd x_2))))))))) :: Prod.fst (Prod.snd (Prod.snd (Prod.snd
  (Prod.snd (Prod.snd (Prod.snd (Prod.snd (Prod.snd (Prod.snd (Prod.snd x_2)))))))))) :: Prod.snd (Prod.snd (Prod.snd (Prod.snd (Prod.snd (Prod.snd (Prod.snd (Prod.snd
  (Prod.snd (Prod.snd (Prod.snd x_2)))))))))) :: ([] : List Bool)) (Int.toNat (List.getD (Prod.fst r_9) (Int.toNat x_1) (0 : Int))) (x_1 != x)) (nat_lit 5) (x_1 != x),
  List.getD (List.set (Prod.fst x_2 :: Prod.fst (Prod.snd x_2) :: Prod.fst (Prod.snd (Prod.snd x_2)) :: Prod.fst (Prod.snd (Prod.snd (Prod.snd x_2))) :: Prod.fst (Prod.snd
  (Prod.snd (Prod.snd (Prod.snd x_2)))) :: Prod.fst (Prod.snd (Prod.snd (Prod.snd (Prod.snd (Prod.snd x_2))))) :: Prod.fst (Prod.snd (Prod.snd (Prod.snd (Prod.snd (Prod.snd
  (Prod.snd x_2)))))) :: Prod.fst (Prod.snd (Prod.snd (Prod.snd (Prod.snd (Prod.snd (Prod.snd (Prod.snd x_2))))))) :: Prod.fst (Prod.snd (Prod.snd (Prod.snd (Prod.snd
  (Prod.snd (Prod.snd (Prod.snd (Prod.snd x_2)))))))) :: Prod.fst (Prod.snd (Prod.snd (Prod.snd (Prod.snd (Prod.snd (Prod.snd (Prod.snd (Prod.snd (Prod.snd x_2))))))))) ::
  Prod.fst (Prod.snd (Prod.snd (Prod.snd (Prod.snd (Prod.snd (Prod.snd (Prod.snd (Prod.snd (Prod.snd (Prod.snd x_2)))))))))) :: Prod.snd (Prod.snd (Prod.snd (Prod.snd
  (Prod.snd (Prod.snd (Prod.snd (Prod.snd (Prod.snd (Prod.snd (Prod.snd x_2)))))))))) :: ([] : List Bool)) (Int.toNat (List.getD (Prod.fst r_9) (Int.toNat x_1) (0 : Int)))
  (x_1 != x)) (nat_lit 6) (x_1 != x), List.getD (List.set (Prod.fst x_2 :: Prod.fst (Prod.snd x_2) :: Prod.fst (Prod.snd (Prod.snd x_2)) :: Prod.fst (Prod.snd (Prod.snd
  (Prod.snd x_2))) :: Prod.fst (Prod.snd (Prod.snd (Prod.snd (Prod.snd x_2)))) :: Prod.fst (Prod.snd (Prod.snd (Prod.snd (Prod.snd (Prod.snd x_2))))) :: Prod.fst (Prod.snd
  (Prod.snd (Prod.snd (Prod.snd (Prod.snd (Prod.snd x_2)))))) :: Prod.fst (Prod.snd (Prod.snd (Prod.snd (Prod.snd (Prod.snd (Prod.snd (Prod.snd x_2))))))) :: Prod.fst
  (Prod.snd (Prod.snd (Prod.snd (Prod.snd (Prod.snd (Prod.snd (Prod.snd (Prod.snd x_2)))))))) :: Prod.fst (Prod.snd (Prod.snd (Prod.snd (Prod.snd (Prod.snd (Prod.snd
  (Prod.snd (Prod.snd (Prod.snd x_2))))))))) :: Prod.fst (Prod.snd (Prod.snd (Prod.snd (Prod.snd (Prod.snd (Prod.snd (Prod.snd (Prod.snd (Prod.snd (Prod.snd x_2))))))))))
  :: Prod.snd (Prod.snd (Prod.snd (Prod.snd (Prod.snd (Prod.snd (Prod.snd (Prod.snd (Prod.snd (Prod.snd (Prod.snd x_2)))))))))) :: ([] : List Bool)) (Int.toNat (List.getD
  (Prod.fst r_9) (Int.toNat x_1) (0 : Int))) (x_1 != x)) (nat_lit 7) (x_1 != x), List.getD (List.set (Prod.fst x_2 :: Prod.fst (Prod.snd x_2) :: Prod.fst (Prod.snd
  (Prod.snd x_2)) :: Prod.fst (Prod.snd (Prod.snd (Prod.snd x_2))) :: Prod.fst (Prod.snd (Prod.snd (Prod.snd (Prod.snd x_2)))) :: Prod.fst (Prod.snd (Prod.snd (Prod.snd
  (Prod.snd (Prod.snd x_2))))) :: Prod.fst (Prod.snd (Prod.snd (Prod.snd (Prod.snd (Prod.snd (Prod.snd x_2)))))) :: Prod.fst (Prod.snd (Prod.snd (Prod.snd (Prod.snd
  (Prod.snd (Prod.snd (Prod.snd x_2))))))) :: Prod.fst (Prod.snd (Prod.snd (Prod.snd (Prod.snd (Prod.snd (Prod.snd (Prod.snd (Prod.snd x_2)))))))) :: Prod.fst (Prod.snd
  (Prod.snd (Prod.snd (Prod.snd (Prod.snd (Prod.snd (Prod.snd (Prod.snd (Prod.snd x_2))))))))) :: Prod.fst (Prod.snd (Prod.snd (Prod.snd (Prod.snd (Prod.snd (Prod.snd
  (Prod.snd (Prod.snd (Prod.snd (Prod.snd x_2)))))))))) :: Prod.snd (Prod.snd (Prod.snd (Prod.snd (Prod.snd (Prod.snd (Prod.snd (Prod.snd (Prod.snd (Prod.snd (Prod.snd
  x_2)))))))))) :: ([] : List Bool)) (Int.toNat (List.getD (Prod.fst r_9) (Int.toNat x_1) (0 : Int))) (x_1 != x)) (nat_lit 8) (x_1 != x), List.getD (List.set (Prod.fst x_2
  :: Prod.fst (Prod.snd x_2) :: Prod.fst (Prod.snd (Prod.snd x_2)) :: Prod.fst (Prod.snd (Prod.snd (Prod.snd x_2))) :: Prod.fst (Prod.snd (Prod.snd (Prod.snd (Prod.snd
  x_2)))) :: Prod.fst (Prod.snd (Prod.snd (Prod.snd (Prod.snd (Prod.snd x_2))))) :: Prod.fst (Prod.snd (Prod.snd (Prod.snd (Prod.snd (Prod.snd (Prod.snd x_2)))))) ::
  Prod.fst (Prod.snd (Prod.snd (Prod.snd (Prod.snd (Prod.snd (Prod.snd (Prod.snd x_2))))))) :: Prod.fst (Prod.snd (Prod.snd (Prod.snd (Prod.snd (Prod.snd (Prod.snd
  (Prod.snd (Prod.snd x_2)))))))) :: Prod.fst (Prod.snd (Prod.snd (Prod.snd (Prod.snd (Prod.snd (Prod.snd (Prod.snd (Prod.snd (Prod.snd x_2))))))))) :: Prod.fst (Prod.snd
  (Prod.snd (Prod.snd (Prod.snd (Prod.snd (Prod.snd (Prod.snd (Prod.snd (Prod.snd (Prod.snd x_2)))))))))) :: Prod.snd (Prod.snd (Prod.snd (Prod.snd (Prod.snd (Prod.snd
  (Prod.snd (Prod.snd (Prod.snd (Prod.snd (Prod.snd x_2)))))))))) :: ([] : List Bool)) (Int.toNat (List.getD (Prod.fst r_9) (Int.toNat x_1) (0 : Int))) (x_1 != x)) (nat_lit
  9) (x_1 != x), List.getD (List.set (Prod.fst x_2 :: Prod.fst (Prod.snd x_2) :: Prod.fst (Prod.snd (Prod.snd x_2)) :: Prod.fst (Prod.snd (Prod.snd (Prod.snd x_2))) ::
  Prod.fst (Prod.snd (Prod.snd (Prod.snd (Prod.snd x_2)))) :: Prod.fst (Prod.snd (Prod.snd (Prod.snd (Prod.snd (Prod.snd x_2))))) :: Prod.fst (Prod.snd (Prod.snd (Prod.snd
  (Prod.snd (Prod.snd (Prod.snd x_2)))))) :: Prod.fst (Prod.snd (Prod.snd (Prod.snd (Prod.snd (Prod.snd (Prod.snd (Prod.snd x_2))))))) :: Prod.fst (Prod.snd (Prod.snd
  (Prod.snd (Prod.snd (Prod.snd (Prod.snd (Prod.snd (Prod.snd x_2)))))))) :: Prod.fst (Prod.snd (Prod.snd (Prod.snd (Prod.snd (Prod.snd (Prod.snd (Prod.snd (Prod.snd
  (Prod.snd x_2))))))))) :: Prod.fst (Prod.snd (Prod.snd (Prod.snd (Prod.snd (Prod.snd (Prod.snd (Prod.snd (Prod.snd (Prod.snd (Prod.snd x_2)))))))))) :: Prod.snd (Prod.snd
  (Prod.snd (Prod.snd (Prod.snd (Prod.snd (Prod.snd (Prod.snd (Prod.snd (Prod.snd (Prod.snd x_2)))))))))) :: ([] : List Bool)) (Int.toNat (List.getD (Prod.fst r_9)
  (Int.toNat x_1) (0 : Int))) (x_1 != x)) (nat_lit 10) (x_1 != x), List.getD (List.set (Prod.fst x_2 :: Prod.fst (Prod.snd x_2) :: Prod.fst (Prod.snd (Prod.snd x_2)) ::
  Prod.fst (Prod.snd (Prod.snd (Prod.snd x_2))) :: Prod.fst (Prod.snd (Prod.snd (Prod.snd (Prod.snd x_2)))) :: Prod.fst (Prod.snd (Prod.snd (Prod.snd (Prod.snd (Prod.snd
  x_2))))) :: Prod.fst (Prod.snd (Prod.snd (Prod.snd (Prod.snd (Prod.snd (Prod.snd x_2)))))) :: Prod.fst (Prod.snd (Prod.snd (Prod.snd (Prod.snd (Prod.snd (Prod.snd
  (Prod.snd x_2))))))) :: Prod.fst (Prod.snd (Prod.snd (Prod.snd (Prod.snd (Prod.snd (Prod.snd (Prod.snd (Prod.snd x_2)))))))) :: Prod.fst (Prod.snd (Prod.snd (Prod.snd
  (Prod.snd (Prod.snd (Prod.snd (Prod.snd (Prod.snd (Prod.snd x_2))))))))) :: Prod.fst (Prod.snd (Prod.snd (Prod.snd (Prod.snd (Prod.snd (Prod.snd (Prod.snd (Prod.snd
  (Prod.snd (Prod.snd x_2)))))))))) :: Prod.snd (Prod.snd (Prod.snd (Prod.snd (Prod.snd (Prod.snd (Prod.snd (Prod.snd (Prod.snd (Prod.snd (Prod.snd x_2)))))))))) :: ([] :
  List Bool)) (Int.toNat (List.getD (Prod.fst r_9) (Int.toNat x_1) (0 : Int))) (x_1 != x)) (nat_lit 11) (x_1 != x)) < μ_1 x_1 x_2)) (∃ (I_2 : Int → ((Int × Int) × Int ×
  Int) × List ((Int × Int) × Int × Int) → Prop), ∃ (μ_2 : Int → ((Int × Int) × Int × Int) × List ((Int × Int) × Int × Int) → Nat), I_2 (0 : Int) (((Prod.fst (Prod.fst r),
  Prod.snd (Prod.fst r)), Prod.fst (Prod.fst (Prod.snd r)), Prod.snd (Prod.fst (Prod.snd r))), ([] : List ((Int × Int) × Int × Int))) ∧ ∀ (x_3 : Int) (x_4 : ((Int × Int) ×
  Int × Int) × List ((Int × Int) × Int × Int)), I_2 x_3 x_4 → List.length (Prod.snd (Prod.snd r)) ≤ (9223372036854775807 : Nat) → cnd (decide (x_3 < (↑(List.length
  (Prod.snd (Prod.snd r))) : Int))) ((0 : Int) ≤ x_3 ∧ x_3 < (↑(12 : Nat) : Int) ∧ cnd (!List.getD (Prod.fst x_2 :: Prod.fst (Prod.snd x_2) :: Prod.fst (Prod.snd (Prod.snd
  x_2)) :: Prod.fst (Prod.snd (Prod.snd (Prod.snd x_2))) :: Prod.fst (Prod.snd (Prod.snd (Prod.snd (Prod.snd x_2)))) :: Prod.fst (Prod.snd (Prod.snd (Prod.snd (Prod.snd
  (Prod.snd x_2))))) :: Prod.fst (Prod.snd (Prod.snd (Prod.snd (Prod.snd (Prod.snd (Prod.snd x_2)))))) :: Prod.fst (Prod.snd (Prod.snd (Prod.snd (Prod.snd (Prod.snd
  (Prod.snd (Prod.snd x_2))))))) :: Prod.fst (Prod.snd (Prod.snd (Prod.snd (Prod.snd (Prod.snd (Prod.snd (Prod.snd (Prod.snd x_2)))))))) :: Prod.fst (Prod.snd (Prod.snd
  (Prod.snd (Prod.snd (Prod.snd (Prod.snd (Prod.snd (Prod.snd (Prod.snd x_2))))))))) :: Prod.fst (Prod.snd (Prod.snd (Prod.snd (Prod.snd (Prod.snd (Prod.snd (Prod.snd
  (Prod.snd (Prod.snd (Prod.snd x_2)))))))))) :: Prod.snd (Prod.snd (Prod.snd (Prod.snd (Prod.snd (Prod.snd (Prod.snd (Prod.snd (Prod.snd (Prod.snd (Prod.snd x_2))))))))))
  :: ([] : List Bool)) (Int.toNat x_3) (Prod.fst x_2)) ((0 : Int) ≤ x_3 ∧ x_3 < (↑(List.length (Prod.snd (Prod.snd r))) : Int) ∧ (List.length (Prod.snd x_4) + List.length
  (((Prod.fst (Prod.fst (List.getD (Prod.snd (Prod.snd r)) (Int.toNat x_3) (((0 : Int), (0 : Int)), (0 : Int), (0 : Int)))), Prod.snd (Prod.fst (List.getD (Prod.snd
  (Prod.snd r)) (Int.toNat x_3) (((0 : Int), (0 : Int)), (0 : Int), (0 : Int))))), Prod.fst (Prod.snd (List.getD (Prod.snd (Prod.snd r)) (Int.toNat x_3) (((0 : Int), (0 :
  Int)), (0 : Int), (0 : Int)))), Prod.snd (Prod.snd (List.getD (Prod.snd (Prod.snd r)) (Int.toNat x_3) (((0 : Int), (0 : Int)), (0 : Int), (0 : Int))))) :: ([] : List
  ((Int × Int) × Int × Int)))) * (32 : Nat) ≤ (140737488355328 : Nat) ∧ I_2 (IntKind.wrap IntKind.i64 (x_3 + (1 : Int))) (((Prod.fst (Prod.fst (Prod.fst x_4)), Prod.snd
  (Prod.fst (Prod.fst x_4))), Prod.fst (Prod.snd (Prod.fst x_4)), Prod.snd (Prod.snd (Prod.fst x_4))), Prod.snd x_4 ++ ((Prod.fst (Prod.fst (List.getD (Prod.snd (Prod.snd
  r)) (Int.toNat x_3) (((0 : Int), (0 : Int)), (0 : Int), (0 : Int)))), Prod.snd (Prod.fst (List.getD (Prod.snd (Prod.snd r)) (Int.toNat x_3) (((0 : Int), (0 : Int)), (0 :
  Int), (0 : Int))))), Prod.fst (Prod.snd (List.getD (Prod.snd (Prod.snd r)) (Int.toNat x_3) (((0 : Int), (0 : Int)), (0 : Int), (0 : Int)))), Prod.snd (Prod.snd (List.getD
  (Prod.snd (Prod.snd r)) (Int.toNat x_3) (((0 : Int), (0 : Int)), (0 : Int), (0 : Int))))) :: ([] : List ((Int × Int) × Int × Int))) ∧ μ_2 (IntKind.wrap IntKind.i64 (x_3 +
  (1 : Int))) (((Prod.fst (Prod.fst (Prod.fst x_4)), Prod.snd (Prod.fst (Prod.fst x_4))), Prod.fst (Prod.snd (Prod.fst x_4)), Prod.snd (Prod.snd (Prod.fst x_4))), Prod.snd
  x_4 ++ ((Prod.fst (Prod.fst (List.getD (Prod.snd (Prod.snd r)) (Int.toNat x_3) (((0 : Int), (0 : Int)), (0 : Int), (0 : Int)))), Prod.snd (Prod.fst (List.getD (Prod.snd
  (Prod.snd r)) (Int.toNat x_3) (((0 : Int), (0 : Int)), (0 : Int), (0 : Int))))), Prod.fst (Prod.snd (List.getD (Prod.snd (Prod.snd r)) (Int.toNat x_3) (((0 : Int), (0 :
  Int)), (0 : Int), (0 : Int)))), Prod.snd (Prod.snd (List.getD (Prod.snd (Prod.snd r)) (Int.toNat x_3) (((0 : Int), (0 : Int)), (0 : Int), (0 : Int))))) :: ([] : List
  ((Int × Int) × Int × Int))) < μ_2 x_3 x_4) (I_2 (IntKind.wrap IntKind.i64 (x_3 + (1 : Int))) (((Prod.fst (Prod.fst (Prod.fst x_4)), Prod.snd (Prod.fst (Prod.fst x_4))),
  Prod.fst (Prod.snd (Prod.fst x_4)), Prod.snd (Prod.snd (Prod.fst x_4))), Prod.snd x_4) ∧ μ_2 (IntKind.wrap IntKind.i64 (x_3 + (1 : Int))) (((Prod.fst (Prod.fst (Prod.fst
  x_4)), Prod.snd (Prod.fst (Prod.fst x_4))), Prod.fst (Prod.snd (Prod.fst x_4)), Prod.snd (Prod.snd (Prod.fst x_4))), Prod.snd x_4) < μ_2 x_3 x_4)) (f28_wp ((Prod.fst
  (Prod.fst (Prod.fst x_4)), Prod.snd (Prod.fst (Prod.fst x_4))), (Prod.fst (Prod.snd (Prod.fst x_4)), Prod.snd (Prod.snd (Prod.fst x_4))), Prod.snd x_4) () fun (r : (Int ×
  Int) × Int × Unit) ↦ ∃ (I_3 : Bool → Prop), cnd (Prod.fst (Prod.snd r) != (0 : Int)) (I_3 true) (cnd (decide (x < (0 : Int))) (cnd (decide (Prod.fst (Prod.fst r) >
  Prod.snd r_7)) (I_3 true) (cnd (decide (x ≥ (0 : Int))) (List.length (Prod.fst r_9) ≤ (9223372036854775807 : Nat) → cnd (decide ((↑(List.length (Prod.fst r_9)) : Int) >
  (1 : Int))) (I_3 (decide (Prod.fst (Prod.fst r) ≤ Prod.snd r_7))) (I_3 false)) (I_3 false))) (cnd (decide (x ≥ (0 : Int))) (List.length (Prod.fst r_9) ≤
  (9223372036854775807 : Nat) → cnd (decide ((↑(List.length (Prod.fst r_9)) : Int) > (1 : Int))) (I_3 (decide (Prod.fst (Prod.fst r) ≤ Prod.snd r_7))) (I_3 false)) (I_3
  false))) ∧ ∀ (x_5 : Bool), I_3 x_5 → cnd x_5 (Q false) (I (IntKind.wrap IntKind.i64 (x + (1 : Int))) ∧ μ (IntKind.wrap IntKind.i64 (x + (1 : Int))) < μ x)))) (List.length
  (Prod.fst r_9) ≤ (9223372036854775807 : Nat) → ∃ (I : Int → Int → ((Int × Int) × Int × Int) × List ((Int × Int) × Int × Int) → Prop), ∃ (μ : Int → Int → ((Int × Int) ×
  Int × Int) × List ((Int × Int) × Int × Int) → Nat), I (0 : Int) (IntKind.wrap IntKind.i64 ((↑(List.length (Prod.fst r_9)) : Int) - (1 : Int))) (((Prod.fst (Prod.fst r),
  Prod.snd (Prod.fst r)), Prod.fst (Prod.fst (Prod.snd r)), Prod.snd (Prod.fst (Prod.snd r))), ([] : List ((Int × Int) × Int × Int))) ∧ ∀ (x x_1 : Int) (x_2 : ((Int × Int)
  × Int × Int) × List ((Int × Int) × Int × Int)), I x x_1 x_2 → List.length (Prod.snd (Prod.snd r)) ≤ (9223372036854775807 : Nat) → cnd (decide (x < (↑(List.length
  (Prod.snd (Prod.snd r))) : Int))) (∃ (I_1 : Bool → Prop), cnd (decide (x_1 > (0 : Int))) (f29_wp (b, x, ()) () fun (r_12 : Int) ↦ (2 : Int) ≠ (0 : Int) ∧ cnd (Int.tmod
  r_12 (2 : Int) == (0 : Int)) (I_1 true) (List.length (Prod.snd (Prod.snd r)) ≤ (9223372036854775807 : Nat) → I_1 (decide (IntKind.wrap IntKind.i64 ((↑(List.length
  (Prod.snd (Prod.snd r))) : Int) - x) ≤ x_1)))) (I_1 false) ∧ ∀ (x_3 : Bool), I_1 x_3 → cnd x_3 (I (IntKind.wrap IntKind.i64 (x + (1 : Int))) (IntKind.wrap IntKind.i64
  (x_1 - (1 : Int))) (((Prod.fst (Prod.fst (Prod.fst x_2)), Prod.snd (Prod.fst (Prod.fst x_2))), Prod.fst (Prod.snd (Prod.fst x_2)), Prod.snd (Prod.snd (Prod.fst x_2))),
  Prod.snd x_2) ∧ μ (IntKind.wrap IntKind.i64 (x + (1 : Int))) (IntKind.wrap IntKind.i64 (x_1 - (1 : Int))) (((Prod.fst (Prod.fst (Prod.fst x_2)), Prod.snd (Prod.fst
  (Prod.fst x_2))), Prod.fst (Prod.snd (Prod.fst x_2)), Prod.snd (Prod.snd (Prod.fst x_2))), Prod.snd x_2) < μ x x_1 x_2) ((0 : Int) ≤ x ∧ x < (↑(List.length (Prod.snd
  (Prod.snd r))) : Int) ∧ (List.length (Prod.snd x_2) + List.length (((Prod.fst (Prod.fst (List.getD (Prod.snd (Prod.snd r)) (Int.toNat x) (((0 : Int), (0 : Int)), (0 :
  Int), (0 : Int)))), Prod.snd (Prod.fst (List.getD (Prod.snd (Prod.snd r)) (Int.toNat x) (((0 : Int), (0 : Int)), (0 : Int), (0 : Int))))), Prod.fst (Prod.snd (List.getD
  (Prod.snd (Prod.snd r)) (Int.toNat x) (((0 : Int), (0 : Int)), (0 : Int), (0 : Int)))), Prod.snd (Prod.snd (List.getD (Prod.snd (Prod.snd r)) (Int.toNat x) (((0 : Int),
  (0 : Int)), (0 : Int), (0 : Int))))) :: ([] : List ((Int × Int) × Int × Int)))) * (32 : Nat) ≤ (140737488355328 : Nat) ∧ I (IntKind.wrap IntKind.i64 (x + (1 : Int))) x_1
  (((Prod.fst (Prod.fst (Prod.fst x_2)), Prod.snd (Prod.fst (Prod.fst x_2))), Prod.fst (Prod.snd (Prod.fst x_2)), Prod.snd (Prod.snd (Prod.fst x_2))), Prod.snd x_2 ++
  ((Prod.fst (Prod.fst (List.getD (Prod.snd (Prod.snd r)) (Int.toNat x) (((0 : Int), (0 : Int)), (0 : Int), (0 : Int)))), Prod.snd (Prod.fst (List.getD (Prod.snd (Prod.snd
  r)) (Int.toNat x) (((0 : Int), (0 : Int)), (0 : Int), (0 : Int))))), Prod.fst (Prod.snd (List.getD (Prod.snd (Prod.snd r)) (Int.toNat x) (((0 : Int), (0 : Int)), (0 :
  Int), (0 : Int)))), Prod.snd (Prod.snd (List.getD (Prod.snd (Prod.snd r)) (Int.toNat x) (((0 : Int), (0 : Int)), (0 : Int), (0 : Int))))) :: ([] : List ((Int × Int) × Int
  × Int))) ∧ μ (IntKind.wrap IntKind.i64 (x + (1 : Int))) x_1 (((Prod.fst (Prod.fst (Prod.fst x_2)), Prod.snd (Prod.fst (Prod.fst x_2))), Prod.fst (Prod.snd (Prod.fst
  x_2)), Prod.snd (Prod.snd (Prod.fst x_2))), Prod.snd x_2 ++ ((Prod.fst (Prod.fst (List.getD (Prod.snd (Prod.snd r)) (Int.toNat x) (((0 : Int), (0 : Int)), (0 : Int), (0 :
  Int)))), Prod.snd (Prod.fst (List.getD (Prod.snd (Prod.snd r)) (Int.toNat x) (((0 : Int), (0 : Int)), (0 : Int), (0 : Int))))), Prod.fst (Prod.snd (List.getD (Prod.snd
  (Prod.snd r)) (Int.toNat x) (((0 : Int), (0 : Int)), (0 : Int), (0 : Int)))), Prod.snd (Prod.snd (List.getD (Prod.snd (Prod.snd r)) (Int.toNat x) (((0 : Int), (0 : Int)),
  (0 : Int), (0 : Int))))) :: ([] : List ((Int × Int) × Int × Int))) < μ x x_1 x_2)) (f28_wp ((Prod.fst (Prod.fst (Prod.fst x_2)), Prod.snd (Prod.fst (Prod.fst x_2))),
  (Prod.fst (Prod.snd (Prod.fst x_2)), Prod.snd (Prod.snd (Prod.fst x_2))), Prod.snd x_2) () fun (r : (Int × Int) × Int × Unit) ↦ cnd (Prod.fst (Prod.snd r) == (0 : Int))
  (List.length (Prod.fst r_9) ≤ (9223372036854775807 : Nat) → cnd ((↑(List.length (Prod.fst r_9)) : Int) == (1 : Int)) (f10_wp () () fun (r : Bool) ↦ Q r) (cnd (decide
  (Prod.fst (Prod.fst r) > Prod.snd r_7)) (f10_wp () () fun (r : Bool) ↦ Q r) (Q false))) (Q false))))))))))
theorem v5 (x : (Int × Int) × (Int × Int) × List (Int × Int × Int × Int)) (b : List Int) (v : Int × Int × Int) (Q : Bool → Prop) : V5 x b v Q = vcFunc (S1 [(21, f21_ct), (24, f24_ct), (23, f23_ct), (22, f22_ct), (26, f26_ct), (27, f27_ct), (25, f25_ct), (28, f28_ct), (10, f10_ct), (29, f29_ct)] [] [] []) f5_ct.own f5_ct.fresh f5_an Try.f5 (bodyOf Try.f5) f5_ct.A f5_ct.C f5_ct.R (x, b, v, ()) () Q := by kernel_rfl

end Go.Proofs.Rv
set_option linter.unusedVariables false
set_option maxRecDepth 100000
namespace Go.Proofs.Rv
open Go Go.GX Go.Proofs

theorem gen21 {a : Folded} {K : Fan → Prop} (h : FoldOK a) (hk : ∀ f, f = foldF a → K f) : f21_wp a () K := ⟨h, hk _ rfl⟩
theorem gen11 {f : Fan} {K : Fan → Prop} (h : f.2.2.length ≤ 1000000) (hk : K f) : f11_wp f () K := ⟨h, hk⟩
theorem gen28 {g : Fan} {K : Span × Int × Unit → Prop} (hg : CheckOK g) (hk : K (opensF g, 0, ())) : f28_wp g () K := by
  show K (if checkF g = 0 then (opensF g, 0, ()) else ((0, 0), checkF g, ()))
  rw [if_pos (checkF_ok.2 hg)]; exact hk
theorem len0 {α : Type} {l : List α} : ((l.length : Int) == 0) = false → l.length ≠ 0 := by
  intro h hh
  rw [hh] at h
  simp at h
theorem len0' {α : Type} {l : List α} : ((l.length : Int) == 0) = true → l.length = 0 := by
  intro h
  have h : (l.length : Int) = 0 := by simpa using h
  omega
theorem foldG_ok {r : Int × Int × Int × Int} (h : rowOK r) : (0 ≤ (foldG r).1.1 ∧ (foldG r).1.1 ≤ (foldG r).1.2 ∧ (foldG r).1.2 ≤ 540) ∧ 0 ≤ (foldG r).2.1 ∧ (foldG r).2.1 ≤ (foldG r).2.2 ∧ (foldG r).2.2 ≤ 70 := by
  obtain ⟨q1, q2, q3, q4⟩ := h
  unfold byteB at q1 q2 q3 q4
  have v1 := Int.emod_nonneg r.2.1 (show (30 : Int) ≠ 0 by omega)
  have v2 := Int.emod_lt_of_pos r.2.1 (show (0 : Int) < 30 by omega)
  have v3 := Int.emod_nonneg r.2.2.2 (show (6 : Int) ≠ 0 by omega)
  have v4 := Int.emod_lt_of_pos r.2.2.2 (show (0 : Int) < 6 by omega)
  have y1 : Int.tmod r.2.1 30 = r.2.1 % 30 := Int.tmod_eq_emod_of_nonneg q2.1
  have y2 : Int.tmod r.2.2.2 6 = r.2.2.2 % 6 := Int.tmod_eq_emod_of_nonneg q4.1
  have y3 : Int.tdiv r.2.2.1 4 = r.2.2.1 / 4 := Int.tdiv_eq_ediv_of_nonneg q3.1
  unfold foldG
  dsimp only
  omega

structure SmallFan (f : Fan) : Prop where
  ok : CheckOK f
  n : f.2.2.length ≤ 12
  far : f.1.2 ≤ 2600
  near : f.2.1.2 ≤ 294
  lo : 300 ≤ f.1.1
  g : ∀ g, g ∈ f.2.2 → (0 ≤ g.1.1 ∧ g.1.1 ≤ g.1.2 ∧ g.1.2 ≤ 540) ∧ 0 ≤ g.2.1 ∧ g.2.1 ≤ g.2.2 ∧ g.2.2 ≤ 70
theorem fold_small {a : Folded} (h : FoldOK a) : SmallFan (foldF a) := by
  obtain ⟨hf, hn, hg⟩ := h
  unfold byteB at hf hn
  have t1 := Int.emod_nonneg a.2.1.2 (show (20 : Int) ≠ 0 by omega)
  have t2 := Int.emod_lt_of_pos a.2.1.2 (show (0 : Int) < 20 by omega)
  have t3 : Int.tmod a.2.1.2 20 = a.2.1.2 % 20 := Int.tmod_eq_emod_of_nonneg hn.2.1
  have hgs : ∀ g, g ∈ (foldF a).2.2 → (0 ≤ g.1.1 ∧ g.1.1 ≤ g.1.2 ∧ g.1.2 ≤ 540) ∧ 0 ≤ g.2.1 ∧ g.2.1 ≤ g.2.2 ∧ g.2.2 ≤ 70 := fun g hgm => by
    obtain ⟨r, hr, rfl⟩ := List.mem_map.1 (show g ∈ (a.2.2.take 12).map foldG from hgm)
    exact foldG_ok (hg r (List.mem_of_mem_take hr))
  have hl : (foldF a).2.2.length ≤ 12 := by
    show ((a.2.2.take 12).map foldG).length ≤ 12
    rw [List.length_map, List.length_take]; omega
  have e1 : (foldF a).1 = (300 + 8 * a.1.1, 300 + 8 * a.1.1 + a.1.2) := rfl
  have e2 : (foldF a).2.1 = (20 + a.2.1.1, 20 + a.2.1.1 + Int.tmod a.2.1.2 20) := rfl
  refine ⟨⟨?_, ?_, ?_, by omega, fun g hgm => ?_⟩, hl, ?_, ?_, ?_, hgs⟩
  · rw [e1]; dsimp only; omega
  · rw [e2]; dsimp only; omega
  · rw [e1, e2]; dsimp only; omega
  · have := hgs g hgm; omega
  · rw [e1]; dsimp only; omega
  · rw [e2]; dsimp only; omega
  · rw [e1]; dsimp only; omega

theorem nb (a b : Bool) (h : a = b) : (!(a == b)) = false := by rw [h]; cases b <;> rfl
end Go.Proofs.Rv
set_option linter.unusedVariables false
set_option maxRecDepth 100000
namespace Go.Proofs.Rv
open Go Go.GX Go.Proofs

def fr (t : Turn) : Ratio := (numT t, denT t)
inductive Pw (R : Gap → Gap → Prop) : List Gap → List Gap → Prop
  | nil : Pw R [] []
  | cons {a b : Gap} {l m : List Gap} : R a b → Pw R l m → Pw R (a :: l) (b :: m)
theorem Pw.of_getD {R : Gap → Gap → Prop} : ∀ {l m : List Gap}, l.length = m.length → (∀ i, i < l.length → R (l.getD i g0) (m.getD i g0)) → Pw R l m
  | [], [], _, _ => .nil
  | a :: l, b :: m, h, hr => .cons (hr 0 (Nat.zero_lt_succ _)) (Pw.of_getD (by simpa using h) fun i hi => hr (i + 1) (Nat.succ_lt_succ hi))
  | [], _ :: _, h, _ => by cases h
  | _ :: _, [], h, _ => by cases h
theorem Pw.refl {R : Gap → Gap → Prop} (l : List Gap) (h : ∀ g, g ∈ l → R g g) : Pw R l l := .of_getD rfl fun i hi => h _ (getD_mem hi)
theorem min_mul {a b c : Int} (hc : 0 ≤ c) : min a b * c = min (a * c) (b * c) := by
  rcases Int.le_total a b with h | h
  · rw [Int.min_eq_left h, Int.min_eq_left (Int.mul_le_mul_of_nonneg_right h hc)]
  · rw [Int.min_eq_right h, Int.min_eq_right (Int.mul_le_mul_of_nonneg_right h hc)]
theorem mul4 {a n f m : Int} : a * n * (f * m) = (a * f) * (n * m) := by
  rw [Int.mul_assoc, Int.mul_assoc, ← Int.mul_assoc n f m, Int.mul_comm n f, Int.mul_assoc f n m]
theorem term_le {l1 t1 l2 t2 F1 N1 F2 N2 : Int} (hl0 : 0 ≤ l1) (ht0 : 0 ≤ t1) (hl : l1 ≤ l2) (ht : t1 ≤ t2) (hF : F2 ≤ F1) (hN : N2 ≤ N1) (hF0 : 0 ≤ F2) (hN0 : 0 ≤ N2) :
    min (l1 * N1) (t1 * F1) * (F2 * N2) ≤ min (l2 * N2) (t2 * F2) * (F1 * N1) := by
  rw [min_mul (Int.mul_nonneg hF0 hN0), min_mul (Int.mul_nonneg (by omega) (by omega))]
  refine min_mono ?_ ?_
  · have e1 : l1 * N1 * (F2 * N2) = (l1 * F2) * (N1 * N2) := mul4
    have e2 : l2 * N2 * (F1 * N1) = (l2 * F1) * (N1 * N2) := by rw [mul4, Int.mul_comm N2 N1]
    rw [e1, e2]
    exact Int.mul_le_mul_of_nonneg_right (Int.mul_le_mul hl hF hF0 (by omega)) (Int.mul_nonneg (by omega) hN0)
  · have e1 : t1 * F1 * (F2 * N2) = (t1 * N2) * (F1 * F2) := by rw [Int.mul_comm F2 N2, mul4]
    have e2 : t2 * F2 * (F1 * N1) = (t2 * N1) * (F1 * F2) := by rw [Int.mul_comm F1 N1, mul4, Int.mul_comm F2 F1]
    rw [e1, e2]
    exact Int.mul_le_mul_of_nonneg_right (Int.mul_le_mul ht hN hN0 (by omega)) (Int.mul_nonneg (by omega) hF0)
theorem sumG_cmp {a1 a2 : Span → Int} {F1 N1 F2 N2 : Int} (hF : F2 ≤ F1) (hN : N2 ≤ N1) (hF0 : 0 ≤ F2) (hN0 : 0 ≤ N2) {l m : List Gap} (h : Pw (fun g1 g2 => (0 ≤ a1 g1.1 ∧ 0 ≤ a1 g1.2) ∧ a1 g1.1 ≤ a2 g2.1 ∧ a1 g1.2 ≤ a2 g2.2) l m) :
    sumG a1 F1 N1 l * (F2 * N2) ≤ sumG a2 F2 N2 m * (F1 * N1) := by
  induction h with
  | nil =>
    rw [sumG_nil, sumG_nil]
    simp
  | cons hr _ ih =>
    rw [sumG_cons, sumG_cons, Int.add_mul, Int.add_mul]
    have := term_le hr.1.1 hr.1.2 hr.2.1 hr.2.2 hF hN hF0 hN0
    unfold angG
    omega
theorem fr_low (f : Fan) : fr (lowT f) = (sumG loE f.1.2 f.2.1.2 f.2.2, f.1.2 * f.2.1.2) := Prod.ext (low_num f).1 (low_num f).2
theorem fr_high (f : Fan) : fr (highT f) = (sumG hiE f.1.1 f.2.1.1 f.2.2, f.1.1 * f.2.1.1) := Prod.ext (high_num f).1 (high_num f).2
theorem fr_le {a1 a2 : Span → Int} {F1 N1 F2 N2 : Int} (hF : F2 ≤ F1) (hN : N2 ≤ N1) (hF0 : 0 ≤ F2) (hN0 : 0 ≤ N2) {l m : List Gap} (h : Pw (fun g1 g2 => (0 ≤ a1 g1.1 ∧ 0 ≤ a1 g1.2) ∧ a1 g1.1 ≤ a2 g2.1 ∧ a1 g1.2 ≤ a2 g2.2) l m) : leR (sumG a1 F1 N1 l, F1 * N1) (sumG a2 F2 N2 m, F2 * N2) :=
  sumG_cmp hF hN hF0 hN0 h
theorem low_den {f : Fan} (h : CheckOK f) : 1 ≤ (fr (lowT f)).2 := h.fan.low.2
theorem high_den {f : Fan} (h : CheckOK f) : 1 ≤ (fr (highT f)).2 := h.fan.high.2
theorem deg_le {t u : Turn} (ht : TurnOK t) (hu : TurnOK u) (h : leR (fr t) (fr u)) : degF t ≤ degF u :=
  degND_mono ht.num.1 ht.den.1 hu.num.1 hu.den.1 h
theorem low_high {f : Fan} (h : CheckOK f) : leR (fr (lowT f)) (fr (highT f)) := by
  have h1 := h.far
  have h2 := h.near
  rw [fr_low, fr_high]
  refine fr_le h1.2.1 h2.2.1 (by omega) (by omega) (Pw.refl _ fun g hg => ?_)
  have := h.g g hg
  unfold loE hiE; omega

structure Made (f : Fan) (k : Nat) (g : Fan) : Prop where
  ok : CheckOK g
  up : k < 3 → leR (fr (lowT f)) (fr (lowT g)) ∧ leR (fr (highT f)) (fr (highT g))
  down : k = 3 ∨ k = 4 → leR (fr (lowT g)) (fr (lowT f)) ∧ leR (fr (highT g)) (fr (highT f))
  mid : k = 5 → leR (fr (lowT f)) (fr (lowT g)) ∧ leR (fr (highT g)) (fr (highT f))
section
variable {f : Fan} (h : SmallFan f)
include h
end

theorem pt_ok {b : List Int} (hb : ∀ x, x ∈ b → byteB x) {s : Span} (hs : spanOK s) {i : Int} (hi : 0 ≤ i) : s.1 ≤ (ptF b s i).1 ∧ (ptF b s i).1 ≤ s.2 ∧ (ptF b s i).2 = (ptF b s i).1 := by
  have := insF_ok hs (byteF_ok hb hi).1
  exact ⟨this.1, this.2, rfl⟩
theorem true_getD {f : Fan} {b : List Int} {i : Nat} (hi : i < f.2.2.length) : (trueF f b).2.2.getD i g0 = (ptF b (f.2.2.getD i g0).1 (2 * i + 2), ptF b (f.2.2.getD i g0).2 (2 * i + 3)) := by
  have hl : (trueF f b).2.2.length = f.2.2.length := by show ((List.range f.2.2.length).map _).length = _; simp
  rw [getD_lt (by omega)]
  unfold trueF
  simp only [List.getElem_map, List.getElem_range]
theorem true_ok {f : Fan} (h : CheckOK f) {b : List Int} (hb : ∀ x, x ∈ b → byteB x) : CheckOK (trueF f b) ∧ leR (fr (lowT f)) (fr (lowT (trueF f b))) ∧ leR (fr (highT (trueF f b))) (fr (highT f)) := by
  have h1 := h.far
  have h2 := h.near
  have h3 := h.lt
  obtain ⟨s1, s2, s3⟩ := h.sp
  have hl : (trueF f b).2.2.length = f.2.2.length := by show ((List.range f.2.2.length).map _).length = _; simp
  have p1 := pt_ok hb s1 (show (0 : Int) ≤ 0 by omega)
  have p2 := pt_ok hb s2 (show (0 : Int) ≤ 1 by omega)
  have hg : ∀ i, i < f.2.2.length → ((f.2.2.getD i g0).1.1 ≤ ((trueF f b).2.2.getD i g0).1.1 ∧ ((trueF f b).2.2.getD i g0).1.1 ≤ (f.2.2.getD i g0).1.2 ∧ ((trueF f b).2.2.getD i g0).1.2 = ((trueF f b).2.2.getD i g0).1.1) ∧
      (f.2.2.getD i g0).2.1 ≤ ((trueF f b).2.2.getD i g0).2.1 ∧ ((trueF f b).2.2.getD i g0).2.1 ≤ (f.2.2.getD i g0).2.2 ∧ ((trueF f b).2.2.getD i g0).2.2 = ((trueF f b).2.2.getD i g0).2.1 := fun i hi => by
    rw [true_getD hi]
    have := s3 _ (getD_mem (d := g0) hi)
    exact ⟨pt_ok hb this.1 (by omega), pt_ok hb this.2 (by omega)⟩
  have c1 : (trueF f b).1 = ptF b f.1 0 := rfl
  have c2 : (trueF f b).2.1 = ptF b f.2.1 1 := rfl
  refine ⟨⟨by rw [c1]; omega, by rw [c2]; omega, by rw [c1, c2]; omega, by rw [hl]; exact h.n, fun g hgm => ?_⟩, ?_, ?_⟩
  · obtain ⟨i, hi, rfl⟩ := List.mem_iff_getElem.1 hgm
    have := hg i (by omega)
    rw [getD_lt hi] at this
    have := h.g _ (getD_mem (d := g0) (show i < f.2.2.length by omega))
    omega
  · rw [fr_low, fr_low]
    refine fr_le (by rw [c1]; omega) (by rw [c2]; omega) (by rw [c1]; omega) (by rw [c2]; omega) (.of_getD hl.symm fun i hi => ?_)
    have := hg i hi
    have := h.g _ (getD_mem (d := g0) hi)
    unfold loE; omega
  · rw [fr_high, fr_high]
    refine fr_le (by rw [c1]; omega) (by rw [c2]; omega) (by omega) (by omega) (.of_getD hl fun i hi => ?_)
    have := hg i (by omega)
    have := h.g _ (getD_mem (d := g0) (show i < f.2.2.length by omega))
    unfold hiE; omega
end Go.Proofs.Rv
set_option linter.unusedVariables false
set_option maxRecDepth 100000
namespace Go.Proofs.Rv
open Go Go.GX Go.Proofs

def ints (n : Nat) : List Int := (List.range n).map fun (i : Nat) => (i : Int)
theorem ints_step (n : Nat) : ints (n + 1) = ints n ++ [(n : Int)] := by simp [ints, List.range_succ]
def angO (f : Fan) (x : Int) : Int := angI f x.toNat
def selS (f : Fan) (p : Int → Bool) (n : Nat) : Int := (((ints n).filter p).map (angO f)).sum
def cntP (p : Int → Bool) (n : Nat) : Nat := ((ints n).filter p).length
theorem selS_succ (f : Fan) (p : Int → Bool) (n : Nat) : selS f p (n + 1) = selS f p n + if p (n : Int) then angI f n else 0 := by
  unfold selS
  rw [ints_step, List.filter_append, List.map_append, List.sum_append]
  cases hp : p (n : Int) with
  | true => simp [hp, angO]
  | false => simp [hp]
theorem cntP_succ (p : Int → Bool) (n : Nat) : cntP p (n + 1) = cntP p n + if p (n : Int) then 1 else 0 := by
  unfold cntP
  rw [ints_step, List.filter_append, List.length_append]
  cases hp : p (n : Int) with
  | true => simp [hp]
  | false => simp [hp]
def totS (f : Fan) (n : Nat) : Int := ((ints n).map (angO f)).sum
theorem totS_succ (f : Fan) (n : Nat) : totS f (n + 1) = totS f n + angI f n := by
  unfold totS
  rw [ints_step, List.map_append, List.sum_append]
  simp [angO]
theorem rest_sel (f : Fan) (p : Int → Bool) : ∀ n, restS f p n + selS f p n = totS f n
  | 0 => rfl
  | n + 1 => by
    have := rest_sel f p n
    rw [restS_succ, selS_succ, totS_succ]
    split <;> omega
theorem perm_sum {l m : List Int} (h : l.Perm m) : l.sum = m.sum := by
  induction h with
  | nil => rfl
  | cons x _ ih => rw [List.sum_cons, List.sum_cons, ih]
  | swap x y l => simp only [List.sum_cons]; omega
  | trans _ _ ih1 ih2 => rw [ih1, ih2]

theorem desc_take {key : Int → Int} {l : List Int} (hd : l.Pairwise fun a b => key b ≤ key a) : ∀ {s : List Int}, s.Sublist l → (s.map key).sum ≤ ((l.take s.length).map key).sum := by
  induction l with
  | nil =>
    intro s hs
    have : s = [] := List.sublist_nil.1 hs
    subst this; exact Int.le_refl _
  | cons x l ih =>
    intro s hs
    obtain ⟨hx, hl⟩ := List.pairwise_cons.1 hd
    have mono : ∀ k, k ≤ l.length → ((l.take k).map key).sum ≤ (((x :: l).take k).map key).sum := by
      intro k hk
      cases k with
      | zero => exact Int.le_refl _
      | succ k =>
        rw [take_succ_getD (d := 0) (show k < l.length from hk), List.take_succ_cons, List.map_append, List.sum_append, List.map_cons, List.sum_cons]
        have := hx _ (getD_mem (d := 0) (show k < l.length from hk))
        simp only [List.map_cons, List.map_nil, List.sum_cons, List.sum_nil]
        omega
    cases hs with
    | cons _ hs =>
      have h1 := ih hl hs
      have h2 := mono _ hs.length_le
      omega
    | cons_cons _ hs =>
      have h1 := ih hl hs
      rw [List.length_cons, List.take_succ_cons, List.map_cons, List.sum_cons, List.map_cons, List.sum_cons]
      omega
theorem order_desc {f : Fan} (h : FanOK f) : (orderF f).Pairwise fun a b => angO f b ≤ angO f a := by
  have hd := h.dist
  have num : ∀ i, i < f.2.2.length → numT (lowT (oneF f i)) = angI f i ∧ denT (lowT (oneF f i)) = f.1.2 * f.2.1.2 := fun i hi => by
    obtain ⟨a, b⟩ := low_num (oneF f i)
    refine ⟨?_, b⟩
    rw [a]
    show sumG loE f.1.2 f.2.1.2 [f.2.2.getD i g0] = _
    rw [sumG_cons, sumG_nil]
    unfold angI; omega
  refine insSort_sorted (key := angO f) fun x hx y hy => ?_
  obtain ⟨i, hi, rfl⟩ := List.mem_map.1 hx
  obtain ⟨j, hj, rfl⟩ := List.mem_map.1 hy
  have hi := List.mem_range.1 hi
  have hj := List.mem_range.1 hj
  show cmpI3 (numT (lowT (oneF f j)) * denT (lowT (oneF f i))) (numT (lowT (oneF f i)) * denT (lowT (oneF f j))) < 0 ↔ angI f j < angI f i
  rw [(num i hi).1, (num i hi).2, (num j hj).1, (num j hj).2]
  have hp : 0 < f.1.2 * f.2.1.2 := by omega
  unfold cmpI3
  split
  · rename_i hc
    exact ⟨fun _ => Int.lt_of_mul_lt_mul_right hc (by omega), fun _ => by omega⟩
  · rename_i hc
    have hn : ¬ angI f j < angI f i := fun hh => hc (Int.mul_lt_mul_of_pos_right hh hp)
    split
    · exact ⟨fun hh => by omega, fun hh => absurd hh hn⟩
    · exact ⟨fun hh => by omega, fun hh => absurd hh hn⟩
theorem sel_le {f : Fan} (h : FanOK f) (p : Int → Bool) : selS f p f.2.2.length ≤ (((orderF f).take (cntP p f.2.2.length)).map (angO f)).sum := by
  have hp := (order_perm f).filter p
  have e1 : selS f p f.2.2.length = (((orderF f).filter p).map (angO f)).sum := (perm_sum (hp.map (angO f))).symm
  have e2 : cntP p f.2.2.length = ((orderF f).filter p).length := hp.length_eq.symm
  rw [e1, e2]
  exact desc_take (order_desc h) List.filter_sublist
theorem filter_take {l : List Int} (h : l.Nodup) (c : Nat) : l.filter (memF (l.take c)) = l.take c := by
  have e : l = l.take c ++ l.drop c := (List.take_append_drop c l).symm
  have hn : (l.take c ++ l.drop c).Nodup := by rw [← e]; exact h
  obtain ⟨h1, h2, h3⟩ := List.nodup_append.1 hn
  have a1 : (l.take c).filter (memF (l.take c)) = l.take c := List.filter_eq_self.2 fun x hx => memF_iff.2 hx
  have a2 : (l.drop c).filter (memF (l.take c)) = [] := List.filter_eq_nil_iff.2 fun x hx hm => h3 _ (memF_iff.1 hm) _ hx rfl
  calc l.filter (memF (l.take c)) = (l.take c ++ l.drop c).filter (memF (l.take c)) := by rw [← e]
    _ = l.take c := by rw [List.filter_append, a1, a2, List.append_nil]
theorem sel_take (f : Fan) (c : Nat) : selS f (memF ((orderF f).take c)) f.2.2.length = (((orderF f).take c).map (angO f)).sum := by
  have hp := (order_perm f).filter (memF ((orderF f).take c))
  have e1 : selS f (memF ((orderF f).take c)) f.2.2.length = (((orderF f).filter (memF ((orderF f).take c))).map (angO f)).sum := (perm_sum (hp.map (angO f))).symm
  rw [e1, filter_take (order_nodup f)]

theorem few_not {f : Fan} (h : FanOK f) {seen : Span} (hs : 0 ≤ seen.2) (hn : 0 < f.2.2.length) {p : Int → Bool} (h1 : 1 ≤ cntP p f.2.2.length) (h2 : cntP p f.2.2.length < manyF f seen) : ¬ degF (lowT (woF p f)) ≤ seen.2 := by
  intro hd
  have hno := (many_spec h hs hn).2.2.2 _ h1 h2
  have := enough_le h (seen := seen) (a := (orderF f).take (cntP p f.2.2.length)) (p := p) (by
    have a1 := rest_sel f p f.2.2.length
    have a2 := rest_sel f (memF ((orderF f).take (cntP p f.2.2.length))) f.2.2.length
    have a3 := sel_le h p
    have a4 := sel_take f (cntP p f.2.2.length)
    omega) hd
  rw [this] at hno; cases hno

theorem filter_lt_succ {l : List Int} (h : l.Pairwise (· < ·)) (k : Int) : (l.filter fun x => decide (x < k + 1)).length = (l.filter fun x => decide (x < k)).length + if k ∈ l then 1 else 0 := by
  induction l with
  | nil => rfl
  | cons x r ih =>
    obtain ⟨hx, hr⟩ := List.pairwise_cons.1 h
    have ih := ih hr
    rw [List.filter_cons, List.filter_cons]
    rcases Int.lt_trichotomy x k with hk | rfl | hk
    · rw [if_pos (by simp; omega), if_pos (by simpa using hk), List.length_cons, List.length_cons, ih]
      have : (k ∈ x :: r) ↔ k ∈ r := by
        rw [List.mem_cons]
        exact ⟨fun hh => hh.resolve_left (by omega), .inr⟩
      simp only [this]
      split <;> omega
    · have hnr : x ∉ r := fun hh => by have := hx x hh; omega
      rw [if_neg hnr] at ih
      rw [if_pos (decide_eq_true (by omega)), if_neg (by simp), List.length_cons, ih, if_pos (by simp)]
    · have hnr : k ∉ r := fun hh => by have := hx k hh; omega
      rw [if_neg hnr] at ih
      rw [if_neg (by simp; omega), if_neg (by simp; omega), ih, if_neg (by
        rw [List.mem_cons]
        rintro (hh | hh)
        · omega
        · exact hnr hh)]
theorem cnt_mem {l : List Int} (h : l.Pairwise (· < ·)) (h0 : ∀ x, x ∈ l → 0 ≤ x) : ∀ n : Nat, cntP (memF l) n = (l.filter fun x => decide (x < (n : Int))).length
  | 0 => by
    have : (l.filter fun x => decide (x < ((0 : Nat) : Int))) = [] := List.filter_eq_nil_iff.2 fun x hx => by
      have := h0 x hx
      simp; omega
    rw [this]; rfl
  | n + 1 => by
    have := cnt_mem h h0 n
    have e : ((n + 1 : Nat) : Int) = (n : Int) + 1 := by push_cast; rfl
    rw [cntP_succ, this, e, filter_lt_succ h]
    congr 1
    by_cases hm : (n : Int) ∈ l
    · rw [if_pos (memF_iff.2 hm), if_pos hm]
    · rw [if_neg (fun hh => hm (memF_iff.1 hh)), if_neg hm]
theorem cnt_all {l : List Int} (h : l.Pairwise (· < ·)) {n : Nat} (hr : ∀ x, x ∈ l → 0 ≤ x ∧ x < n) : cntP (memF l) n = l.length := by
  rw [cnt_mem h (fun x hx => (hr x hx).1)]
  rw [List.filter_eq_self.2 fun x hx => by simpa using (hr x hx).2]

structure WrongSet (f : Fan) (seen : Span) (l : List Int) : Prop where
  ne : l.length ≠ 0
  le : l.length ≤ f.2.2.length
  asc : l.Pairwise (· < ·)
  rng : ∀ x, x ∈ l → 0 ≤ x ∧ x < f.2.2.length
  en : degF (lowT (woF (memF l) f)) ≤ seen.2
  few : ∀ p : Int → Bool, 1 ≤ cntP p f.2.2.length → cntP p f.2.2.length < l.length → ¬ degF (lowT (woF p f)) ≤ seen.2
theorem wrong_spec {f : Fan} (h : CheckOK f) {seen : Span} (h1 : 0 ≤ seen.1) (h2 : seen.1 ≤ seen.2) (h3 : seen.2 ≤ 360) :
    ((opensF f).1 ≤ seen.2 ∧ seen.1 ≤ (opensF f).2 → wrongF f seen = ([], 7, ())) ∧ (¬ ((opensF f).1 ≤ seen.2 ∧ seen.1 ≤ (opensF f).2) → (f.2.2.length = 0 → wrongF f seen = ([], 9, ())) ∧ (f.2.2.length ≠ 0 → ∃ l, wrongF f seen = (l, 0, ()) ∧ WrongSet f seen l)) := by
  have e : wrongF f seen = if (opensF f).1 ≤ seen.2 ∧ seen.1 ≤ (opensF f).2 then ([], 7, ()) else if f.2.2.length = 0 then ([], 9, ())
      else if (opensF f).1 ≤ seen.2 then ([0], 0, ()) else (setK f seen f.2.2.length, 0, ()) := by
    have b1 : inB 0 360 seen.1 = true := by simp only [inB, Bool.and_eq_true, decide_eq_true_eq]; omega
    have b2 : inB 0 360 seen.2 = true := by simp only [inB, Bool.and_eq_true, decide_eq_true_eq]; omega
    unfold wrongF
    rw [if_neg (by rw [checkF_ok.2 h]; omega), if_neg (by rw [b1, b2]; simp; omega)]
  have hf := h.fan
  refine ⟨fun hc => by rw [e, if_pos hc], fun hc => ⟨fun h0 => by rw [e, if_neg hc, if_pos h0], fun h0 => ?_⟩⟩
  rw [e, if_neg hc, if_neg h0]
  have hn : 0 < f.2.2.length := by omega
  by_cases ho : (opensF f).1 ≤ seen.2
  · rw [if_pos ho]
    refine ⟨[0], rfl, ⟨by simp, by show 1 ≤ f.2.2.length; omega, List.pairwise_singleton _ _, fun x hx => ?_, ?_, fun p a b => ?_⟩⟩
    · have : x = 0 := by simpa using hx
      omega
    · have hd : degF (lowT (woF (fun _ => false) f)) ≤ seen.2 := by
        have e1 : degF (lowT (woF (fun _ => false) f)) = degF (lowT f) := by
          rw [degF_eq, degF_eq, (low_wo f _).1, (low_wo f _).2, restS_none, (low_num f).2]
        rw [e1]; exact ho
      have := enough_le hf (seen := seen) (a := [0]) (p := fun _ => false) (by
        have a1 := rest_sel f (fun _ => false) f.2.2.length
        have a2 := rest_sel f (memF [0]) f.2.2.length
        have a3 : selS f (fun _ => false) f.2.2.length = 0 := by
          unfold selS
          rw [List.filter_eq_nil_iff.2 fun _ _ hh => by cases hh]
          rfl
        have a4 : ∀ k, k ≤ f.2.2.length → 0 ≤ selS f (memF [0]) k := by
          intro k
          induction k with
          | zero => intro _; exact Int.le_refl _
          | succ k ih =>
            intro hk
            have := ih (by omega)
            have := angI_nonneg hf (i := k) (by omega)
            rw [selS_succ]
            split <;> omega
        have := a4 _ (Nat.le_refl _)
        omega) hd
      exact of_decide_eq_true this
    · simp only [List.length_cons, List.length_nil] at b
      omega
  · rw [if_neg ho]
    obtain ⟨s1, s2⟩ := set_spec hf (seen := seen) (by omega) hn
    obtain ⟨m1, m2, m3, m4⟩ := many_spec hf (seen := seen) (by omega) hn
    refine ⟨_, rfl, ⟨by omega, by omega, setK_asc f seen _, fun x hx => ?_, of_decide_eq_true s2, fun p a b => few_not hf (by omega) hn a (by omega)⟩⟩
    obtain ⟨i, hi, rfl⟩ := setK_mem f seen _ x hx
    omega

theorem truth_seen {f : Fan} (h : CheckOK f) {b : List Int} (hb : ∀ x, x ∈ b → byteB x) : (opensF f).1 ≤ degND (sumG loE (trueF f b).1.1 (trueF f b).2.1.1 (trueF f b).2.2) ((trueF f b).1.1 * (trueF f b).2.1.1) ∧
    degND (sumG loE (trueF f b).1.1 (trueF f b).2.1.1 (trueF f b).2.2) ((trueF f b).1.1 * (trueF f b).2.1.1) ≤ (opensF f).2 := by
  obtain ⟨t1, t2, t3⟩ := true_ok h hb
  have e1 : (trueF f b).1.2 = (trueF f b).1.1 := rfl
  have e2 : (trueF f b).2.1.2 = (trueF f b).2.1.1 := rfl
  have el : degF (lowT (trueF f b)) = degND (sumG loE (trueF f b).1.1 (trueF f b).2.1.1 (trueF f b).2.2) ((trueF f b).1.1 * (trueF f b).2.1.1) := by
    rw [degF_eq, (low_num _).1, (low_num _).2, e1, e2]
  rw [← el]
  have lf := lowT_ok h.fan
  have hf := highT_ok h.fan
  have lt := lowT_ok t1.fan
  have ht := highT_ok t1.fan
  refine ⟨deg_le lf lt t2, ?_⟩
  exact deg_le lt hf (leR_trans (low_den t1) (high_den t1) (high_den h) (low_high t1) t3)
theorem wo_check {f : Fan} (h : CheckOK f) (p : Int → Bool) : CheckOK (woF p f) := by
  refine ⟨h.far, h.near, h.lt, ?_, fun g hg => h.g g (woK_mem p f.2.2 _ (Nat.le_refl _) g hg)⟩
  have := woK_length p f.2.2 f.2.2.length
  have := h.n
  show (woK p f.2.2 f.2.2.length).length ≤ 40
  omega
theorem woK_congr {p q : Int → Bool} {gs : List Gap} : ∀ k, (∀ i : Nat, i < k → p i = q i) → woK p gs k = woK q gs k
  | 0, _ => rfl
  | k + 1, h => by rw [woK_succ, woK_succ, woK_congr k (fun i hi => h i (by omega)), h k (by omega)]
theorem cntP_congr {p q : Int → Bool} : ∀ k, (∀ i : Nat, i < k → p i = q i) → cntP p k = cntP q k
  | 0, _ => rfl
  | k + 1, h => by rw [cntP_succ, cntP_succ, cntP_congr k (fun i hi => h i (by omega)), h k (by omega)]
end Go.Proofs.Rv
set_option linter.unusedVariables false
set_option maxRecDepth 100000
namespace Go.Proofs.Rv
open Go Go.GX Go.Proofs

end Go.Proofs.Rv
set_option linter.unusedVariables false
set_option maxRecDepth 100000
namespace Go.Proofs.Rv
open Go Go.GX Go.Proofs

theorem gen28z {g : Fan} {K : Span × Int × Unit → Prop} (hg : CheckOK g) (hk : ∀ z : Span × Int × Unit, z.1.1 = degF (lowT g) → z.1.2 = degF (highT g) → z.2.1 = 0 → K z) : f28_wp g () K :=
  gen28 hg (hk _ rfl rfl rfl)
end Go.Proofs.Rv
set_option linter.unusedVariables false
set_option maxRecDepth 100000
namespace Go.Proofs.Rv
open Go Go.GX Go.Proofs

abbrev B12 := Bool × Bool × Bool × Bool × Bool × Bool × Bool × Bool × Bool × Bool × Bool × Bool
def tup (x : B12) : List Bool := [x.1, x.2.1, x.2.2.1, x.2.2.2.1, x.2.2.2.2.1, x.2.2.2.2.2.1, x.2.2.2.2.2.2.1, x.2.2.2.2.2.2.2.1, x.2.2.2.2.2.2.2.2.1, x.2.2.2.2.2.2.2.2.2.1, x.2.2.2.2.2.2.2.2.2.2.1, x.2.2.2.2.2.2.2.2.2.2.2]
def ofL (M : List Bool) (v : Bool) : B12 := (M.getD 0 v, M.getD 1 v, M.getD 2 v, M.getD 3 v, M.getD 4 v, M.getD 5 v, M.getD 6 v, M.getD 7 v, M.getD 8 v, M.getD 9 v, M.getD 10 v, M.getD 11 v)
theorem tup_ofL {M : List Bool} {v : Bool} (h : M.length = 12) : tup (ofL M v) = M := by
  refine List.ext_getElem (by rw [h]; rfl) fun i h1 h2 => ?_
  have : i = 0 ∨ i = 1 ∨ i = 2 ∨ i = 3 ∨ i = 4 ∨ i = 5 ∨ i = 6 ∨ i = 7 ∨ i = 8 ∨ i = 9 ∨ i = 10 ∨ i = 11 := by omega
  rcases this with rfl | rfl | rfl | rfl | rfl | rfl | rfl | rfl | rfl | rfl | rfl | rfl <;> exact getD_lt (by omega)
theorem tup_len (x : B12) : (tup x).length = 12 := rfl
theorem set_getDB {M : List Bool} {i j : Nat} {v d : Bool} (hj : j < M.length) : (M.set i v).getD j d = if i = j then v else M.getD j d := by
  rw [getD_lt (by rw [List.length_set]; exact hj), List.getElem_set, getD_lt hj]
theorem getD_any {M : List Bool} {j : Nat} {d d' : Bool} (hj : j < M.length) : M.getD j d = M.getD j d' := by
  rw [getD_lt hj, getD_lt hj]

def markB (l : List Int) (out : Int) (k : Nat) (j : Int) : Bool := (List.range k).any fun i => decide (l.getD i 0 = j ∧ (i : Int) ≠ out)
theorem markB_iff {l : List Int} {out : Int} {k : Nat} {j : Int} : markB l out k j = true ↔ ∃ i, i < k ∧ l.getD i 0 = j ∧ (i : Int) ≠ out := by
  unfold markB
  rw [List.any_eq_true]
  constructor
  · rintro ⟨i, hi, h⟩
    exact ⟨i, List.mem_range.1 hi, of_decide_eq_true h⟩
  · rintro ⟨i, hi, h⟩
    exact ⟨i, List.mem_range.2 hi, decide_eq_true h⟩
theorem markB_succ {l : List Int} {out : Int} {k : Nat} {j : Int} : markB l out (k + 1) j = (markB l out k j || decide (l.getD k 0 = j ∧ (k : Int) ≠ out)) := by
  unfold markB
  rw [List.range_succ, List.any_append]
  simp
theorem markB_all {l : List Int} (j : Int) : markB l (-1) l.length j = memF l j := by
  rw [Bool.eq_iff_iff, markB_iff, memF_iff]
  constructor
  · rintro ⟨i, hi, h, _⟩
    rw [← h]; exact getD_mem hi
  · intro h
    obtain ⟨i, hi, rfl⟩ := List.mem_iff_getElem.1 h
    exact ⟨i, hi, getD_lt hi, by omega⟩
theorem markB_but {l : List Int} {m : Nat} (j : Int) : markB l (m : Int) l.length j = memF (l.eraseIdx m) j := by
  rw [Bool.eq_iff_iff, markB_iff, memF_iff, List.mem_eraseIdx_iff_getElem]
  constructor
  · rintro ⟨i, hi, h, hne⟩
    rw [getD_lt hi] at h
    exact ⟨i, hi, by omega, h⟩
  · rintro ⟨i, hi, hne, h⟩
    exact ⟨i, hi, by rw [getD_lt hi]; exact h, by omega⟩
theorem asc_lt {l : List Int} (h : l.Pairwise (· < ·)) {i j : Nat} (hij : i < j) (hj : j < l.length) : l.getD i 0 < l.getD j 0 := by
  rw [getD_lt (by omega), getD_lt hj]
  exact List.pairwise_iff_getElem.1 h i j (by omega) hj hij
theorem gen27z {a b : Int} {K : Span → Prop} (hk : ∀ z : Span, z.1 = a → z.2 = b → K z) : f27_wp (a, b, ()) () K := hk (a, b) rfl rfl
theorem mnI_min' (a b : Int) : mnI a b = min a b := mnI_min a b
theorem mxI_max' (a b : Int) : mxI a b = max a b := by unfold mxI; omega
theorem p5 {x : Folded} {b : List Int} {v : Int × Int × Int} {Q : Bool → Prop} (h : f5_wp (x, b, v, ()) () Q) : V5 x b v Q := by
  obtain ⟨⟨hx, hb, hv0, hv1, hv2⟩, h⟩ := h
  have hx : FoldOK x := hx
  have hb : ∀ y, y ∈ b → byteB y := hb
  have hv0 : 0 ≤ v.1 ∧ v.1 ≤ 255 := hv0
  have hv1 : 0 ≤ v.2.1 ∧ v.2.1 ≤ 255 := hv1
  have hv2 : 0 ≤ v.2.2 ∧ v.2.2 ≤ 255 := hv2
  have h : Q true := h
  have t1 : Int.tmod v.1 3 = v.1 % 3 := Int.tmod_eq_emod_of_nonneg hv0.1
  have t2 : Int.tdiv v.1 3 = v.1 / 3 := Int.tdiv_eq_ediv_of_nonneg hv0.1
  have t3 : Int.tmod (Int.tdiv v.1 3) 3 = (v.1 / 3) % 3 := by rw [t2]; exact Int.tmod_eq_emod_of_nonneg (by omega)
  have t4 : Int.tdiv (v.2.1 * 360) 255 = (v.2.1 * 360) / 255 := Int.tdiv_eq_ediv_of_nonneg (by omega)
  have t5 : Int.tmod v.2.2 5 = v.2.2 % 5 := Int.tmod_eq_emod_of_nonneg hv2.1
  rw [V5, wrapS (x := v.1) (by omega) (by omega), wrapS (x := v.2.1) (by omega) (by omega), wrapS (x := v.2.2) (by omega) (by omega), wrapS (x := Int.tdiv v.1 3) (by omega) (by omega), wrapS (x := v.2.1 * 360) (by omega) (by omega), wrapS (x := Int.tdiv (v.2.1 * 360) 255) (by omega) (by omega), wrapS (x := Int.tdiv (v.2.1 * 360) 255 + Int.tmod v.2.2 5) (by omega) (by omega)]
  refine gen21 hx fun f hf => ?_
  have sf : SmallFan f := by rw [hf]; exact fold_small hx
  have ho := sf.ok
  have hn := sf.n
  clear hf
  refine ⟨⟨ho, hb⟩, ?_⟩
  obtain ⟨tok, _, _⟩ := true_ok ho hb
  obtain ⟨ts1, ts2⟩ := truth_seen ho hb
  have dr : 0 ≤ (opensF f).1 ∧ (opensF f).2 ≤ 360 := by
    have a1 := lowT_ok ho.fan
    have a2 := highT_ok ho.fan
    exact ⟨(degND_range a1.num.1 a1.den.1).1, (degND_range a2.num.1 a2.den.1).2⟩
  have lt := lowT_ok tok.fan
  have e1 : (trueF f b).1.2 = (trueF f b).1.1 := rfl
  have e2 : (trueF f b).2.1.2 = (trueF f b).2.1.1 := rfl
  have n1 := lt.num
  have n2 := lt.den
  rw [(low_num _).1, e1, e2] at n1
  rw [(low_num _).2, e1, e2] at n2
  refine ⟨tok, ⟨by show 0 ≤ sumG loE (trueF f b).1.1 (trueF f b).2.1.1 (trueF f b).2.2; omega, by show sumG loE (trueF f b).1.1 (trueF f b).2.1.1 (trueF f b).2.2 ≤ _; omega, by show 1 ≤ (trueF f b).1.1 * (trueF f b).2.1.1; omega, by show (trueF f b).1.1 * (trueF f b).2.1.1 ≤ _; omega⟩, ?_⟩
  change (fun d : Int => _) (degND (sumG loE (trueF f b).1.1 (trueF f b).2.1.1 (trueF f b).2.2) ((trueF f b).1.1 * (trueF f b).2.1.1))
  obtain ⟨d, hd⟩ : ∃ d, d = degND (sumG loE (trueF f b).1.1 (trueF f b).2.1.1 (trueF f b).2.2) ((trueF f b).1.1 * (trueF f b).2.1.1) := ⟨_, rfl⟩
  rw [← hd] at ts1 ts2 ⊢
  clear hd n1 n2 lt tok
  obtain ⟨s0', hs0⟩ : ∃ s : Span, s = (mxI 0 (IntKind.wrap .i64 (d - Int.tmod v.1 3)), mnI 360 (IntKind.wrap .i64 (d + Int.tmod (Int.tdiv v.1 3) 3))) := ⟨_, rfl⟩
  have q1 : s0'.1 = max 0 (d - Int.tmod v.1 3) := by rw [hs0, wrapS (x := d - Int.tmod v.1 3) (by omega) (by omega)]; exact mxI_max' _ _
  have q2 : s0'.2 = min 360 (d + Int.tmod (Int.tdiv v.1 3) 3) := by rw [hs0, wrapS (x := d + Int.tmod (Int.tdiv v.1 3) 3) (by omega) (by omega)]; exact mnI_min' _ _
  have ws := (wrong_spec ho (seen := s0') (by omega) (by omega) (by omega)).1 ⟨by omega, by omega⟩
  refine ⟨f, ⟨by show f.2.2.length ≤ 1000000; omega, rfl⟩, by omega, by omega, by omega, s0', hs0.symm, ([], 7, ()), ⟨fun _ _ _ _ => hn, ws⟩, cndF ⟨by omega, by omega, gen27z fun seen g1 g2 => ?_⟩⟩
  rw [mnI_min'] at g2
  have k1 : 0 ≤ seen.1 := by omega
  have k2 : seen.1 ≤ seen.2 := by omega
  have k3 : seen.2 ≤ 360 := by omega
  clear g1 g2 q1 q2 hs0 ws ts1 ts2
  obtain ⟨sp1, sp2⟩ := wrong_spec ho k1 k2 k3
  obtain ⟨z, hz⟩ : ∃ z, z = wrongF f seen := ⟨_, rfl⟩
  refine ⟨f, ⟨by show f.2.2.length ≤ 1000000; omega, rfl⟩, z, ⟨fun _ _ _ _ => hn, hz.symm⟩, gen11 (f := f) (by omega) (gen28z (g := f) ho fun o o1 o2 o3 => cnd_not (by rw [o3]; rfl) ?_)⟩
  have o1 : o.1.1 = (opensF f).1 := o1
  have o2 : o.1.2 = (opensF f).2 := o2
  refine ⟨fun c => c = true ↔ (opensF f).1 ≤ seen.2 ∧ seen.1 ≤ (opensF f).2, ?_, ?_⟩
  · rw [o1, o2]
    refine cnd_iff.2 ⟨fun c1 => ?_, fun c1 => ?_⟩
    · have c1 := of_decide_eq_true c1
      show decide (seen.1 ≤ (opensF f).2) = true ↔ _
      rw [decide_eq_true_iff]
      exact ⟨fun h => ⟨c1, h⟩, fun h => h.2⟩
    · have c1 := of_decide_eq_false c1
      exact ⟨fun h => (by cases h), fun h => absurd h.1 c1⟩
  intro c hc
  refine cnd_iff.2 ⟨fun c1 => ?_, fun c1 _ => ?_⟩
  · rw [sp1 (hc.1 c1)] at hz
    subst hz
    exact cndT fun _ => cndT h
  have hno : ¬ ((opensF f).1 ≤ seen.2 ∧ seen.1 ≤ (opensF f).2) := fun hh => by rw [hc.2 hh] at c1; cases c1
  obtain ⟨sp3, sp4⟩ := sp2 hno
  refine cnd_iff.2 ⟨fun c2 => ?_, fun c2 => ?_⟩
  · rw [sp3 (len0' c2)] at hz
    subst hz
    exact cndT fun _ => cndT h
  obtain ⟨l, hl, W⟩ := sp4 (len0 c2)
  rw [hl] at hz
  have z1 : z.1 = l := by rw [hz]
  have z2 : z.2.1 = 0 := by rw [hz]
  rw [← z1] at W
  clear hz z1 hl l sp1 sp2 sp3 sp4
  obtain ⟨W1, W2, W3, W4, W5, W6⟩ := W
  refine cnd_not (by rw [z2]; rfl) fun _ => cnd_not (by simpa using W1) fun _ _ => cnd_not (decide_eq_false (by omega)) ?_
  refine ⟨fun y => ∃ m : Nat, y = (m : Int) - 1 ∧ m ≤ z.1.length + 1, fun y => (z.1.length - y).toNat, ⟨0, by omega, by omega⟩, ?_⟩
  rintro out ⟨m, hm, hm2⟩ _
  refine cnd_iff.2 ⟨fun co => ?_, fun co => ?_⟩
  · have co : out < (z.1.length : Int) := of_decide_eq_true co
    have hout : IntKind.wrap .i64 (out + 1) = out + 1 := wrapS (by omega) (by omega)
    refine ⟨fun y t => ∃ k : Nat, k ≤ z.1.length ∧ y = k ∧ ∀ j : Nat, j < 12 → (tup t).getD j false = markB z.1 out k j, fun y _ => (z.1.length - y).toNat, ⟨0, Nat.zero_le _, rfl, fun j hj => ?_⟩, ?_⟩
    · have : ∀ j, j < 12 → (tup (false, false, false, false, false, false, false, false, false, false, false, false)).getD j false = false := by decide
      rw [this j hj]; rfl
    rintro _ t ⟨k, hk, rfl, hmk⟩ _
    refine cnd_iff.2 ⟨fun ck => ?_, fun ck => ?_⟩
    · have ck : (k : Int) < (z.1.length : Int) := of_decide_eq_true ck
      have hkl : k < z.1.length := by omega
      have hr := W4 _ (getD_mem (d := 0) hkl)
      have hwk : IntKind.wrap .i64 ((k : Int) + 1) = ((k + 1 : Nat) : Int) := by rw [wrapS (by omega) (by omega)]; push_cast; rfl
      refine ⟨fun c => c = false, ⟨by omega, by omega, cnd_not (decide_eq_false (by show ¬ z.1.getD k 0 < 0; omega)) ⟨by omega, by omega, cnd_not (decide_eq_false (by show ¬ z.1.getD k 0 ≥ (f.2.2.length : Int); omega)) (cnd_iff.2 ⟨fun c5 => ?_, fun _ => rfl⟩)⟩⟩, ?_⟩
      · have c5 : (k : Int) > 0 := of_decide_eq_true c5
        have hwm : IntKind.wrap .i64 ((k : Int) - 1) = ((k - 1 : Nat) : Int) := by rw [wrapS (by omega) (by omega)]; omega
        rw [hwm]
        have := asc_lt W3 (i := k - 1) (j := k) (by omega) hkl
        exact ⟨by omega, by omega, by omega, by omega, decide_eq_false (by show ¬ z.1.getD k 0 ≤ z.1.getD (k - 1) 0; omega)⟩
      · rintro _ rfl
        refine cndF ⟨by omega, by omega, hr.1, by show z.1.getD k 0 < 12; omega, ?_⟩
        rw [hwk]
        obtain ⟨y, hy⟩ := Int.eq_ofNat_of_zero_le hr.1
        have hmark : ∀ j : Nat, j < 12 → (tup (ofL ((tup t).set (z.1.getD k 0).toNat ((k : Int) != out)) ((k : Int) != out))).getD j false = markB z.1 out (k + 1) j := fun j hj => by
          rw [tup_ofL (by rw [List.length_set]; rfl), set_getDB (by rw [tup_len]; exact hj), hmk j hj, markB_succ, hy]
          by_cases hyj : y = j
          · rw [if_pos (by show (y : Int).toNat = j; omega)]
            have hold : markB z.1 out k j = false := by
              cases hb2 : markB z.1 out k (j : Int) with
              | false => rfl
              | true =>
                obtain ⟨i, hi, hij, _⟩ := markB_iff.1 hb2
                have := asc_lt W3 hi hkl
                rw [hij, hy, hyj] at this
                omega
            rw [hold, Bool.false_or, Bool.eq_iff_iff, decide_eq_true_iff, bne_iff_ne]
            exact ⟨fun hh => ⟨by rw [hyj], hh⟩, fun hh => hh.2⟩
          · rw [if_neg (by show ¬ (y : Int).toNat = j; omega), decide_eq_false (fun hh => by have := hh.1; omega), Bool.or_false]
        exact ⟨⟨k + 1, hkl, rfl, hmark⟩, by show ((z.1.length : Int) - ((k + 1 : Nat) : Int)).toNat < ((z.1.length : Int) - (k : Int)).toNat; omega⟩
    · have ck : ¬ (k : Int) < (z.1.length : Int) := of_decide_eq_false ck
      have hkl : k = z.1.length := by omega
      subst hkl
      obtain ⟨p, hp⟩ : ∃ p : Int → Bool, p = markB z.1 out z.1.length := ⟨_, rfl⟩
      rw [← hp] at hmk
      refine forUpL (fun i => (((f.1, f.2.1), woK p f.2.2 i) : (Span × Span) × List Gap)) rfl (fun i hi J ν hJ hwi => ?_) ?_
      · have hmki : (tup t).getD i t.1 = p i := by rw [← hmk i (by omega)]; exact getD_any (by rw [tup_len]; omega)
        refine ⟨by omega, by omega, ?_⟩
        change cnd (!(tup t).getD i t.1) _ _
        rw [hmki, hwi]
        rw [woK_succ] at hJ
        have hlen := woK_length p f.2.2 i
        refine cnd_iff.2 ⟨fun cc => ?_, fun cc => ?_⟩
        · have cc : p i = false := by simpa using cc
          rw [if_neg (by rw [cc]; simp)] at hJ
          exact ⟨by omega, by omega, by show ((woK p f.2.2 i).length + 1) * 32 ≤ _; omega, hJ⟩
        · have cc : p i = true := by simpa using cc
          rw [if_pos cc] at hJ
          exact hJ
      refine gen28z (g := woF p f) (wo_check ho p) fun w w1 w2 w3 => ?_
      refine ⟨fun c => c = false, cnd_not (by rw [w3]; rfl) (cnd_iff.2 ⟨fun c6 => ?_, fun c6 => ?_⟩), ?_⟩
      · have c6 : out < 0 := of_decide_eq_true c6
        have hm0 : out = -1 := by omega
        have hpm : p = memF z.1 := by rw [hp, hm0]; funext j; exact markB_all j
        refine cnd_not (decide_eq_false ?_) (cnd_not (decide_eq_false (by omega)) rfl)
        rw [w1, hpm]; omega
      · have c6 : ¬ out < 0 := of_decide_eq_false c6
        refine cnd_of (decide_eq_true (by omega)) fun _ => cnd_iff.2 ⟨fun c7 => ?_, fun _ => rfl⟩
        have c7 : (z.1.length : Int) > 1 := of_decide_eq_true c7
        obtain ⟨i, hi⟩ := Int.eq_ofNat_of_zero_le (show 0 ≤ out by omega)
        have hil : i < z.1.length := by omega
        have hpm : p = memF (z.1.eraseIdx i) := by rw [hp, hi]; funext j; exact markB_but j
        have hsub : (z.1.eraseIdx i).Sublist z.1 := List.eraseIdx_sublist z.1 i
        have hcnt : cntP p f.2.2.length = z.1.length - 1 := by
          rw [hpm, cnt_all (W3.sublist hsub) fun y hy => W4 y (hsub.subset hy), List.length_eraseIdx_of_lt hil]
        refine decide_eq_false ?_
        rw [w1]
        exact W6 p (by omega) (by omega)
      · rintro _ rfl
        rw [hout]
        exact cndF ⟨⟨m + 1, by omega, by omega⟩, by show ((z.1.length : Int) - (out + 1)).toNat < ((z.1.length : Int) - out).toNat; omega⟩
  intro _
  rw [wrapS (x := (z.1.length : Int) - 1) (by omega) (by omega)]
  refine ⟨fun y t q => ∃ (i : Nat) (p : Int → Bool), i ≤ f.2.2.length ∧ y = i ∧ q = ((f.1, f.2.1), woK p f.2.2 i) ∧ (cntP p i : Int) + t = z.1.length - 1 ∧ 0 ≤ t ∧ t ≤ f.2.2.length - i, fun y _ _ => (f.2.2.length - y).toNat, ⟨0, fun _ => false, Nat.zero_le _, rfl, rfl, by show ((0 : Nat) : Int) + ((z.1.length : Int) - 1) = _; omega, by omega, by omega⟩, ?_⟩
  rintro _ t _ ⟨i, p, hi, rfl, rfl, hcnt, ht0, htn⟩ _
  refine cnd_iff.2 ⟨fun ci => ?_, fun ci => ?_⟩
  · have ci : (i : Int) < (f.2.2.length : Int) := of_decide_eq_true ci
    have hwi : IntKind.wrap .i64 ((i : Int) + 1) = ((i + 1 : Nat) : Int) := by rw [wrapS (by omega) (by omega)]; push_cast; rfl
    obtain ⟨pt, hpt⟩ : ∃ pt : Bool → Int → Bool, pt = fun c j => if j = (i : Int) then c else p j := ⟨_, rfl⟩
    have hpi : ∀ c, pt c i = c := fun c => by rw [hpt]; exact if_pos rfl
    have hpj : ∀ c, ∀ j : Nat, j < i → p j = pt c j := fun c j hj => by rw [hpt]; exact (if_neg (by omega)).symm
    have hw2 : ∀ c, woK (pt c) f.2.2 i = woK p f.2.2 i := fun c => (woK_congr i (hpj c)).symm
    have hc2 : ∀ c, cntP (pt c) i = cntP p i := fun c => (cntP_congr i (hpj c)).symm
    refine ⟨fun c => (c = true → 0 < t) ∧ (c = false → t ≤ f.2.2.length - i - 1), ?_, ?_⟩
    · refine cnd_iff.2 ⟨fun ct => ?_, fun ct => ?_⟩
      · have ct : t > 0 := of_decide_eq_true ct
        refine ⟨⟨hb, by show (0 : Int) ≤ i; omega, by show (i : Int) ≤ 1000000; omega⟩, by omega, cnd_iff.2 ⟨fun _ => ⟨fun _ => ct, fun hh => by cases hh⟩, fun _ _ => ?_⟩⟩
        rw [wrapS (x := (f.2.2.length : Int) - i) (by omega) (by omega)]
        exact ⟨fun _ => ct, fun hh => by have := of_decide_eq_false hh; omega⟩
      · have ct : ¬ t > 0 := of_decide_eq_false ct
        exact ⟨fun hh => (by cases hh), fun _ => (by omega)⟩
    · rintro c ⟨hc1, hc2'⟩
      rw [hwi]
      refine cnd_iff.2 ⟨fun cc => ?_, fun cc => ?_⟩
      · have := hc1 cc
        rw [wrapS (x := t - 1) (by omega) (by omega)]
        refine ⟨⟨i + 1, pt true, by omega, rfl, ?_, ?_, by omega, by omega⟩, by show ((f.2.2.length : Int) - ((i + 1 : Nat) : Int)).toNat < ((f.2.2.length : Int) - (i : Int)).toNat; omega⟩
        · rw [woK_succ, hpi, if_pos rfl, hw2]
        · rw [cntP_succ, hpi, if_pos rfl, hc2]; omega
      · have := hc2' cc
        have hlen := woK_length p f.2.2 i
        refine ⟨by omega, by omega, by show ((woK p f.2.2 i).length + 1) * 32 ≤ _; omega, ⟨i + 1, pt false, by omega, rfl, ?_, ?_, by omega, by omega⟩, by show ((f.2.2.length : Int) - ((i + 1 : Nat) : Int)).toNat < ((f.2.2.length : Int) - (i : Int)).toNat; omega⟩
        · rw [woK_succ, hpi, if_neg (by simp), hw2]; rfl
        · rw [cntP_succ, hpi, if_neg (by simp), hc2]; omega
  · have ci : ¬ (i : Int) < (f.2.2.length : Int) := of_decide_eq_false ci
    have hin : i = f.2.2.length := by omega
    subst hin
    refine gen28z (g := woF p f) (wo_check ho p) fun w w1 w2 w3 => ?_
    refine cnd_of (by rw [w3]; rfl) fun _ => cnd_iff.2 ⟨fun _ => h, fun c8 => ?_⟩
    have c8 : ¬ (z.1.length : Int) = 1 := by simpa using c8
    refine cnd_of (decide_eq_true ?_) h
    have := W6 p (by omega) (by omega)
    rw [w1]; omega
end Go.Proofs.Rv
set_option maxRecDepth 100000
set_option maxHeartbeats 2000000
namespace Go.Proofs.Rv
open Go Go.GX Go.Proofs
variable [Inhabited BaseD]
theorem ok5 : CallsOK Try.prog (assoc glT) 5 f5_ct :=
  callsOK_E (env (ct := [(21, f21_ct), (24, f24_ct), (23, f23_ct), (22, f22_ct), (26, f26_ct), (27, f27_ct), (25, f25_ct), (28, f28_ct), (10, f10_ct), (29, f29_ct)]) (ios := []) (hos := []) (lits := []) (AllOK.cons ok21 (AllOK.cons ok24 (AllOK.cons ok23 (AllOK.cons ok22 (AllOK.cons ok26 (AllOK.cons ok27 (AllOK.cons ok25 (AllOK.cons ok28 (AllOK.cons ok10 (AllOK.cons ok29 AllOK.nil)))))))))) AllW.nil AllH.nil) f5_an Try.func5 (by kernel_rfl) (by kernel_rfl) f5_ct fun ⟨x, b, v, _⟩ _ Q h => (v5 x b v Q).mp (p5 h)
end Go.Proofs.Rv
