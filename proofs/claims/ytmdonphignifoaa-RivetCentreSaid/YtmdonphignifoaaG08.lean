/- Part 8 of the texts behind the proof: RvV6, RvP9, RvO3, RvM3, RvM5, RvV7, RvPb, RvV8, RvPd, RvO7. -/
import Derived.Test.YtmdonphignifoaaG07
import Derived.Test.YtmdonphignifoaaProg
set_option linter.unusedSimpArgs false
set_option linter.unusedVariables false
set_option linter.unusedSectionVars false
set_option linter.unusedVariables false
set_option maxRecDepth 100000
namespace Go.Proofs.Rv
open Go Go.GX Go.Proofs

def V10 (Q : Bool → Prop) : Prop :=
  f39_wp () () fun (r : (Int × Int) × (Int × Int) × List ((Int × Int) × Int × Int)) ↦
    f28_wp ((Prod.fst (Prod.fst r), Prod.snd (Prod.fst r)), (Prod.fst (Prod.fst (Prod.snd r)), Prod.snd (Prod.fst (Prod.snd r))), Prod.snd (Prod.snd r))
      () fun (r : (Int × Int) × Int × Unit) ↦
      f39_wp () () fun (r_1 : (Int × Int) × (Int × Int) × List ((Int × Int) × Int × Int)) ↦
        f12_wp
          ((Prod.fst (Prod.fst r_1), Prod.snd (Prod.fst r_1)), (Prod.fst (Prod.fst (Prod.snd r_1)), Prod.snd (Prod.fst (Prod.snd r_1))),
            Prod.snd (Prod.snd r_1))
          () fun (r_2 : List Int × Int × Unit) ↦
          f39_wp () () fun (r_3 : (Int × Int) × (Int × Int) × List ((Int × Int) × Int × Int)) ↦
            f32_wp
              (((Prod.fst (Prod.fst r_3), Prod.snd (Prod.fst r_3)), (Prod.fst (Prod.fst (Prod.snd r_3)), Prod.snd (Prod.fst (Prod.snd r_3))),
                  Prod.snd (Prod.snd r_3)),
                (100 : Int), ())
              () fun (r_4 : Int × Int × Int × Unit) ↦
              f39_wp () () fun (r_5 : (Int × Int) × (Int × Int) × List ((Int × Int) × Int × Int)) ↦
                f27_wp ((10 : Int), (14 : Int), ()) () fun (r_6 : Int × Int) ↦
                  f25_wp
                    (((Prod.fst (Prod.fst r_5), Prod.snd (Prod.fst r_5)), (Prod.fst (Prod.fst (Prod.snd r_5)), Prod.snd (Prod.fst (Prod.snd r_5))),
                        Prod.snd (Prod.snd r_5)),
                      (Prod.fst r_6, Prod.snd r_6), ())
                    () fun (r_7 : List Int × Int × Unit) ↦
                    f39_wp () () fun (r_8 : (Int × Int) × (Int × Int) × List ((Int × Int) × Int × Int)) ↦
                      f30_wp
                        (((Prod.fst (Prod.fst r_8), Prod.snd (Prod.fst r_8)), (Prod.fst (Prod.fst (Prod.snd r_8)), Prod.snd (Prod.fst (Prod.snd r_8))),
                            Prod.snd (Prod.snd r_8)),
                          (45 : Int), ())
                        () fun (r_9 : Int × Int × Unit) ↦
                        f39_wp () () fun (r_10 : (Int × Int) × (Int × Int) × List ((Int × Int) × Int × Int)) ↦
                          f31_wp
                            (((Prod.fst (Prod.fst r_10), Prod.snd (Prod.fst r_10)),
                                (Prod.fst (Prod.fst (Prod.snd r_10)), Prod.snd (Prod.fst (Prod.snd r_10))), Prod.snd (Prod.snd r_10)),
                              (18 : Int), ())
                            () fun (r_11 : Int × Int × Unit) ↦
                            f27_wp ((100 : Int), (120 : Int), ()) () fun (r_12 : Int × Int) ↦
                              f27_wp ((1 : Int), (1 : Int), ()) () fun (r_13 : Int × Int) ↦
                                f27_wp ((30 : Int), (40 : Int), ()) () fun (r_14 : Int × Int) ↦
                                  f27_wp ((1 : Int), (1 : Int), ()) () fun (r_15 : Int × Int) ↦
                                    f17_wp
                                      (((Prod.fst r_12, Prod.snd r_12), (Prod.fst r_13, Prod.snd r_13), (50 : Int)) ::
                                        ((Prod.fst r_14, Prod.snd r_14), (Prod.fst r_15, Prod.snd r_15), (200 : Int)) ::
                                          ([] : List ((Int × Int) × (Int × Int) × Int)))
                                      () fun (r_16 : (Int × Int) × (Int × Int) × Int × Unit) ↦
                                      cnd (Prod.fst (Prod.snd r) != (0 : Int)) (Q false)
                                        (cnd (Prod.fst (Prod.snd r_2) != (0 : Int)) (Q false)
                                          (cnd (Prod.fst (Prod.snd (Prod.snd r_4)) != (0 : Int)) (Q false)
                                            (cnd (Prod.fst (Prod.snd r_7) != (0 : Int)) (Q false)
                                              (cnd (Prod.fst (Prod.snd r_9) != (0 : Int)) (Q false)
                                                (cnd (Prod.fst (Prod.snd r_11) != (0 : Int)) (Q false)
                                                  (cnd (Prod.fst (Prod.snd (Prod.snd r_16)) != (0 : Int)) (Q false)
                                                    (∃ (r_17 : Int × Int),
                                                      (f27_wp ((16 : Int), (19 : Int), ()) () fun (r' : Int × Int) ↦ r' = r_17) ∧
                                                        cnd (Prod.fst (Prod.fst r) == Prod.fst r_17 && (Prod.snd (Prod.fst r) == Prod.snd r_17 && true))
                                                          (∃ (r : Bool),
                                                            (f40_wp (Prod.fst r_2, (1 : Int) :: (3 : Int) :: ([] : List Int), ()) () fun (r' : Bool) ↦
                                                                r' = r) ∧
                                                              cnd r
                                                                (cnd (Prod.fst r_4 == (0 : Int))
                                                                  (cnd (Prod.fst (Prod.snd r_4) == (18 : Int))
                                                                    (∃ (r : Bool),
                                                                      (f40_wp (Prod.fst r_7, (0 : Int) :: ([] : List Int), ()) () fun (r' : Bool) ↦
                                                                          r' = r) ∧
                                                                        cnd r
                                                                          (cnd (Prod.fst r_9 == (5 : Int))
                                                                            (cnd (Prod.fst r_11 == (235 : Int))
                                                                              (cnd
                                                                                (Prod.fst (Prod.fst r_16) == (80 : Int) &&
                                                                                  (Prod.snd (Prod.fst r_16) == (1 : Int) && true))
                                                                                (Q
                                                                                  (Prod.fst (Prod.fst (Prod.snd r_16)) == (650 : Int) &&
                                                                                    (Prod.snd (Prod.fst (Prod.snd r_16)) == (7 : Int) && true)))
                                                                                (Q false))
                                                                              (Q false))
                                                                            (Q false))
                                                                          (Q false))
                                                                    (Q false))
                                                                  (Q false))
                                                                (Q false))
                                                          (Q false))))))))
theorem v10 (Q : Bool → Prop) : V10 Q = vcFunc (S1 [(39, f39_ct), (28, f28_ct), (12, f12_ct), (32, f32_ct), (27, f27_ct), (25, f25_ct), (30, f30_ct), (31, f31_ct), (17, f17_ct), (40, f40_ct), (41, f41_ct)] [] [] []) f10_ct.own f10_ct.fresh no_an Try.f10 (bodyOf Try.f10) f10_ct.A f10_ct.C f10_ct.R () () Q := by kernel_rfl

def V3 (f : (Int × Int) × (Int × Int) × List ((Int × Int) × Int × Int)) (Q : Bool → Prop) : Prop :=
  List.length (Prod.snd (Prod.snd f)) ≤ (9223372036854775807 : Nat) →
    cnd (decide ((↑(List.length (Prod.snd (Prod.snd f))) : Int) > (50 : Int))) (f10_wp () () fun (r : Bool) ↦ Q r)
      (f11_wp
        ((Prod.fst (Prod.fst f), Prod.snd (Prod.fst f)), (Prod.fst (Prod.fst (Prod.snd f)), Prod.snd (Prod.fst (Prod.snd f))), Prod.snd (Prod.snd f)) ()
        fun (r : (Int × Int) × (Int × Int) × List ((Int × Int) × Int × Int)) ↦
        f12_wp
          ((Prod.fst (Prod.fst r), Prod.snd (Prod.fst r)), (Prod.fst (Prod.fst (Prod.snd r)), Prod.snd (Prod.fst (Prod.snd r))), Prod.snd (Prod.snd r))
          () fun (r_1 : List Int × Int × Unit) ↦
          f13_wp
            (((Prod.fst (Prod.fst r), Prod.snd (Prod.fst r)), (Prod.fst (Prod.fst (Prod.snd r)), Prod.snd (Prod.fst (Prod.snd r))),
                Prod.snd (Prod.snd r)),
              ((Prod.fst (Prod.fst f), Prod.snd (Prod.fst f)), (Prod.fst (Prod.fst (Prod.snd f)), Prod.snd (Prod.fst (Prod.snd f))),
                Prod.snd (Prod.snd f)),
              ())
            () fun (r : Bool) ↦
            cnd (!r) (Q false)
              (f14_wp
                ((Prod.fst (Prod.fst f), Prod.snd (Prod.fst f)), (Prod.fst (Prod.fst (Prod.snd f)), Prod.snd (Prod.fst (Prod.snd f))),
                  Prod.snd (Prod.snd f))
                () fun (r : Int) ↦
                cnd (r != (0 : Int))
                  (cnd (Prod.fst (Prod.snd r_1) == r)
                    (List.length (Prod.fst r_1) ≤ (9223372036854775807 : Nat) →
                      cnd ((↑(List.length (Prod.fst r_1)) : Int) == (0 : Int)) (f10_wp () () fun (r : Bool) ↦ Q r) (Q false))
                    (Q false))
                  (cnd (Prod.fst (Prod.snd r_1) != (0 : Int)) (Q false)
                    (List.length (Prod.fst r_1) ≤ (9223372036854775807 : Nat) →
                      List.length (Prod.snd (Prod.snd f)) ≤ (9223372036854775807 : Nat) →
                        cnd ((↑(List.length (Prod.fst r_1)) : Int) != (↑(List.length (Prod.snd (Prod.snd f))) : Int)) (Q false)
                          (∃ (I : Int → Prop),
                            ∃ (μ : Int → Nat),
                              I (0 : Int) ∧
                                ∀ (x : Int),
                                  I x →
                                    List.length (Prod.fst r_1) ≤ (9223372036854775807 : Nat) →
                                      cnd (decide (x < (↑(List.length (Prod.fst r_1)) : Int)))
                                        ((0 : Int) ≤ x ∧
                                          x < (↑(List.length (Prod.fst r_1)) : Int) ∧
                                            (0 : Int) ≤ x ∧
                                              x < (↑(List.length (Prod.snd (Prod.snd f))) : Int) ∧
                                                ∃ (r : Int),
                                                  (f15_wp
                                                      (((Prod.fst (Prod.fst f), Prod.snd (Prod.fst f)),
                                                          (Prod.fst (Prod.fst (Prod.snd f)), Prod.snd (Prod.fst (Prod.snd f))), Prod.snd (Prod.snd f)),
                                                        ((Prod.fst
                                                              (Prod.fst
                                                                (List.getD (Prod.snd (Prod.snd f)) (Int.toNat x)
                                                                  (((0 : Int), (0 : Int)), (0 : Int), (0 : Int)))),
                                                            Prod.snd
                                                              (Prod.fst
                                                                (List.getD (Prod.snd (Prod.snd f)) (Int.toNat x)
                                                                  (((0 : Int), (0 : Int)), (0 : Int), (0 : Int))))),
                                                          Prod.fst
                                                            (Prod.snd
                                                              (List.getD (Prod.snd (Prod.snd f)) (Int.toNat x)
                                                                (((0 : Int), (0 : Int)), (0 : Int), (0 : Int)))),
                                                          Prod.snd
                                                            (Prod.snd
                                                              (List.getD (Prod.snd (Prod.snd f)) (Int.toNat x)
                                                                (((0 : Int), (0 : Int)), (0 : Int), (0 : Int))))),
                                                        ())
                                                      () fun (r' : Int) ↦ r' = r) ∧
                                                    cnd (List.getD (Prod.fst r_1) (Int.toNat x) (0 : Int) != r) (Q false)
                                                      (I (IntKind.wrap IntKind.i64 (x + (1 : Int))) ∧
                                                        μ (IntKind.wrap IntKind.i64 (x + (1 : Int))) < μ x))
                                        (f10_wp () () fun (r : Bool) ↦ Q r))))))
theorem v3 (f : (Int × Int) × (Int × Int) × List ((Int × Int) × Int × Int)) (Q : Bool → Prop) : V3 f Q = vcFunc (S1 [(10, f10_ct), (11, f11_ct), (12, f12_ct), (13, f13_ct), (14, f14_ct), (15, f15_ct)] [] [] []) f3_ct.own f3_ct.fresh f3_an Try.f3 (bodyOf Try.f3) f3_ct.A f3_ct.C f3_ct.R f () Q := by kernel_rfl

def V4 (l : List ((Int × Int) × (Int × Int) × Int)) (Q : Bool → Prop) : Prop :=
  List.length l ≤ (9223372036854775807 : Nat) →
    cnd (decide ((↑(List.length l) : Int) > (20 : Int))) (f10_wp () () fun (r : Bool) ↦ Q r)
      (f16_wp l () fun (r : List ((Int × Int) × (Int × Int) × Int)) ↦
        f17_wp r () fun (r_1 : (Int × Int) × (Int × Int) × Int × Unit) ↦
          f18_wp (r, l, ()) () fun (r : Bool) ↦
            cnd (!r) (Q false)
              (f19_wp l () fun (r : Int) ↦
                ∃ (I : Bool → Prop),
                  cnd (r == (0 : Int)) (List.length l ≤ (9223372036854775807 : Nat) → I ((↑(List.length l) : Int) == (0 : Int))) (I false) ∧
                    ∀ (x : Bool),
                      I x →
                        ∃ (I : Int → Prop),
                          cnd x (I (7 : Int)) (I r) ∧
                            ∀ (x : Int),
                              I x →
                                cnd (x != (0 : Int))
                                  (cnd (Prod.fst (Prod.snd (Prod.snd r_1)) == x)
                                    (cnd (Prod.fst (Prod.fst r_1) == (0 : Int) && (Prod.snd (Prod.fst r_1) == (0 : Int) && true))
                                      (cnd
                                        (Prod.fst (Prod.fst (Prod.snd r_1)) == (0 : Int) && (Prod.snd (Prod.fst (Prod.snd r_1)) == (0 : Int) && true))
                                        (f10_wp () () fun (r : Bool) ↦ Q r) (Q false))
                                      (Q false))
                                    (Q false))
                                  (f20_wp l () fun (r : (Int × Int) × (Int × Int) × Unit) ↦
                                    cnd (Prod.fst (Prod.snd (Prod.snd r_1)) == (0 : Int))
                                      (cnd
                                        (Prod.fst (Prod.fst r_1) == Prod.fst (Prod.fst r) && (Prod.snd (Prod.fst r_1) == Prod.snd (Prod.fst r) && true))
                                        (cnd
                                          (Prod.fst (Prod.fst (Prod.snd r_1)) == Prod.fst (Prod.fst (Prod.snd r)) &&
                                            (Prod.snd (Prod.fst (Prod.snd r_1)) == Prod.snd (Prod.fst (Prod.snd r)) && true))
                                          (f10_wp () () fun (r : Bool) ↦ Q r) (Q false))
                                        (Q false))
                                      (Q false))))
theorem v4 (l : List ((Int × Int) × (Int × Int) × Int)) (Q : Bool → Prop) : V4 l Q = vcFunc (S1 [(10, f10_ct), (16, f16_ct), (17, f17_ct), (18, f18_ct), (19, f19_ct), (20, f20_ct)] [] [] []) f4_ct.own f4_ct.fresh f4_an Try.f4 (bodyOf Try.f4) f4_ct.A f4_ct.C f4_ct.R l () Q := by kernel_rfl

end Go.Proofs.Rv
set_option linter.unusedVariables false
set_option maxRecDepth 100000
namespace Go.Proofs.Rv
open Go Go.GX Go.Proofs

theorem w28 {K : Span × Int × Unit → Prop} (h : K ((16, 19), 0, ())) : f28_wp fan0 () K := by
  have e : (if checkF fan0 = 0 then (opensF fan0, 0, ()) else ((0, 0), checkF fan0, ()) : Span × Int × Unit) = ((16, 19), 0, ()) := by decide +kernel
  show K _
  rw [e]; exact h
theorem w12 {K : List Int × Int × Unit → Prop} (h : K ([1, 3], 0, ())) : f12_wp fan0 () K := by
  have e : (if checkF fan0 = 0 then (fan0.2.2.map (stopF fan0.1 fan0.2.1), 0, ()) else ([], checkF fan0, ()) : List Int × Int × Unit) = ([1, 3], 0, ()) := by decide +kernel
  show K _
  rw [e]; exact h
theorem w32 {K : Int × Int × Int × Unit → Prop} (h : K (0, 18, 0, ())) : f32_wp (fan0, 100, ()) () K := by
  have e : widenF fan0 100 = (0, 18, 0, ()) := by decide +kernel
  show K (widenF fan0 100)
  rw [e]; exact h
theorem w25 {K : List Int × Int × Unit → Prop} (h : K ([0], 0, ())) : f25_wp (fan0, (10, 14), ()) () K := by
  have e : wrongF fan0 (10, 14) = ([0], 0, ()) := by decide +kernel
  refine ⟨fun _ _ _ _ => by show 2 ≤ 12; omega, ?_⟩
  show K (wrongF fan0 (10, 14))
  rw [e]; exact h
theorem w30 {K : Int × Int × Unit → Prop} (h : K (5, 0, ())) : f30_wp (fan0, 45, ()) () K := by
  have e : sticksF fan0 45 = (5, 0, ()) := by decide +kernel
  show K (sticksF fan0 45)
  rw [e]; exact h
theorem w31 {K : Int × Int × Unit → Prop} (h : K (235, 0, ())) : f31_wp (fan0, 18, ()) () K := by
  have e : pleatF fan0 18 = (235, 0, ()) := by decide +kernel
  show K (pleatF fan0 18)
  rw [e]; exact h
theorem w17 {K : Ratio × Ratio × Int × Unit → Prop} (h : K ((80, 1), (650, 7), 0, ())) : f17_wp [((100, 120), (1, 1), 50), ((30, 40), (1, 1), 200)] () K := by
  have e : balanceF [((100, 120), (1, 1), 50), ((30, 40), (1, 1), 200)] = ((80, 1), (650, 7), 0, ()) := by decide +kernel
  show K (balanceF _)
  rw [e]; exact h
theorem p10 {Q : Bool → Prop} (h : f10_wp () () Q) : V10 Q := by
  unfold V10 f39_wp f27_wp
  refine w28 ?_
  refine w12 ?_
  refine w32 ?_
  refine w25 ?_
  refine w30 ?_
  refine w31 ?_
  refine w17 ?_
  refine cndF (cndF (cndF (cndF (cndF (cndF (cndF ⟨_, rfl, cndT ⟨_, rfl, cndT (cndT (cndT ⟨_, rfl, cndT (cndT (cndT (cndT h)))⟩))⟩⟩))))))
theorem cnd_of {c : Bool} {p q : Prop} (hc : c = true) (h : p) : cnd c p q := by rw [hc]; exact h
theorem cnd_not {c : Bool} {p q : Prop} (hc : c = false) (h : q) : cnd c p q := by rw [hc]; exact h
theorem p3 {f : Fan} {Q : Bool → Prop} (h : f3_wp f () Q) : V3 f Q := by
  have h : Q true := h
  intro hl
  refine cnd_iff.2 ⟨fun c => h, fun c => ?_⟩
  have c : ¬ (f.2.2.length : Int) > 50 := of_decide_eq_false c
  refine ⟨by show f.2.2.length ≤ 1000000; omega, ?_⟩
  show cnd (!decide (f = f)) (Q false) (cnd (checkF f != 0) _ _)
  refine cnd_not (by simp) ?_
  refine cnd_iff.2 ⟨fun d => ?_, fun d => ?_⟩
  · have d := bne0.1.1 d
    have e : (if checkF f = 0 then (f.2.2.map (stopF f.1 f.2.1), 0, ()) else ([], checkF f, ()) : List Int × Int × Unit) = ([], checkF f, ()) := if_neg d
    show cnd ((if checkF f = 0 then (f.2.2.map (stopF f.1 f.2.1), 0, ()) else ([], checkF f, ()) : List Int × Int × Unit).2.1 == checkF f) ((if checkF f = 0 then (f.2.2.map (stopF f.1 f.2.1), 0, ()) else ([], checkF f, ()) : List Int × Int × Unit).1.length ≤ _ → cnd (((if checkF f = 0 then (f.2.2.map (stopF f.1 f.2.1), 0, ()) else ([], checkF f, ()) : List Int × Int × Unit).1.length : Int) == 0) _ _) _
    rw [e]
    exact cnd_of (by simp) fun _ => cnd_of rfl h
  · have d := bne0.2.1 d
    have ho := checkF_ok.1 d
    have e : (if checkF f = 0 then (f.2.2.map (stopF f.1 f.2.1), 0, ()) else ([], checkF f, ()) : List Int × Int × Unit) = (f.2.2.map (stopF f.1 f.2.1), 0, ()) := if_pos d
    have key : ∀ z : List Int × Int × Unit, z = (f.2.2.map (stopF f.1 f.2.1), 0, ()) → cnd (z.2.1 != 0) (Q false) (z.1.length ≤ 9223372036854775807 → f.2.2.length ≤ 9223372036854775807 → cnd ((z.1.length : Int) != (f.2.2.length : Int)) (Q false) (∃ (I : Int → Prop) (μ : Int → Nat), I 0 ∧ ∀ x, I x → z.1.length ≤ 9223372036854775807 → cnd (decide (x < (z.1.length : Int))) (0 ≤ x ∧ x < (z.1.length : Int) ∧ 0 ≤ x ∧ x < (f.2.2.length : Int) ∧ ∃ r : Int, (f15_wp (f, f.2.2.getD x.toNat g0, ()) () fun r' => r' = r) ∧ cnd (z.1.getD x.toNat 0 != r) (Q false) (I (IntKind.wrap .i64 (x + 1)) ∧ μ (IntKind.wrap .i64 (x + 1)) < μ x)) (f10_wp () () fun r => Q r))) := by
      rintro z rfl
      refine cndF fun _ _ => ?_
      have hlen : (f.2.2.map (stopF f.1 f.2.1)).length = f.2.2.length := by simp
      refine cnd_not (by simp) ?_
      refine forUpGL (n := (f.2.2.map (stopF f.1 f.2.1)).length) (fun _ => True) trivial (body := fun I μ x => 0 ≤ x ∧ x < ((f.2.2.map (stopF f.1 f.2.1)).length : Int) ∧ 0 ≤ x ∧ x < (f.2.2.length : Int) ∧ ∃ r : Int, (f15_wp (f, f.2.2.getD x.toNat g0, ()) () fun r' => r' = r) ∧ cnd ((f.2.2.map (stopF f.1 f.2.1)).getD x.toNat 0 != r) (Q false) (I (IntKind.wrap .i64 (x + 1)) ∧ μ (IntKind.wrap .i64 (x + 1)) < μ x)) (e := fun _ => f10_wp () () fun r => Q r) (fun k hk _ _ I μ hI hw => ?_) (fun _ => h)
      have hk' : k < f.2.2.length := by omega
      have hg : gapOK (f.2.2.getD k g0) = true := by
        have := ho.g _ (getD_mem (d := g0) hk')
        unfold gapOK
        rw [Bool.and_eq_true, isSpan_iff, isSpan_iff]; omega
      refine ⟨by omega, by omega, by omega, by omega, _, ⟨⟨ho, hg⟩, rfl⟩, ?_⟩
      rw [hw]
      refine cnd_not ?_ (hI trivial)
      show ((f.2.2.map (stopF f.1 f.2.1)).getD k 0 != stopF f.1 f.2.1 (f.2.2.getD k g0)) = false
      rw [getD_lt hk, getD_lt hk']
      simp
    exact key _ e
end Go.Proofs.Rv
set_option maxRecDepth 100000
namespace Go.Proofs.Rv
open Go Go.GX Go.Proofs
variable [Inhabited BaseD]
theorem ok27 : CallsOK Try.prog (assoc glT) 27 f27_ct :=
  callsOK_E (env (ct := []) (ios := []) (hos := []) (lits := []) AllOK.nil AllW.nil AllH.nil) no_an Try.func27 (by kernel_rfl) (by kernel_rfl) f27_ct fun ⟨a, b, _⟩ _ Q h => (v27 a b Q).mp (p27 h)
theorem ok16 : CallsOK Try.prog (assoc glT) 16 f16_ct :=
  callsOK_E (env (ct := []) (ios := []) (hos := []) (lits := []) AllOK.nil AllW.nil AllH.nil) no_an Try.func16 (by kernel_rfl) (by kernel_rfl) f16_ct fun l _ Q h => (v16 l Q).mp (p16 h)
theorem ok39 : CallsOK Try.prog (assoc glT) 39 f39_ct :=
  callsOK_E (env (ct := [(27, f27_ct)]) (ios := []) (hos := []) (lits := [108]) (AllOK.cons ok27 AllOK.nil) AllW.nil AllH.nil) no_an Try.func39 (by kernel_rfl) (by kernel_rfl) f39_ct fun () _ Q h => (v39  Q).mp (p39 h)
theorem ok29 : CallsOK Try.prog (assoc glT) 29 f29_ct :=
  callsOK_E (env (ct := []) (ios := []) (hos := []) (lits := []) AllOK.nil AllW.nil AllH.nil) no_an Try.func29 (by kernel_rfl) (by kernel_rfl) f29_ct fun ⟨b, i, _⟩ _ Q h => (v29 b i Q).mp (p29 h)
theorem ok37 : CallsOK Try.prog (assoc glT) 37 f37_ct :=
  callsOK_E (env (ct := []) (ios := []) (hos := []) (lits := []) AllOK.nil AllW.nil AllH.nil) no_an Try.func37 (by kernel_rfl) (by kernel_rfl) f37_ct fun ⟨s, b, _⟩ _ Q h => (v37 s b Q).mp (p37 h)
set_option maxHeartbeats 2000000 in
theorem ok10 : CallsOK Try.prog (assoc glT) 10 f10_ct :=
  callsOK_E (env (ct := [(39, f39_ct), (28, f28_ct), (12, f12_ct), (32, f32_ct), (27, f27_ct), (25, f25_ct), (30, f30_ct), (31, f31_ct), (17, f17_ct), (40, f40_ct), (41, f41_ct)]) (ios := []) (hos := []) (lits := []) (AllOK.cons ok39 (AllOK.cons ok28 (AllOK.cons ok12 (AllOK.cons ok32 (AllOK.cons ok27 (AllOK.cons ok25 (AllOK.cons ok30 (AllOK.cons ok31 (AllOK.cons ok17 (AllOK.cons ok40 (AllOK.cons ok41 AllOK.nil))))))))))) AllW.nil AllH.nil) no_an Try.func10 (by kernel_rfl) (by kernel_rfl) f10_ct fun () () Q h => (v10 Q).mp (p10 (Q := Q) h)
end Go.Proofs.Rv
set_option linter.unusedVariables false
set_option maxRecDepth 100000
namespace Go.Proofs.Rv
open Go Go.GX Go.Proofs

def leR (a b : Ratio) : Prop := a.1 * b.2 ≤ b.1 * a.2
theorem leR_refl (a : Ratio) : leR a a := Int.le_refl _
theorem leR_trans {a b c : Ratio} (ha : 1 ≤ a.2) (hb : 1 ≤ b.2) (hc : 1 ≤ c.2) (h1 : leR a b) (h2 : leR b c) : leR a c := by
  unfold leR at *
  have e1 := Int.mul_le_mul_of_nonneg_right h1 (show 0 ≤ c.2 by omega)
  have e2 := Int.mul_le_mul_of_nonneg_right h2 (show 0 ≤ a.2 by omega)
  have a1 : a.1 * b.2 * c.2 = a.1 * c.2 * b.2 := by rw [Int.mul_assoc, Int.mul_comm b.2 c.2, ← Int.mul_assoc]
  have a2 : b.1 * a.2 * c.2 = b.1 * c.2 * a.2 := by rw [Int.mul_assoc, Int.mul_comm a.2 c.2, ← Int.mul_assoc]
  have a3 : c.1 * b.2 * a.2 = c.1 * a.2 * b.2 := by rw [Int.mul_assoc, Int.mul_comm b.2 a.2, ← Int.mul_assoc]
  exact Int.le_of_mul_le_mul_right (show a.1 * c.2 * b.2 ≤ c.1 * a.2 * b.2 by omega) (by omega)
inductive Att : List Stick → Ratio → Prop
  | nil : Att [] (0, 0)
  | cons {s : Stick} {t : List Stick} {r : Ratio} {w : Int} : w = s.1.1 ∨ w = s.1.2 → Att t r → Att (s :: t) (r.1 + w * s.2.2, r.2 + w)
theorem Att.perm {l l' : List Stick} (hp : l.Perm l') : ∀ {r : Ratio}, Att l r → Att l' r := by
  induction hp with
  | nil => intro r h; exact h
  | cons x _ ih =>
    intro r h
    cases h with
    | cons hw ht => exact .cons hw (ih ht)
  | swap x y l =>
    intro r h
    cases h with
    | @cons _ _ r1 w hw ht =>
      cases ht with
      | @cons _ _ r2 w2 hw2 ht =>
        have := Att.cons hw2 (Att.cons hw ht)
        have e : ((r2.1 + w * y.2.2 + w2 * x.2.2, r2.2 + w + w2) : Ratio) = (r2.1 + w2 * x.2.2 + w * y.2.2, r2.2 + w2 + w) := by
          refine Prod.ext ?_ ?_ <;> dsimp only <;> omega
        exact e ▸ this
  | trans _ _ ih1 ih2 => intro r h; exact ih2 (ih1 h)
theorem Att.snoc {A : List Stick} {s : Stick} {r : Ratio} {w : Int} (hw : w = s.1.1 ∨ w = s.1.2) (h : Att A r) : Att (A ++ [s]) (r.1 + w * s.2.2, r.2 + w) :=
  (Att.cons hw h).perm (List.perm_append_comm (l₁ := [s]) (l₂ := A))
theorem Att.unsnoc {A : List Stick} {s : Stick} {r : Ratio} (h : Att (A ++ [s]) r) : ∃ r' w, (w = s.1.1 ∨ w = s.1.2) ∧ Att A r' ∧ r = (r'.1 + w * s.2.2, r'.2 + w) := by
  have h := h.perm (List.perm_append_comm (l₁ := A) (l₂ := [s]))
  cases h with
  | cons hw ht => exact ⟨_, _, hw, ht, rfl⟩
theorem cen_att {l : List Stick} {e : Nat → Span → Int} (he : ∀ i s, e i s = s.1 ∨ e i s = s.2) : ∀ k, k ≤ l.length → Att (l.take k) (cenK l e k)
  | 0, _ => .nil
  | k + 1, hk => by
    rw [take_succ_getD (d := s0) (show k < l.length from hk), cenK_succ]
    exact (cen_att he k (by omega)).snoc (he k _)
theorem cen_congr {l : List Stick} {e e' : Nat → Span → Int} : ∀ k, (∀ i, i < k → e i (l.getD i s0).1 = e' i (l.getD i s0).1) → cenK l e k = cenK l e' k
  | 0, _ => rfl
  | k + 1, h => by rw [cenK_succ, cenK_succ, cen_congr k (fun i hi => h i (by omega)), h k (by omega)]
theorem att_set {l : List Stick} : ∀ k, k ≤ l.length → ∀ {r : Ratio}, Att (l.take k) r → ∃ set, set < 2 ^ k ∧ cenK l (bitE set) k = r
  | 0, _, r, h => by
    cases h
    exact ⟨0, by decide, rfl⟩
  | k + 1, hk, r, h => by
    rw [take_succ_getD (d := s0) (show k < l.length from hk)] at h
    obtain ⟨r', w, hw, hr, rfl⟩ := h.unsnoc
    obtain ⟨set, hs, hc⟩ := att_set k (by omega) hr
    have hp : 2 ^ (k + 1) = 2 ^ k + 2 ^ k := by rw [Nat.pow_succ]; omega
    have hb : set.testBit k = false := Nat.testBit_lt_two_pow hs
    rcases hw with rfl | rfl
    · refine ⟨set, by omega, ?_⟩
      rw [cenK_succ, hc]
      have : bitE set k (l.getD k s0).1 = (l.getD k s0).1.1 := by unfold bitE; rw [if_neg (by rw [hb]; simp)]
      rw [this]
    · refine ⟨2 ^ k + set, by omega, ?_⟩
      have hb2 : (2 ^ k + set).testBit k = true := by rw [Nat.testBit_two_pow_add_eq, hb]; rfl
      have hc2 : cenK l (bitE (2 ^ k + set)) k = cenK l (bitE set) k := cen_congr k fun i hi => by
        unfold bitE
        rw [Nat.testBit_two_pow_add_gt hi]
      rw [cenK_succ, hc2, hc]
      have : bitE (2 ^ k + set) k (l.getD k s0).1 = (l.getD k s0).1.2 := by unfold bitE; rw [if_pos hb2]
      rw [this]
theorem att_all {l : List Stick} {r : Ratio} (h : Att l r) : ∃ set, set < 2 ^ l.length ∧ setC l set = r :=
  att_set l.length (Nat.le_refl _) (by rwa [List.take_length])
theorem end_att {s : List Stick} {p q : Span → Int} (hp : IsEnd p) (hq : IsEnd q) (i : Nat) : Att s (cenK s (endF i p q) s.length) := by
  have := cen_att (l := s) (e := endF i p q) (end_two hp hq) s.length (Nat.le_refl _)
  rwa [List.take_length] at this
theorem att_good {l : List Stick} (h : SticksOK l) (h0 : l.length ≠ 0) {r : Ratio} (hr : Att l r) : goodR r := by
  obtain ⟨set, _, rfl⟩ := att_all hr
  exact set_good h h0 set

theorem phi_le {l : List Stick} {e e' : Nat → Span → Int} {N D : Int} : ∀ k, (∀ i, i < k → e i (l.getD i s0).1 * ((l.getD i s0).2.2 * D - N) ≤ e' i (l.getD i s0).1 * ((l.getD i s0).2.2 * D - N)) → (cenK l e k).1 * D - N * (cenK l e k).2 ≤ (cenK l e' k).1 * D - N * (cenK l e' k).2
  | 0, _ => Int.le_refl _
  | k + 1, h => by
    have h1 := phi_le k (fun i hi => h i (by omega))
    have h2 := h k (by omega)
    rw [cenK_succ, cenK_succ]
    dsimp only
    have ex : ∀ a b w p : Int, (a + w * p) * D - N * (b + w) = (a * D - N * b) + w * (p * D - N) := fun a b w p => by
      rw [Int.add_mul, Int.mul_add, Int.mul_sub, Int.mul_assoc w p D, Int.mul_comm w N]; omega
    rw [ex, ex]
    omega
theorem sort_asc (l : List Stick) : (sortP l).Pairwise fun a b => a.2.2 ≤ b.2.2 := by
  have := insSort_sorted (c := fun a b : Stick => a.2.2 - b.2.2) (key := fun a => -a.2.2) (xs := l) (fun x _ y _ => by omega)
  exact this.imp (fun h => by omega)
theorem asc_getD {s : List Stick} (h : s.Pairwise fun a b => a.2.2 ≤ b.2.2) {i j : Nat} (hij : i ≤ j) (hj : j < s.length) : (s.getD i s0).2.2 ≤ (s.getD j s0).2.2 := by
  rcases Nat.lt_or_eq_of_le hij with h1 | rfl
  · rw [getD_lt (by omega), getD_lt hj]
    exact List.pairwise_iff_getElem.1 h i j (by omega) hj h1
  · exact Int.le_refl _
theorem stick_at {s : List Stick} (h : SticksOK s) {i : Nat} (hi : i < s.length) : (s.getD i s0).1.1 ≤ (s.getD i s0).1.2 := (h.s _ (getD_mem hi)).1.2.1
theorem near_le {s : List Stick} (h : SticksOK s) (hs : s.Pairwise fun a b => a.2.2 ≤ b.2.2) (set : Nat) : ∃ i, i ≤ s.length ∧ leR (nearC s i) (setC s set) := by
  obtain ⟨N, hN⟩ : ∃ N, N = (setC s set).1 := ⟨_, rfl⟩
  obtain ⟨D, hD⟩ : ∃ D, D = (setC s set).2 := ⟨_, rfl⟩
  obtain ⟨i, hi⟩ : ∃ i, i = s.findIdx fun x => !decide (x.2.2 * D ≤ N) := ⟨_, rfl⟩
  have hil : i ≤ s.length := by rw [hi]; exact List.findIdx_le_length
  by_cases hD0 : 0 ≤ D
  rotate_left
  · exfalso
    have := (cen_le (l := s) (e := bitE set) (fun i x hx => by have := h.s x hx; rcases bit_two set i x.1 with hb | hb <;> rw [hb] <;> omega) s.length (Nat.le_refl _)).2.1
    rw [hD] at hD0
    exact hD0 this
  refine ⟨i, hil, ?_⟩
  have lt : ∀ k, k < i → (s.getD k s0).2.2 * D ≤ N := fun k hk => by
    have := List.not_of_lt_findIdx (p := fun x : Stick => !decide (x.2.2 * D ≤ N)) (xs := s) (i := k) (by omega)
    rw [getD_lt (by omega)]
    simpa using this
  have ge : ∀ k, i ≤ k → k < s.length → N < (s.getD k s0).2.2 * D := fun k hk hks => by
    have hw : s.findIdx (fun x => !decide (x.2.2 * D ≤ N)) < s.length := by omega
    have := List.findIdx_getElem (w := hw)
    have h1 := asc_getD hs hk hks
    have h2 : N < (s.getD i s0).2.2 * D := by
      rw [hi, getD_lt hw]
      simpa using this
    have h3 := Int.mul_le_mul_of_nonneg_right h1 hD0
    omega
  have := phi_le (l := s) (e := endF i hiE loE) (e' := bitE set) (N := N) (D := D) s.length fun k hk => by
    have hst := stick_at h hk
    by_cases hki : k < i
    · have e1 : endF i hiE loE k (s.getD k s0).1 = (s.getD k s0).1.2 := by unfold endF; rw [if_pos (by omega)]; rfl
      have := lt k hki
      rw [e1]
      refine Int.mul_le_mul_of_nonpos_right ?_ (by omega)
      rcases bit_two set k (s.getD k s0).1 with hb | hb <;> rw [hb] <;> omega
    · have e1 : endF i hiE loE k (s.getD k s0).1 = (s.getD k s0).1.1 := by unfold endF; rw [if_neg (by omega)]; rfl
      have := ge k (by omega) hk
      rw [e1]
      refine Int.mul_le_mul_of_nonneg_right ?_ (by omega)
      rcases bit_two set k (s.getD k s0).1 with hb | hb <;> rw [hb] <;> omega
  change (nearC s i).1 * D - N * (nearC s i).2 ≤ (setC s set).1 * D - N * (setC s set).2 at this
  unfold leR
  rw [← hN, ← hD] at *
  omega
theorem far_ge {s : List Stick} (h : SticksOK s) (hs : s.Pairwise fun a b => a.2.2 ≤ b.2.2) (set : Nat) : ∃ i, i ≤ s.length ∧ leR (setC s set) (farC s i) := by
  obtain ⟨N, hN⟩ : ∃ N, N = (setC s set).1 := ⟨_, rfl⟩
  obtain ⟨D, hD⟩ : ∃ D, D = (setC s set).2 := ⟨_, rfl⟩
  obtain ⟨i, hi⟩ : ∃ i, i = s.findIdx fun x => !decide (x.2.2 * D ≤ N) := ⟨_, rfl⟩
  have hil : i ≤ s.length := by rw [hi]; exact List.findIdx_le_length
  by_cases hD0 : 0 ≤ D
  rotate_left
  · exfalso
    have := (cen_le (l := s) (e := bitE set) (fun i x hx => by have := h.s x hx; rcases bit_two set i x.1 with hb | hb <;> rw [hb] <;> omega) s.length (Nat.le_refl _)).2.1
    rw [hD] at hD0
    exact hD0 this
  refine ⟨i, hil, ?_⟩
  have lt : ∀ k, k < i → (s.getD k s0).2.2 * D ≤ N := fun k hk => by
    have := List.not_of_lt_findIdx (p := fun x : Stick => !decide (x.2.2 * D ≤ N)) (xs := s) (i := k) (by omega)
    rw [getD_lt (by omega)]
    simpa using this
  have ge : ∀ k, i ≤ k → k < s.length → N < (s.getD k s0).2.2 * D := fun k hk hks => by
    have hw : s.findIdx (fun x => !decide (x.2.2 * D ≤ N)) < s.length := by omega
    have := List.findIdx_getElem (w := hw)
    have h1 := asc_getD hs hk hks
    have h2 : N < (s.getD i s0).2.2 * D := by
      rw [hi, getD_lt hw]
      simpa using this
    have h3 := Int.mul_le_mul_of_nonneg_right h1 hD0
    omega
  have := phi_le (l := s) (e := bitE set) (e' := endF i loE hiE) (N := N) (D := D) s.length fun k hk => by
    have hst := stick_at h hk
    by_cases hki : k < i
    · have e1 : endF i loE hiE k (s.getD k s0).1 = (s.getD k s0).1.1 := by unfold endF; rw [if_pos (by omega)]; rfl
      have := lt k hki
      rw [e1]
      refine Int.mul_le_mul_of_nonpos_right ?_ (by omega)
      rcases bit_two set k (s.getD k s0).1 with hb | hb <;> rw [hb] <;> omega
    · have e1 : endF i loE hiE k (s.getD k s0).1 = (s.getD k s0).1.2 := by unfold endF; rw [if_neg (by omega)]; rfl
      have := ge k (by omega) hk
      rw [e1]
      refine Int.mul_le_mul_of_nonneg_right ?_ (by omega)
      rcases bit_two set k (s.getD k s0).1 with hb | hb <;> rw [hb] <;> omega
  change (setC s set).1 * D - N * (setC s set).2 ≤ (farC s i).1 * D - N * (farC s i).2 at this
  unfold leR
  rw [← hN, ← hD] at *
  omega

theorem balK_near {s : List Stick} (h : SticksOK s) (h0 : s.length ≠ 0) : ∀ k, (∀ i, i < k → leR (balK s k).1 (nearC s i)) ∧ ∃ j, (balK s k).1 = nearC s j
  | 0 => ⟨fun i hi => absurd hi (Nat.not_lt_zero _), 0, rfl⟩
  | k + 1 => by
    obtain ⟨h1, j, h2⟩ := balK_near h h0 k
    have g := (balK_good h h0 k).1
    have gk := near_good h h0 k
    rw [balK_succ]
    dsimp only
    split
    · rename_i hc
      refine ⟨fun i hi => ?_, k, rfl⟩
      rcases Nat.lt_succ_iff_lt_or_eq.1 hi with hi | rfl
      · exact leR_trans gk.2.1 g.2.1 (near_good h h0 i).2.1 (by unfold leR; omega) (h1 i hi)
      · exact leR_refl _
    · rename_i hc
      refine ⟨fun i hi => ?_, j, h2⟩
      rcases Nat.lt_succ_iff_lt_or_eq.1 hi with hi | rfl
      · exact h1 i hi
      · unfold leR; omega
theorem balK_far {s : List Stick} (h : SticksOK s) (h0 : s.length ≠ 0) : ∀ k, (∀ i, i < k → leR (farC s i) (balK s k).2) ∧ Att s (balK s k).2
  | 0 => ⟨fun i hi => absurd hi (Nat.not_lt_zero _), end_att hi_end lo_end 0⟩
  | k + 1 => by
    obtain ⟨h1, h2⟩ := balK_far h h0 k
    have g := (balK_good h h0 k).2
    have gk := far_good h h0 k
    rw [balK_succ]
    dsimp only
    split
    · rename_i hc
      refine ⟨fun i hi => ?_, end_att lo_end hi_end k⟩
      rcases Nat.lt_succ_iff_lt_or_eq.1 hi with hi | rfl
      · exact leR_trans (far_good h h0 i).2.1 g.2.1 gk.2.1 (h1 i hi) (by unfold leR; omega)
      · exact leR_refl _
    · rename_i hc
      refine ⟨fun i hi => ?_, h2⟩
      rcases Nat.lt_succ_iff_lt_or_eq.1 hi with hi | rfl
      · exact h1 i hi
      · unfold leR; omega
theorem bal_low {l : List Stick} (h : SticksOK l) (h0 : l.length ≠ 0) {r : Ratio} (hr : Att l r) : leR (balK (sortP l) (l.length + 1)).1 r := by
  have so := sort_ok h
  have hl : (sortP l).length = l.length := (sort_perm l).length_eq
  obtain ⟨set, _, rfl⟩ := att_all (hr.perm (sort_perm l).symm)
  obtain ⟨i, hi, hle⟩ := near_le so (sort_asc l) set
  have hb := balK_near so (by omega) (l.length + 1)
  exact leR_trans (balK_good so (by omega) _).1.2.1 (near_good so (by omega) i).2.1 (set_good so (by omega) set).2.1 (hb.1 i (by omega)) hle
theorem bal_high {l : List Stick} (h : SticksOK l) (h0 : l.length ≠ 0) {r : Ratio} (hr : Att l r) : leR r (balK (sortP l) (l.length + 1)).2 := by
  have so := sort_ok h
  have hl : (sortP l).length = l.length := (sort_perm l).length_eq
  obtain ⟨set, _, rfl⟩ := att_all (hr.perm (sort_perm l).symm)
  obtain ⟨i, hi, hle⟩ := far_ge so (sort_asc l) set
  have hb := balK_far so (by omega) (l.length + 1)
  exact leR_trans (set_good so (by omega) set).2.1 (far_good so (by omega) i).2.1 (balK_good so (by omega) _).2.2.1 hle (hb.1 i (by omega))
theorem bal_att {l : List Stick} (h : SticksOK l) (h0 : l.length ≠ 0) : Att l (balK (sortP l) (l.length + 1)).1 ∧ Att l (balK (sortP l) (l.length + 1)).2 := by
  have so := sort_ok h
  have hl : (sortP l).length = l.length := (sort_perm l).length_eq
  obtain ⟨j, hj⟩ := (balK_near so (by omega) (l.length + 1)).2
  refine ⟨?_, (balK_far so (by omega) (l.length + 1)).2.perm (sort_perm l)⟩
  rw [hj]
  exact (end_att hi_end lo_end j).perm (sort_perm l)
end Go.Proofs.Rv
set_option linter.unusedVariables false
set_option maxRecDepth 100000
namespace Go.Proofs.Rv
open Go Go.GX Go.Proofs

inductive AttR : List Stick → Ratio → Prop
  | nil : AttR [] (0, 0)
  | cons {s : Stick} {t : List Stick} {r : Ratio} {w : Int} : s.1.1 ≤ w ∧ w ≤ s.1.2 → AttR t r → AttR (s :: t) (r.1 + w * s.2.2, r.2 + w)
theorem AttR.perm {l l' : List Stick} (hp : l.Perm l') : ∀ {r : Ratio}, AttR l r → AttR l' r := by
  induction hp with
  | nil => intro r h; exact h
  | cons x _ ih =>
    intro r h
    cases h with
    | cons hw ht => exact .cons hw (ih ht)
  | swap x y l =>
    intro r h
    cases h with
    | @cons _ _ r1 w hw ht =>
      cases ht with
      | @cons _ _ r2 w2 hw2 ht =>
        have := AttR.cons hw2 (AttR.cons hw ht)
        have e : ((r2.1 + w * y.2.2 + w2 * x.2.2, r2.2 + w + w2) : Ratio) = (r2.1 + w2 * x.2.2 + w * y.2.2, r2.2 + w2 + w) := by
          refine Prod.ext ?_ ?_ <;> dsimp only <;> omega
        exact e ▸ this
  | trans _ _ ih1 ih2 => intro r h; exact ih2 (ih1 h)
theorem AttR.snoc {A : List Stick} {s : Stick} {r : Ratio} {w : Int} (hw : s.1.1 ≤ w ∧ w ≤ s.1.2) (h : AttR A r) : AttR (A ++ [s]) (r.1 + w * s.2.2, r.2 + w) :=
  (AttR.cons hw h).perm (List.perm_append_comm (l₁ := [s]) (l₂ := A))
theorem AttR.unsnoc {A : List Stick} {s : Stick} {r : Ratio} (h : AttR (A ++ [s]) r) : ∃ r' w, (s.1.1 ≤ w ∧ w ≤ s.1.2) ∧ AttR A r' ∧ r = (r'.1 + w * s.2.2, r'.2 + w) := by
  have h := h.perm (List.perm_append_comm (l₁ := A) (l₂ := [s]))
  cases h with
  | cons hw ht => exact ⟨_, _, hw, ht, rfl⟩
theorem attR_fun {l : List Stick} : ∀ k, k ≤ l.length → ∀ {r : Ratio}, AttR (l.take k) r → ∃ e : Nat → Int, (∀ i, i < k → (l.getD i s0).1.1 ≤ e i ∧ e i ≤ (l.getD i s0).1.2) ∧ cenK l (fun i _ => e i) k = r
  | 0, _, r, h => by
    cases h
    exact ⟨fun _ => 0, fun i hi => absurd hi (Nat.not_lt_zero _), rfl⟩
  | k + 1, hk, r, h => by
    rw [take_succ_getD (d := s0) (show k < l.length from hk)] at h
    obtain ⟨r', w, hw, hr, rfl⟩ := h.unsnoc
    obtain ⟨e, he, hc⟩ := attR_fun k (by omega) hr
    refine ⟨fun i => if i = k then w else e i, fun i hi => ?_, ?_⟩
    · by_cases hik : i = k
      · subst hik
        dsimp only
        rw [if_pos rfl]; exact hw
      · dsimp only
        rw [if_neg hik]; exact he i (by omega)
    · have hc2 : cenK l (fun i _ => if i = k then w else e i) k = cenK l (fun i _ => e i) k := cen_congr k fun i hi => by
        rw [if_neg (by omega)]
      rw [cenK_succ, hc2, hc]
      dsimp only
      rw [if_pos rfl]
theorem attR_all {l : List Stick} {r : Ratio} (h : AttR l r) : ∃ e : Nat → Int, (∀ i, i < l.length → (l.getD i s0).1.1 ≤ e i ∧ e i ≤ (l.getD i s0).1.2) ∧ cenK l (fun i _ => e i) l.length = r :=
  attR_fun l.length (Nat.le_refl _) (by rwa [List.take_length])
theorem Att.R {l : List Stick} {r : Ratio} (h : Att l r) (ho : ∀ s, s ∈ l → s.1.1 ≤ s.1.2) : AttR l r := by
  induction h with
  | nil => exact .nil
  | @cons s t r w hw _ ih =>
    have := ho s (by simp)
    exact .cons (by omega) (ih fun x hx => ho x (by simp [hx]))
theorem attR_pos {l : List Stick} (h : SticksOK l) {r : Ratio} (hr : AttR l r) : (0 ≤ r.1 ∧ r.1 ≤ 50000000 * l.length) ∧ (l.length : Int) ≤ r.2 ∧ r.2 ≤ 10000 * l.length := by
  have hs := h.s
  clear h
  induction hr with
  | nil => simp
  | @cons s t r w hw _ ih =>
    have := ih fun x hx => hs x (by simp [hx])
    have h1 := hs s (by simp)
    have h2 := mulB (show 0 ≤ w by omega) (show w ≤ 10000 by omega) h1.2.2.1 h1.2.2.2
    simp only [List.length_cons]
    push_cast
    omega

def upE (l : List Stick) (N D : Int) (i : Nat) (s : Span) : Int := if (l.getD i s0).2.2 * D ≤ N then s.2 else s.1
def dnE (l : List Stick) (N D : Int) (i : Nat) (s : Span) : Int := if (l.getD i s0).2.2 * D ≤ N then s.1 else s.2
theorem up_phi {l : List Stick} {e : Nat → Int} (he : ∀ i, i < l.length → (l.getD i s0).1.1 ≤ e i ∧ e i ≤ (l.getD i s0).1.2) (N D : Int) :
    (cenK l (upE l N D) l.length).1 * D - N * (cenK l (upE l N D) l.length).2 ≤ (cenK l (fun i _ => e i) l.length).1 * D - N * (cenK l (fun i _ => e i) l.length).2 :=
  phi_le (l := l) l.length fun k hk => by
    have := he k hk
    unfold upE
    split
    · exact Int.mul_le_mul_of_nonpos_right this.2 (by omega)
    · exact Int.mul_le_mul_of_nonneg_right this.1 (by omega)
theorem dn_phi {l : List Stick} {e : Nat → Int} (he : ∀ i, i < l.length → (l.getD i s0).1.1 ≤ e i ∧ e i ≤ (l.getD i s0).1.2) (N D : Int) :
    (cenK l (fun i _ => e i) l.length).1 * D - N * (cenK l (fun i _ => e i) l.length).2 ≤ (cenK l (dnE l N D) l.length).1 * D - N * (cenK l (dnE l N D) l.length).2 :=
  phi_le (l := l) l.length fun k hk => by
    have := he k hk
    unfold dnE
    split
    · exact Int.mul_le_mul_of_nonpos_right this.1 (by omega)
    · exact Int.mul_le_mul_of_nonneg_right this.2 (by omega)
theorem up_two (l : List Stick) (N D : Int) (i : Nat) (s : Span) : upE l N D i s = s.1 ∨ upE l N D i s = s.2 := by
  unfold upE
  split
  · exact .inr rfl
  · exact .inl rfl
theorem dn_two (l : List Stick) (N D : Int) (i : Nat) (s : Span) : dnE l N D i s = s.1 ∨ dnE l N D i s = s.2 := by
  unfold dnE
  split
  · exact .inl rfl
  · exact .inr rfl
theorem up_att (l : List Stick) (N D : Int) : Att l (cenK l (upE l N D) l.length) := by
  have := cen_att (l := l) (up_two l N D) l.length (Nat.le_refl _)
  rwa [List.take_length] at this
theorem dn_att (l : List Stick) (N D : Int) : Att l (cenK l (dnE l N D) l.length) := by
  have := cen_att (l := l) (dn_two l N D) l.length (Nat.le_refl _)
  rwa [List.take_length] at this

theorem balR_low {l : List Stick} (h : SticksOK l) (h0 : l.length ≠ 0) {r : Ratio} (hr : AttR l r) : leR (balK (sortP l) (l.length + 1)).1 r := by
  have hp := attR_pos h hr
  obtain ⟨e, he, hc⟩ := attR_all hr
  have h1 := up_phi he r.1 r.2
  rw [hc] at h1
  have ha := up_att l r.1 r.2
  have hg := att_good h h0 ha
  have h2 := bal_low h h0 ha
  have hb := att_good h h0 (bal_att h h0).1
  have hm : r.1 * r.2 - r.1 * r.2 = 0 := by omega
  exact leR_trans hb.2.1 hg.2.1 (by omega) h2 (by unfold leR; omega)
theorem balR_high {l : List Stick} (h : SticksOK l) (h0 : l.length ≠ 0) {r : Ratio} (hr : AttR l r) : leR r (balK (sortP l) (l.length + 1)).2 := by
  have hp := attR_pos h hr
  obtain ⟨e, he, hc⟩ := attR_all hr
  have h1 := dn_phi he r.1 r.2
  rw [hc] at h1
  have ha := dn_att l r.1 r.2
  have hg := att_good h h0 ha
  have h2 := bal_high h h0 ha
  have hb := att_good h h0 (bal_att h h0).2
  exact leR_trans (by omega) hg.2.1 hb.2.1 (by unfold leR; omega) h2

theorem low_mul {r : Ratio} : ∃ g : Int, r.1 = g * (lowF r).1 ∧ r.2 = g * (lowF r).2 ∧ (1 ≤ r.2 → 1 ≤ g) := by
  refine ⟨(Int.gcd r.1 r.2 : Int), ?_, ?_, fun h => ?_⟩
  · exact (Int.mul_ediv_cancel' (Int.gcd_dvd_left _ _)).symm
  · exact (Int.mul_ediv_cancel' (Int.gcd_dvd_right _ _)).symm
  · have := Int.gcd_pos_of_ne_zero_right r.1 (show r.2 ≠ 0 by omega)
    omega
theorem low_leR {r x : Ratio} (h : 1 ≤ r.2) : (leR r x → leR (lowF r) x) ∧ (leR x r → leR x (lowF r)) := by
  obtain ⟨g, h1, h2, h3⟩ := low_mul (r := r)
  have h3 := h3 h
  obtain ⟨y, hy⟩ : ∃ y, y = lowF r := ⟨_, rfl⟩
  rw [← hy] at h1 h2 ⊢
  unfold leR
  rw [h1, h2]
  constructor
  · intro hh
    rw [Int.mul_assoc, Int.mul_left_comm x.1 g] at hh
    exact Int.le_of_mul_le_mul_left hh (by omega)
  · intro hh
    rw [Int.mul_assoc g y.1, Int.mul_left_comm x.1 g] at hh
    exact Int.le_of_mul_le_mul_left hh (by omega)
theorem low_good {r : Ratio} (h : goodR r) : goodR (lowF r) := by
  obtain ⟨g, h1, h2, h3⟩ := low_mul (r := r)
  unfold goodR at h ⊢
  have h3 := h3 h.2.1
  obtain ⟨y, hy⟩ : ∃ y, y = lowF r := ⟨_, rfl⟩
  rw [← hy] at h1 h2 ⊢
  rw [h1, h2] at h
  have y2 : 1 ≤ y.2 := by
    rcases Int.lt_or_le y.2 1 with hh | hh
    · have := Int.mul_le_mul_of_nonneg_left (show y.2 ≤ 0 by omega) (show 0 ≤ g by omega)
      omega
    · exact hh
  have y1 : 0 ≤ y.1 := by
    rcases Int.lt_or_le y.1 0 with hh | hh
    · have := Int.mul_le_mul_of_nonneg_left (show y.1 ≤ -1 by omega) (show 0 ≤ g by omega)
      omega
    · exact hh
  have b1 := Int.mul_le_mul_of_nonneg_right (show 1 ≤ g by omega) y1
  have b2 := Int.mul_le_mul_of_nonneg_right (show 1 ≤ g by omega) (show 0 ≤ y.2 by omega)
  omega

theorem up_eq {l : List Stick} (h : SticksOK l) (h0 : l.length ≠ 0) {y : Ratio} (hy : y = lowF (balK (sortP l) (l.length + 1)).1) : (cenK l (upE l y.1 y.2) l.length).1 * y.2 = y.1 * (cenK l (upE l y.1 y.2) l.length).2 := by
  obtain ⟨a1, _⟩ := bal_att h h0
  have g1 := att_good h h0 a1
  obtain ⟨set, _, hs⟩ := att_all a1
  have hst := h.s
  have h1 := up_phi (l := l) (e := fun i => bitE set i (l.getD i s0).1) (fun i hi => by
    have := (h.s _ (getD_mem (d := s0) hi)).1
    rcases bit_two set i (l.getD i s0).1 with e | e <;> rw [e] <;> omega) y.1 y.2
  have hc : cenK l (fun i _ => bitE set i (l.getD i s0).1) l.length = setC l set := cen_congr _ fun i _ => rfl
  rw [hc, hs] at h1
  obtain ⟨g, m1, m2, m3⟩ := low_mul (r := (balK (sortP l) (l.length + 1)).1)
  rw [← hy] at m1 m2
  have hz : (balK (sortP l) (l.length + 1)).1.1 * y.2 - y.1 * (balK (sortP l) (l.length + 1)).1.2 = 0 := by
    rw [m1, m2, Int.mul_left_comm y.1 g y.2, Int.mul_assoc]; omega
  have h2 := (low_leR g1.2.1).1 (bal_low h h0 (up_att l y.1 y.2))
  rw [← hy] at h2
  unfold leR at h2
  omega
theorem dn_eq {l : List Stick} (h : SticksOK l) (h0 : l.length ≠ 0) {y : Ratio} (hy : y = lowF (balK (sortP l) (l.length + 1)).2) : (cenK l (dnE l y.1 y.2) l.length).1 * y.2 = y.1 * (cenK l (dnE l y.1 y.2) l.length).2 := by
  obtain ⟨_, a1⟩ := bal_att h h0
  have g1 := att_good h h0 a1
  obtain ⟨set, _, hs⟩ := att_all a1
  have h1 := dn_phi (l := l) (e := fun i => bitE set i (l.getD i s0).1) (fun i hi => by
    have := (h.s _ (getD_mem (d := s0) hi)).1
    rcases bit_two set i (l.getD i s0).1 with e | e <;> rw [e] <;> omega) y.1 y.2
  have hc : cenK l (fun i _ => bitE set i (l.getD i s0).1) l.length = setC l set := cen_congr _ fun i _ => rfl
  rw [hc, hs] at h1
  obtain ⟨g, m1, m2, m3⟩ := low_mul (r := (balK (sortP l) (l.length + 1)).2)
  rw [← hy] at m1 m2
  have hz : (balK (sortP l) (l.length + 1)).2.1 * y.2 - y.1 * (balK (sortP l) (l.length + 1)).2.2 = 0 := by
    rw [m1, m2, Int.mul_left_comm y.1 g y.2, Int.mul_assoc]; omega
  have h2 := (low_leR g1.2.1).2 (bal_high h h0 (dn_att l y.1 y.2))
  rw [← hy] at h2
  unfold leR at h2
  omega

theorem att_le_far {l : List Stick} {P : Int} (hP : ∀ s, s ∈ l → s.2.2 ≤ P) (hs : ∀ s, s ∈ l → 0 ≤ s.1.1 ∧ s.1.1 ≤ s.1.2) {r : Ratio} (h : Att l r) : r.1 ≤ P * r.2 := by
  induction h with
  | nil => simp
  | @cons s t r w hw _ ih =>
    have h1 := ih (fun x hx => hP x (by simp [hx])) (fun x hx => hs x (by simp [hx]))
    have h2 := hs s (by simp)
    have h3 := Int.mul_le_mul_of_nonneg_left (hP s (by simp)) (show 0 ≤ w by omega)
    dsimp only
    rw [Int.mul_add, Int.mul_comm P w]
    omega
theorem more_le {l : List Stick} {st : Stick} (h : SticksOK l) (h0 : l.length ≠ 0) (hm : SticksOK (l ++ [st])) (hP : ∀ s, s ∈ l → s.2.2 ≤ st.2.2) :
    leR (balK (sortP l) (l.length + 1)).1 (balK (sortP (l ++ [st])) ((l ++ [st]).length + 1)).1 ∧ leR (balK (sortP l) (l.length + 1)).2 (balK (sortP (l ++ [st])) ((l ++ [st]).length + 1)).2 := by
  have hm0 : (l ++ [st]).length ≠ 0 := by simp
  have hss : ∀ s, s ∈ l → 0 ≤ s.1.1 ∧ s.1.1 ≤ s.1.2 := fun s hs => by have := (h.s s hs).1; omega
  have hst := hm.s st (by simp)
  obtain ⟨m1, m2⟩ := bal_att hm hm0
  obtain ⟨l1, l2⟩ := bal_att h h0
  have gl1 := att_good h h0 l1
  have gl2 := att_good h h0 l2
  constructor
  · obtain ⟨r, w, hw, hr, he⟩ := m1.unsnoc
    have hfar := att_le_far hP hss hr
    have hlow := bal_low h h0 hr
    have gr := att_good h h0 hr
    rw [he]
    obtain ⟨y, hy⟩ : ∃ y, y = (balK (sortP l) (l.length + 1)).1 := ⟨_, rfl⟩
    rw [← hy] at hlow gl1 ⊢
    unfold leR at hlow ⊢
    dsimp only
    have c1 := Int.mul_le_mul_of_nonneg_right hfar (show 0 ≤ y.2 by have := gl1.2.1; omega)
    have c2 : y.1 ≤ st.2.2 * y.2 := by
      refine Int.le_of_mul_le_mul_right (a := r.2) ?_ (by have := gr.2.1; omega)
      rw [Int.mul_assoc, Int.mul_comm y.2 r.2, ← Int.mul_assoc]
      omega
    have c3 := Int.mul_le_mul_of_nonneg_left c2 (show 0 ≤ w by omega)
    rw [Int.mul_add, Int.add_mul, Int.mul_comm y.1 w, Int.mul_assoc w]
    omega
  · have hfar := att_le_far hP hss l2
    have ha := l2.snoc (s := st) (w := st.1.1) (.inl rfl)
    have hhigh := bal_high hm hm0 ha
    refine leR_trans gl2.2.1 (by show 1 ≤ _ + st.1.1; have := gl2.2.1; omega) (att_good hm hm0 m2).2.1 ?_ hhigh
    obtain ⟨y, hy⟩ : ∃ y, y = (balK (sortP l) (l.length + 1)).2 := ⟨_, rfl⟩
    rw [← hy] at hfar ⊢
    unfold leR
    dsimp only
    have c3 := Int.mul_le_mul_of_nonneg_left hfar (show 0 ≤ st.1.1 by omega)
    rw [Int.mul_add, Int.add_mul, Int.mul_comm y.1 st.1.1, Int.mul_assoc st.1.1]
    omega
end Go.Proofs.Rv
set_option linter.unusedVariables false
set_option maxRecDepth 100000
namespace Go.Proofs.Rv
open Go Go.GX Go.Proofs

def V5 (x : (Int × Int) × (Int × Int) × List (Int × Int × Int × Int)) (b : List Int) (v : Int × Int × Int) (Q : Bool → Prop) : Prop :=
  f21_wp ((Prod.fst (Prod.fst x), Prod.snd (Prod.fst x)), (Prod.fst (Prod.fst (Prod.snd x)), Prod.snd (Prod.fst (Prod.snd x))), Prod.snd (Prod.snd x)) () fun (r : (Int ×
  Int) × (Int × Int) × List ((Int × Int) × Int × Int)) ↦ f24_wp (((Prod.fst (Prod.fst r), Prod.snd (Prod.fst r)), (Prod.fst (Prod.fst (Prod.snd r)), Prod.snd (Prod.fst
  (Prod.snd r))), Prod.snd (Prod.snd r)), b, ()) () fun (r_1 : (Int × Int) × (Int × Int) × List ((Int × Int) × Int × Int)) ↦ f23_wp ((Prod.fst (Prod.fst r_1), Prod.snd
  (Prod.fst r_1)), (Prod.fst (Prod.fst (Prod.snd r_1)), Prod.snd (Prod.fst (Prod.snd r_1))), Prod.snd (Prod.snd r_1)) () fun (r_2 : Int × Int × Unit) ↦ f22_wp (Prod.fst
  r_2, Prod.fst (Prod.snd r_2), ()) () fun (r_3 : Int) ↦ ∃ (r_4 : (Int × Int) × (Int × Int) × List ((Int × Int) × Int × Int)), (f11_wp ((Prod.fst (Prod.fst r), Prod.snd
  (Prod.fst r)), (Prod.fst (Prod.fst (Prod.snd r)), Prod.snd (Prod.fst (Prod.snd r))), Prod.snd (Prod.snd r)) () fun (r' : (Int × Int) × (Int × Int) × List ((Int × Int) ×
  Int × Int)) ↦ r' = r_4) ∧ (3 : Int) ≠ (0 : Int) ∧ (3 : Int) ≠ (0 : Int) ∧ (3 : Int) ≠ (0 : Int) ∧ ∃ (r_5 : Int × Int), (f27_wp (mxI (0 : Int) (IntKind.wrap IntKind.i64
  (r_3 - Int.tmod (IntKind.wrap IntKind.i64 (Prod.fst v)) (3 : Int))), mnI (360 : Int) (IntKind.wrap IntKind.i64 (r_3 + Int.tmod (IntKind.wrap IntKind.i64 (Int.tdiv
  (IntKind.wrap IntKind.i64 (Prod.fst v)) (3 : Int))) (3 : Int))), ()) () fun (r' : Int × Int) ↦ r' = r_5) ∧ ∃ (r_6 : List Int × Int × Unit), (f25_wp (((Prod.fst (Prod.fst
  r_4), Prod.snd (Prod.fst r_4)), (Prod.fst (Prod.fst (Prod.snd r_4)), Prod.snd (Prod.fst (Prod.snd r_4))), Prod.snd (Prod.snd r_4)), (Prod.fst r_5, Prod.snd r_5), ()) ()
  fun (r' : List Int × Int × Unit) ↦ r' = r_6) ∧ cnd (Prod.fst (Prod.snd r_6) != (7 : Int)) (Q false) ((255 : Int) ≠ (0 : Int) ∧ (5 : Int) ≠ (0 : Int) ∧ f27_wp
  (IntKind.wrap IntKind.i64 (Int.tdiv (IntKind.wrap IntKind.i64 (IntKind.wrap IntKind.i64 (Prod.fst (Prod.snd v)) * (360 : Int))) (255 : Int)), mnI (360 : Int)
  (IntKind.wrap IntKind.i64 (IntKind.wrap IntKind.i64 (Int.tdiv (IntKind.wrap IntKind.i64 (IntKind.wrap IntKind.i64 (Prod.fst (Prod.snd v)) * (360 : Int))) (255 : Int)) +
  Int.tmod (IntKind.wrap IntKind.i64 (Prod.snd (Prod.snd v))) (5 : Int))), ()) () fun (r_7 : Int × Int) ↦ ∃ (r_8 : (Int × Int) × (Int × Int) × List ((Int × Int) × Int ×
  Int)), (f11_wp ((Prod.fst (Prod.fst r), Prod.snd (Prod.fst r)), (Prod.fst (Prod.fst (Prod.snd r)), Prod.snd (Prod.fst (Prod.snd r))), Prod.snd (Prod.snd r)) () fun (r' :
  (Int × Int) × (Int × Int) × List ((Int × Int) × Int × Int)) ↦ r' = r_8) ∧ ∃ (r_9 : List Int × Int × Unit), (f25_wp (((Prod.fst (Prod.fst r_8), Prod.snd (Prod.fst r_8)),
  (Prod.fst (Prod.fst (Prod.snd r_8)), Prod.snd (Prod.fst (Prod.snd r_8))), Prod.snd (Prod.snd r_8)), (Prod.fst r_7, Prod.snd r_7), ()) () fun (r' : List Int × Int × Unit)
  ↦ r' = r_9) ∧ f11_wp ((Prod.fst (Prod.fst r), Prod.snd (Prod.fst r)), (Prod.fst (Prod.fst (Prod.snd r)), Prod.snd (Prod.fst (Prod.snd r))), Prod.snd (Prod.snd r)) () fun
  (r_10 : (Int × Int) × (Int × Int) × List ((Int × Int) × Int × Int)) ↦ f28_wp ((Prod.fst (Prod.fst r_10), Prod.snd (Prod.fst r_10)), (Prod.fst (Prod.fst (Prod.snd r_10)),
  Prod.snd (Prod.fst (Prod.snd r_10))), Prod.snd (Prod.snd r_10)) () fun (r_11 : (Int × Int) × Int × Unit) ↦ cnd (Prod.fst (Prod.snd r_11) != (0 : Int)) (Q false) (∃ (I :
  Bool → Prop), cnd (decide (Prod.fst (Prod.fst r_11) ≤ Prod.snd r_7)) (I (decide (Prod.fst r_7 ≤ Prod.snd (Prod.fst r_11)))) (I false) ∧ ∀ (x : Bool), I x → cnd x (cnd
  (Prod.fst (Prod.snd r_9) == (7 : Int)) (List.length (Prod.fst r_9) ≤ (9223372036854775807 : Nat) → cnd ((↑(List.length (Prod.fst r_9)) : Int) == (0 : Int)) (f10_wp () ()
  fun (r : Bool) ↦ Q r) (Q false)) (Q false)) (List.length (Prod.snd (Prod.snd r)) ≤ (9223372036854775807 : Nat) → cnd ((↑(List.length (Prod.snd (Prod.snd r))) : Int) == (0
  : Int)) (cnd (Prod.fst (Prod.snd r_9) == (9 : Int)) (List.length (Prod.fst r_9) ≤ (9223372036854775807 : Nat) → cnd ((↑(List.length (Prod.fst r_9)) : Int) == (0 : Int))
  (f10_wp () () fun (r : Bool) ↦ Q r) (Q false)) (Q false)) (cnd (Prod.fst (Prod.snd r_9) != (0 : Int)) (Q false) (List.length (Prod.fst r_9) ≤ (9223372036854775807 : Nat)
  → cnd ((↑(List.length (Prod.fst r_9)) : Int) == (0 : Int)) (Q false) (List.length (Prod.fst r_9) ≤ (9223372036854775807 : Nat) → List.length (Prod.snd (Prod.snd r)) ≤
  (9223372036854775807 : Nat) → cnd (decide ((↑(List.length (Prod.fst r_9)) : Int) > (↑(List.length (Prod.snd (Prod.snd r))) : Int))) (Q false) (∃ (I : Int → Prop), ∃ (μ :
  Int → Nat), I (-1 : Int) ∧ ∀ (x : Int), I x → List.length (Prod.fst r_9) ≤ (9223372036854775807 : Nat) → cnd (decide (x < (↑(List.length (Prod.fst r_9)) : Int))) (∃ (I_1
  : Int → Bool × Bool × Bool × Bool × Bool × Bool × Bool × Bool × Bool × Bool × Bool × Bool → Prop), ∃ (μ_1 : Int → Bool × Bool × Bool × Bool × Bool × Bool × Bool × Bool ×
  Bool × Bool × Bool × Bool → Nat), I_1 (0 : Int) (false, false, false, false, false, false, false, false, false, false, false, false) ∧ ∀ (x_1 : Int) (x_2 : Bool × Bool ×
  Bool × Bool × Bool × Bool × Bool × Bool × Bool × Bool × Bool × Bool), I_1 x_1 x_2 → List.length (Prod.fst r_9) ≤ (9223372036854775807 : Nat) → cnd (decide (x_1 <
  (↑(List.length (Prod.fst r_9)) : Int))) (∃ (I : Bool → Prop), ((0 : Int) ≤ x_1 ∧ x_1 < (↑(List.length (Prod.fst r_9)) : Int) ∧ cnd (decide (List.getD (Prod.fst r_9)
  (Int.toNat x_1) (0 : Int) < (0 : Int))) (I true) ((0 : Int) ≤ x_1 ∧ x_1 < (↑(List.length (Prod.fst r_9)) : Int) ∧ cnd (decide (List.getD (Prod.fst r_9) (Int.toNat x_1) (0
  : Int) ≥ (↑(List.length (Prod.snd (Prod.snd r))) : Int))) (I true) (cnd (decide (x_1 > (0 : Int))) ((0 : Int) ≤ x_1 ∧ x_1 < (↑(List.length (Prod.fst r_9)) : Int) ∧ (0 :
  Int) ≤ IntKind.wrap IntKind.i64 (x_1 - (1 : Int)) ∧ IntKind.wrap IntKind.i64 (x_1 - (1 : Int)) < (↑(List.length (Prod.fst r_9)) : Int) ∧ I (decide (List.getD (Prod.fst
  r_9) (Int.toNat x_1) (0 : Int) ≤ List.getD (Prod.fst r_9) (Int.toNat (IntKind.wrap IntKind.i64 (x_1 - (1 : Int)))) (0 : Int)))) (I false)))) ∧ ∀ (x_3 : Bool), I x_3 → cnd
  x_3 (Q false) ((0 : Int) ≤ x_1 ∧ x_1 < (↑(List.length (Prod.fst r_9)) : Int) ∧ (0 : Int) ≤ List.getD (Prod.fst r_9) (Int.toNat x_1) (0 : Int) ∧ List.getD (Prod.fst r_9)
  (Int.toNat x_1) (0 : Int) < (↑(12 : Nat) : Int) ∧ I_1 (IntKind.wrap IntKind.i64 (x_1 + (1 : Int))) (List.getD (List.set (Prod.fst x_2 :: Prod.fst (Prod.snd x_2) ::
  Prod.fst (Prod.snd (Prod.snd x_2)) :: Prod.fst (Prod.snd (Prod.snd (Prod.snd x_2))) :: Prod.fst (Prod.snd (Prod.snd (Prod.snd (Prod.snd x_2)))) :: Prod.fst (Prod.snd
  (Prod.snd (Prod.snd (Prod.snd (Prod.snd x_2))))) :: Prod.fst (Prod.snd (Prod.snd (Prod.snd (Prod.snd (Prod.snd (Prod.snd x_2)))))) :: Prod.fst (Prod.snd (Prod.snd
  (Prod.snd (Prod.snd (Prod.snd (Prod.snd (Prod.snd x_2))))))) :: Prod.fst (Prod.snd (Prod.snd (Prod.snd (Prod.snd (Prod.snd (Prod.snd (Prod.snd (Prod.snd x_2)))))))) ::
  Prod.fst (Prod.snd (Prod.snd (Prod.snd (Prod.snd (Prod.snd (Prod.snd (Prod.snd (Prod.snd (Prod.snd x_2))))))))) :: Prod.fst (Prod.snd (Prod.snd (Prod.snd (Prod.snd
  (Prod.snd (Prod.snd (Prod.snd (Prod.snd (Prod.snd (Prod.snd x_2)))))))))) :: Prod.snd (Prod.snd (Prod.snd (Prod.snd (Prod.snd (Prod.snd (Prod.snd (Prod.snd (Prod.snd
  (Prod.snd (Prod.snd x_2)))))))))) :: ([] : List Bool)) (Int.toNat (List.getD (Prod.fst r_9) (Int.toNat x_1) (0 : Int))) (x_1 != x)) (nat_lit 0) (x_1 != x), List.getD
  (List.set (Prod.fst x_2 :: Prod.fst (Prod.snd x_2) :: Prod.fst (Prod.snd (Prod.snd x_2)) :: Prod.fst (Prod.snd (Prod.snd (Prod.snd x_2))) :: Prod.fst (Prod.snd (Prod.snd
  (Prod.snd (Prod.snd x_2)))) :: Prod.fst (Prod.snd (Prod.snd (Prod.snd (Prod.snd (Prod.snd x_2))))) :: Prod.fst (Prod.snd (Prod.snd (Prod.snd (Prod.snd (Prod.snd (Prod.snd
  x_2)))))) :: Prod.fst (Prod.snd (Prod.snd (Prod.snd (Prod.snd (Prod.snd (Prod.snd (Prod.snd x_2))))))) :: Prod.fst (Prod.snd (Prod.snd (Prod.snd (Prod.snd (Prod.snd
  (Prod.snd (Prod.snd (Prod.snd x_2)))))))) :: Prod.fst (Prod.snd (Prod.snd (Prod.snd (Prod.snd (Prod.snd (Prod.snd (Prod.snd (Prod.snd (Prod.snd x_2))))))))) :: Prod.fst
  (Prod.snd (Prod.snd (Prod.snd (Prod.snd (Prod.snd (Prod.snd (Prod.snd (Prod.snd (Prod.snd (Prod.snd x_2)))))))))) :: Prod.snd (Prod.snd (Prod.snd (Prod.snd (Prod.snd
  (Prod.snd (Prod.snd (Prod.snd (Prod.snd (Prod.snd (Prod.snd x_2)))))))))) :: ([] : List Bool)) (Int.toNat (List.getD (Prod.fst r_9) (Int.toNat x_1) (0 : Int))) (x_1 !=
  x)) (nat_lit 1) (x_1 != x), List.getD (List.set (Prod.fst x_2 :: Prod.fst (Prod.snd x_2) :: Prod.fst (Prod.snd (Prod.snd x_2)) :: Prod.fst (Prod.snd (Prod.snd (Prod.snd
  x_2))) :: Prod.fst (Prod.snd (Prod.snd (Prod.snd (Prod.snd x_2)))) :: Prod.fst (Prod.snd (Prod.snd (Prod.snd (Prod.snd (Prod.snd x_2))))) :: Prod.fst (Prod.snd (Prod.snd
  (Prod.snd (Prod.snd (Prod.snd (Prod.snd x_2)))))) :: Prod.fst (Prod.snd (Prod.snd (Prod.snd (Prod.snd (Prod.snd (Prod.snd (Prod.snd x_2))))))) :: Prod.fst (Prod.snd
  (Prod.snd (Prod.snd (Prod.snd (Prod.snd (Prod.snd (Prod.snd (Prod.snd x_2)))))))) :: Prod.fst (Prod.snd (Prod.snd (Prod.snd (Prod.snd (Prod.snd (Prod.snd (Prod.snd
  (Prod.snd (Prod.snd x_2))))))))) :: Prod.fst (Prod.snd (Prod.snd (Prod.snd (Prod.snd (Prod.snd (Prod.snd (Prod.snd (Prod.snd (Prod.snd (Prod.snd x_2)))))))))) :: Prod.snd
  (Prod.snd (Prod.snd (Prod.snd (Prod.snd (Prod.snd (Prod.snd (Prod.snd (Prod.snd (Prod.snd (Prod.snd x_2)))))))))) :: ([] : List Bool)) (Int.toNat (List.getD (Prod.fst
  r_9) (Int.toNat x_1) (0 : Int))) (x_1 != x)) (nat_lit 2) (x_1 != x), List.getD (List.set (Prod.fst x_2 :: Prod.fst (Prod.snd x_2) :: Prod.fst (Prod.snd (Prod.snd x_2)) ::
  Prod.fst (Prod.snd (Prod.snd (Prod.snd x_2))) :: Prod.fst (Prod.snd (Prod.snd (Prod.snd (Prod.snd x_2)))) :: Prod.fst (Prod.snd (Prod.snd (Prod.snd (Prod.snd (Prod.snd
  x_2))))) :: Prod.fst (Prod.snd (Prod.snd (Prod.snd (Prod.snd (Prod.snd (Prod.snd x_2)))))) :: Prod.fst (Prod.snd (Prod.snd (Prod.snd (Prod.snd (Prod.snd (Prod.snd
  (Prod.snd x_2))))))) :: Prod.fst (Prod.snd (Prod.snd (Prod.snd (Prod.snd (Prod.snd (Prod.snd (Prod.snd (Prod.snd x_2)))))))) :: Prod.fst (Prod.snd (Prod.snd (Prod.snd
  (Prod.snd (Prod.snd (Prod.snd (Prod.snd (Prod.snd (Prod.snd x_2))))))))) :: Prod.fst (Prod.snd (Prod.snd (Prod.snd (Prod.snd (Prod.snd (Prod.snd (Prod.snd (Prod.snd
  (Prod.snd (Prod.snd x_2)))))))))) :: Prod.snd (Prod.snd (Prod.snd (Prod.snd (Prod.snd (Prod.snd (Prod.snd (Prod.snd (Prod.snd (Prod.snd (Prod.snd x_2)))))))))) :: ([] :
  List Bool)) (Int.toNat (List.getD (Prod.fst r_9) (Int.toNat x_1) (0 : Int))) (x_1 != x)) (nat_lit 3) (x_1 != x), List.getD (List.set (Prod.fst x_2 :: Prod.fst (Prod.snd
  x_2) :: Prod.fst (Prod.snd (Prod.snd x_2)) :: Prod.fst (Prod.snd (Prod.snd (Prod.snd x_2))) :: Prod.fst (Prod.snd (Prod.snd (Prod.snd (Prod.snd x_2)))) :: Prod.fst
  (Prod.snd (Prod.snd (Prod.snd (Prod.snd (Prod.snd x_2))))) :: Prod.fst (Prod.snd (Prod.snd (Prod.snd (Prod.snd (Prod.snd (Prod.snd x_2)))))) :: Prod.fst (Prod.snd
  (Prod.snd (Prod.snd (Prod.snd (Prod.snd (Prod.snd (Prod.snd x_2))))))) :: Prod.fst (Prod.snd (Prod.snd (Prod.snd (Prod.snd (Prod.snd (Prod.snd (Prod.snd (Prod.snd
  x_2)))))))) :: Prod.fst (Prod.snd (Prod.snd (Prod.snd (Prod.snd (Prod.snd (Prod.snd (Prod.snd (Prod.snd (Prod.snd x_2))))))))) :: Prod.fst (Prod.snd (Prod.snd (Prod.snd
  (Prod.snd (Prod.snd (Prod.snd (Prod.snd (Prod.snd (Prod.snd (Prod.snd x_2)))))))))) :: Prod.snd (Prod.snd (Prod.snd (Prod.snd (Prod.snd (Prod.snd (Prod.snd (Prod.snd
  (Prod.snd (Prod.snd (Prod.snd x_2)))))))))) :: ([] : List Bool)) (Int.toNat (List.getD (Prod.fst r_9) (Int.toNat x_1) (0 : Int))) (x_1 != x)) (nat_lit 4) (x_1 != x),
  List.getD (List.set (Prod.fst x_2 :: Prod.fst (Prod.snd x_2) :: Prod.fst (Prod.snd (Prod.snd x_2)) :: Prod.fst (Prod.snd (Prod.snd (Prod.snd x_2))) :: Prod.fst (Prod.snd
  (Prod.snd (Prod.snd (Prod.snd x_2)))) :: Prod.fst (Prod.snd (Prod.snd (Prod.snd (Prod.snd (Prod.snd x_2))))) :: Prod.fst (Prod.snd (Prod.snd (Prod.snd (Prod.snd (Prod.snd
  (Prod.snd x_2)))))) :: Prod.fst (Prod.snd (Prod.snd (Prod.snd (Prod.snd (Prod.snd (Prod.snd (Prod.snd x_2))))))) :: Prod.fst (Prod.snd (Prod.snd (Prod.snd (Prod.snd
  (Prod.snd (Prod.snd (Prod.snd (Prod.snd x_2)))))))) :: Prod.fst (Prod.snd (Prod.snd (Prod.snd (Prod.snd (Prod.snd (Prod.snd (Prod.snd (Prod.snd (Prod.snd x_2))))))))) ::
  Prod.fst (Prod.snd (Prod.snd (Prod.snd (Prod.snd (Prod.snd (Prod.snd (Prod.snd (Prod.snd (Prod.snd (Prod.snd x_2)))))))))) :: Prod.snd (Prod.snd (Prod.snd (Prod.snd
  (Prod.snd (Prod.snd (Prod.snd (Prod.snd (Prod.snd (Prod.snd (Prod.snd x_2)))))))))) :: ([] : List Bool)) (Int.toNat (List.getD (Prod.fst r_9) (Int.toNat x_1) (0 : Int)))
  (x_1 != x)) (nat_lit 5) (x_1 != x), List.getD (List.set (Prod.fst x_2 :: Prod.fst (Prod.snd x_2) :: Prod.fst (Prod.snd (Prod.snd x_2)) :: Prod.fst (Prod.snd (Prod.snd
  (Prod.snd x_2))) :: Prod.fst (Prod.snd (Prod.snd (Prod.snd (Prod.snd x_2)))) :: Prod.fst (Prod.snd (Prod.snd (Prod.snd (Prod.snd (Prod.snd x_2))))) :: Prod.fst (Prod.snd
  (Prod.snd (Prod.snd (Prod.snd (Prod.snd (Prod.snd x_2)))))) :: Prod.fst (Prod.snd (Prod.snd (Prod.snd (Prod.snd (Prod.snd (Prod.snd (Prod.snd x_2))))))) :: Prod.fst
  (Prod.snd (Prod.snd (Prod.snd (Prod.snd (Prod.snd (Prod.snd (Prod.snd (Prod.snd x_2)))))))) :: Prod.fst (Prod.snd (Prod.snd (Prod.snd (Prod.snd (Prod.snd (Prod.snd
  (Prod.snd (Prod.snd (Prod.snd x_2))))))))) :: Prod.fst (Prod.snd (Prod.snd (Prod.snd (Prod.snd (Prod.snd (Prod.snd (Prod.snd (Prod.snd (Prod.snd (Prod.snd x_2))))))))))
  :: Prod.snd (Prod.snd (Prod.snd (Prod.snd (Prod.snd (Prod.snd (Prod.snd (Prod.snd (Prod.snd (Prod.snd (Prod.snd x_2)))))))))) :: ([] : List Bool)) (Int.toNat (List.getD
  (Prod.fst r_9) (Int.toNat x_1) (0 : Int))) (x_1 != x)) (nat_lit 6) (x_1 != x), List.getD (List.set (Prod.fst x_2 :: Prod.fst (Prod.snd x_2) :: Prod.fst (Prod.snd
  (Prod.snd x_2)) :: Prod.fst (Prod.snd (Prod.snd (Prod.snd x_2))) :: Prod.fst (Prod.snd (Prod.snd (Prod.snd (Prod.snd x_2)))) :: Prod.fst (Prod.snd (Prod.snd (Prod.snd
  (Prod.snd (Prod.snd x_2))))) :: Prod.fst (Prod.snd (Prod.snd (Prod.snd (Prod.snd (Prod.snd (Prod.snd x_2)))))) :: Prod.fst (Prod.snd (Prod.snd (Prod.snd (Prod.snd
  (Prod.snd (Prod.snd (Prod.snd x_2))))))) :: Prod.fst (Prod.snd (Prod.snd (Prod.snd (Prod.snd (Prod.snd (Prod.snd (Prod.snd (Prod.snd x_2)))))))) :: Prod.fst (Prod.snd
  (Prod.snd (Prod.snd (Prod.snd (Prod.snd (Prod.snd (Prod.snd (Prod.snd (Prod.snd x_2))))))))) :: Prod.fst (Prod.snd (Prod.snd (Prod.snd (Prod.snd (Prod.snd (Prod.snd
  (Prod.snd (Prod.snd (Prod.snd (Prod.snd x_2)))))))))) :: Prod.snd (Prod.snd (Prod.snd (Prod.snd (Prod.snd (Prod.snd (Prod.snd (Prod.snd (Prod.snd (Prod.snd (Prod.snd
  x_2)))))))))) :: ([] : List Bool)) (Int.toNat (List.getD (Prod.fst r_9) (Int.toNat x_1) (0 : Int))) (x_1 != x)) (nat_lit 7) (x_1 != x), List.getD (List.set (Prod.fst x_2
  :: Prod.fst (Prod.snd x_2) :: Prod.fst (Prod.snd (Prod.snd x_2)) :: Prod.fst (Prod.snd (Prod.snd (Prod.snd x_2))) :: Prod.fst (Prod.snd (Prod.snd (Prod.snd (Prod.snd
  x_2)))) :: Prod.fst (Prod.snd (Prod.snd (Prod.snd (Prod.snd (Prod.snd x_2))))) :: Prod.fst (Prod.snd (Prod.snd (Prod.snd (Prod.snd (Prod.snd (Prod.snd x_2)))))) ::
  Prod.fst (Prod.snd (Prod.snd (Prod.snd (Prod.snd (Prod.snd (Prod.snd (Prod.snd x_2))))))) :: Prod.fst (Prod.snd (Prod.snd (Prod.snd (Prod.snd (Prod.snd (Prod.snd
  (Prod.snd (Prod.snd x_2)))))))) :: Prod.fst (Prod.snd (Prod.snd (Prod.snd (Prod.snd (Prod.snd (Prod.snd (Prod.snd (Prod.snd (Prod.snd x_2))))))))) :: Prod.fst (Prod.snd
  (Prod.snd (Prod.snd (Prod.snd (Prod.snd (Prod.snd (Prod.snd (Prod.snd (Prod.snd (Prod.snd x_2)))))))))) :: Prod.snd (Prod.snd (Prod.snd (Prod.snd (Prod.snd (Prod.snd
  (Prod.snd (Prod.snd (Prod.snd (Prod.snd (Prod.snd x_2)))))))))) :: ([] : List Bool)) (Int.toNat (List.getD (Prod.fst r_9) (Int.toNat x_1) (0 : Int))) (x_1 != x)) (nat_lit
  8) (x_1 != x), List.getD (List.set (Prod.fst x_2 :: Prod.fst (Prod.snd x_2) :: Prod.fst (Prod.snd (Prod.snd x_2)) :: Prod.fst (Prod.snd (Prod.snd (Prod.snd x_2))) ::
  Prod.fst (Prod.snd (Prod.snd (Prod.snd (Prod.snd x_2)))) :: Prod.fst (Prod.snd (Prod.snd (Prod.snd (Prod.snd (Prod.snd x_2))))) :: Prod.fst (Prod.snd (Prod.snd (Prod.snd
  (Prod.snd (Prod.snd (Prod.snd x_2)))))) :: Prod.fst (Prod.snd (Prod.snd (Prod.snd (Prod.snd (Prod.snd (Prod.snd (Prod.snd x_2))))))) :: Prod.fst (Prod.snd (Prod.snd
  (Prod.snd (Prod.snd (Prod.snd (Prod.snd (Prod.snd (Prod.snd x_2)))))))) :: Prod.fst (Prod.snd (Prod.snd (Prod.snd (Prod.snd (Prod.snd (Prod.snd (Prod.snd (Prod.snd
  (Prod.snd x_2))))))))) :: Prod.fst (Prod.snd (Prod.snd (Prod.snd (Prod.snd (Prod.snd (Prod.snd (Prod.snd (Prod.snd (Prod.snd (Prod.snd x_2)))))))))) :: Prod.snd (Prod.snd
  (Prod.snd (Prod.snd (Prod.snd (Prod.snd (Prod.snd (Prod.snd (Prod.snd (Prod.snd (Prod.snd x_2)))))))))) :: ([] : List Bool)) (Int.toNat (List.getD (Prod.fst r_9)
  (Int.toNat x_1) (0 : Int))) (x_1 != x)) (nat_lit 9) (x_1 != x), List.getD (List.set (Prod.fst x_2 :: Prod.fst (Prod.snd x_2) :: Prod.fst (Prod.snd (Prod.snd x_2)) ::
  Prod.fst (Prod.snd (Prod.snd (Prod.snd x_2))) :: Prod.fst (Prod.snd (Prod.snd (Prod.snd (Prod.snd x_2)))) :: Prod.fst (Prod.snd (Prod.snd (Prod.snd (Prod.snd (Prod.snd
  x_2))))) :: Prod.fst (Prod.snd (Prod.snd (Prod.snd (Prod.snd (Prod.snd (Prod.snd x_2)))))) :: Prod.fst (Prod.snd (Prod.snd (Prod.snd (Prod.snd (Prod.snd (Prod.snd
  (Prod.snd x_2))))))) :: Prod.fst (Prod.snd (Prod.snd (Prod.snd (Prod.snd (Prod.snd (Prod.snd (Prod.snd (Prod.snd x_2)))))))) :: Prod.fst (Prod.snd (Prod.snd (Prod.snd
  (Prod.snd (Prod.snd (Prod.snd (Prod.snd (Prod.snd (Prod.snd x_2))))))))) :: Prod.fst (Prod.snd (Prod.snd (Prod.snd (Prod.snd (Prod.snd (Prod.snd (Prod.snd (Prod.snd
  (Prod.snd (Prod.snd x_2)))))))))) :: Prod.snd (Prod.snd (Prod.snd (Prod.snd (Prod.snd (Prod.snd (Prod.snd (Prod.snd (Prod.snd (Prod.snd (Prod.snd x_2)))))))))) :: ([] :
  List Bool)) (Int.toNat (List.getD (Prod.fst r_9) (Int.toNat x_1) (0 : Int))) (x_1 != x)) (nat_lit 10) (x_1 != x), List.getD (List.set (Prod.fst x_2 :: Prod.fst (Prod.snd
  x_2) :: Prod.fst (Prod.snd (Prod.snd x_2)) :: Prod.fst (Prod.snd (Prod.snd (Prod.snd x_2))) :: Prod.fst (Prod.snd (Prod.snd (Prod.snd (Prod.snd x_2)))) :: Prod.fst
  (Prod.snd (Prod.snd (Prod.snd (Prod.snd (Prod.snd x_2))))) :: Prod.fst (Prod.snd (Prod.snd (Prod.snd (Prod.snd (Prod.snd (Prod.snd x_2)))))) :: Prod.fst (Prod.snd
  (Prod.snd (Prod.snd (Prod.snd (Prod.snd (Prod.snd (Prod.snd x_2))))))) :: Prod.fst (Prod.snd (Prod.snd (Prod.snd (Prod.snd (Prod.snd (Prod.snd (Prod.snd (Prod.snd
  x_2)))))))) :: Prod.fst (Prod.snd (Prod.snd (Prod.snd (Prod.snd (Prod.snd (Prod.snd (Prod.snd (Prod.snd (Prod.snd x_2))))))))) :: Prod.fst (Prod.snd (Prod.snd (Prod.snd
  (Prod.snd (Prod.snd (Prod.snd (Prod.snd (Prod.snd (Prod.snd (Prod.snd x_2)))))))))) :: Prod.snd (Prod.snd (Prod.snd (Prod.snd (Prod.snd (Prod.snd (Prod.snd (Prod.snd
  (Prod.snd (Prod.snd (Prod.snd x_2)))))))))) :: ([] : List Bool)) (Int.toNat (List.getD (Prod.fst r_9) (Int.toNat x_1) (0 : Int))) (x_1 != x)) (nat_lit 11) (x_1 != x)) ∧
  μ_1 (IntKind.wrap IntKind.i64 (x_1 + (1 : Int))) (List.getD (List.set (Prod.fst x_2 :: Prod.fst (Prod.snd x_2) :: Prod.fst (Prod.snd (Prod.snd x_2)) :: Prod.fst (Prod.snd
  (Prod.snd (Prod.snd x_2))) :: Prod.fst (Prod.snd (Prod.snd (Prod.snd (Prod.snd x_2)))) :: Prod.fst (Prod.snd (Prod.snd (Prod.snd (Prod.snd (Prod.snd x_2))))) :: Prod.fst
  (Prod.snd (Prod.snd (Prod.snd (Prod.snd (Prod.snd (Prod.snd x_2)))))) :: Prod.fst (Prod.snd (Prod.snd (Prod.snd (Prod.snd (Prod.snd (Prod.snd (Prod.snd x_2))))))) ::
  Prod.fst (Prod.snd (Prod.snd (Prod.snd (Prod.snd (Prod.snd (Prod.snd (Prod.snd (Prod.snd x_2)))))))) :: Prod.fst (Prod.snd (Prod.snd (Prod.snd (Prod.snd (Prod.snd
  (Prod.snd (Prod.snd (Prod.snd (Prod.snd x_2))))))))) :: Prod.fst (Prod.snd (Prod.snd (Prod.snd (Prod.snd (Prod.snd (Prod.snd (Prod.snd (Prod.snd (Prod.snd (Prod.snd
  x_2)))))))))) :: Prod.snd (Prod.snd (Prod.snd (Prod.snd (Prod.snd (Prod.snd (Prod.snd (Prod.snd (Prod.snd (Prod.snd (Prod.snd x_2)))))))))) :: ([] : List Bool))
  (Int.toNat (List.getD (Prod.fst r_9) (Int.toNat x_1) (0 : Int))) (x_1 != x)) (nat_lit 0) (x_1 != x), List.getD (List.set (Prod.fst x_2 :: Prod.fst (Prod.snd x_2) ::
  Prod.fst (Prod.snd (Prod.snd x_2)) :: Prod.fst (Prod.snd (Prod.snd (Prod.snd x_2))) :: Prod.fst (Prod.snd (Prod.snd (Prod.snd (Prod.snd x_2)))) :: Prod.fst (Prod.snd
  (Prod.snd (Prod.snd (Prod.snd (Prod.snd x_2))))) :: Prod.fst (Prod.snd (Prod.snd (Prod.snd (Prod.snd (Prod.snd (Prod.snd x_2)))))) :: Prod.fst (Prod.snd (Prod.snd
  (Prod.snd (Prod.snd (Prod.snd (Prod.snd (Prod.snd x_2))))))) :: Prod.fst (Prod.snd (Prod.snd (Prod.snd (Prod.snd (Prod.snd (Prod.snd (Prod.snd (Prod.snd x_2)))))))) ::
  Prod.fst (Prod.snd (Prod.snd (Prod.snd (Prod.snd (Prod.snd (Prod.snd (Prod.snd (Prod.snd (Prod.snd x_2))))))))) :: Prod.fst (Prod.snd (Prod.snd (Prod.snd (Prod.snd
  (Prod.snd (Prod.snd (Prod.snd (Prod.snd (Prod.snd (Prod.snd x_2)))))))))) :: Prod.snd (Prod.snd (Prod.snd (Prod.snd (Prod.snd (Prod.snd (Prod.snd (Prod.snd (Prod.snd
  (Prod.snd (Prod.snd x_2)))))))))) :: ([] : List Bool)) (Int.toNat (List.getD (Prod.fst r_9) (Int.toNat x_1) (0 : Int))) (x_1 != x)) (nat_lit 1) (x_1 != x), List.getD
  (List.set (Prod.fst x_2 :: Prod.fst (Prod.snd x_2) :: Prod.fst (Prod.snd (Prod.snd x_2)) :: Prod.fst (Prod.snd (Prod.snd (Prod.snd x_2))) :: Prod.fst (Prod.snd (Prod.snd
  (Prod.snd (Prod.snd x_2)))) :: Prod.fst (Prod.snd (Prod.snd (Prod.snd (Prod.snd (Prod.snd x_2))))) :: Prod.fst (Prod.snd (Prod.snd (Prod.snd (Prod.snd (Prod.snd (Prod.snd
  x_2)))))) :: Prod.fst (Prod.snd (Prod.snd (Prod.snd (Prod.snd (Prod.snd (Prod.snd (Prod.snd x_2))))))) :: Prod.fst (Prod.snd (Prod.snd (Prod.snd (Prod.snd (Prod.snd
  (Prod.snd (Prod.snd (Prod.snd x_2)))))))) :: Prod.fst (Prod.snd (Prod.snd (Prod.snd (Prod.snd (Prod.snd (Prod.snd (Prod.snd (Prod.snd (Prod.snd x_2))))))))) :: Prod.fst
  (Prod.snd (Prod.snd (Prod.snd (Prod.snd (Prod.snd (Prod.snd (Prod.snd (Prod.snd (Prod.snd (Prod.snd x_2)))))))))) :: Prod.snd (Prod.snd (Prod.snd (Prod.snd (Prod.snd
  (Prod.snd (Prod.snd (Prod.snd (Prod.snd (Prod.snd (Prod.snd x_2)))))))))) :: ([] : List Bool)) (Int.toNat (List.getD (Prod.fst r_9) (Int.toNat x_1) (0 : Int))) (x_1 !=
  x)) (nat_lit 2) (x_1 != x), List.getD (List.set (Prod.fst x_2 :: Prod.fst (Prod.snd x_2) :: Prod.fst (Prod.snd (Prod.snd x_2)) :: Prod.fst (Prod.snd (Prod.snd (Prod.snd
  x_2))) :: Prod.fst (Prod.snd (Prod.snd (Prod.snd (Prod.snd x_2)))) :: Prod.fst (Prod.snd (Prod.snd (Prod.snd (Prod.snd (Prod.snd x_2))))) :: Prod.fst (Prod.snd (Prod.snd
  (Prod.snd (Prod.snd (Prod.snd (Prod.snd x_2)))))) :: Prod.fst (Prod.snd (Prod.snd (Prod.snd (Prod.snd (Prod.snd (Prod.snd (Prod.snd x_2))))))) :: Prod.fst (Prod.snd
  (Prod.snd (Prod.snd (Prod.snd (Prod.snd (Prod.snd (Prod.snd (Prod.snd x_2)))))))) :: Prod.fst (Prod.snd (Prod.snd (Prod.snd (Prod.snd (Prod.snd (Prod.snd (Prod.snd
  (Prod.snd (Prod.snd x_2))))))))) :: Prod.fst (Prod.snd (Prod.snd (Prod.snd (Prod.snd (Prod.snd (Prod.snd (Prod.snd (Prod.snd (Prod.snd (Prod.snd x_2)))))))))) :: Prod.snd
  (Prod.snd (Prod.snd (Prod.snd (Prod.snd (Prod.snd (Prod.snd (Prod.snd (Prod.snd (Prod.snd (Prod.snd x_2)))))))))) :: ([] : List Bool)) (Int.toNat (List.getD (Prod.fst
  r_9) (Int.toNat x_1) (0 : Int))) (x_1 != x)) (nat_lit 3) (x_1 != x), List.getD (List.set (Prod.fst x_2 :: Prod.fst (Prod.snd x_2) :: Prod.fst (Prod.snd (Prod.snd x_2)) ::
  Prod.fst (Prod.snd (Prod.snd (Prod.snd x_2))) :: Prod.fst (Prod.snd (Prod.snd (Prod.snd (Prod.snd x_2)))) :: Prod.fst (Prod.snd (Prod.snd (Prod.snd (Prod.snd (Prod.snd
  x_2))))) :: Prod.fst (Prod.snd (Prod.snd (Prod.snd (Prod.snd (Prod.snd (Prod.snd x_2)))))) :: Prod.fst (Prod.snd (Prod.snd (Prod.snd (Prod.snd (Prod.snd (Prod.snd
  (Prod.snd x_2))))))) :: Prod.fst (Prod.snd (Prod.snd (Prod.snd (Prod.snd (Prod.snd (Prod.snd (Prod.snd (Prod.snd x_2)))))))) :: Prod.fst (Prod.snd (Prod.snd (Prod.snd
  (Prod.snd (Prod.snd (Prod.snd (Prod.snd (Prod.snd (Prod.snd x_2))))))))) :: Prod.fst (Prod.snd (Prod.snd (Prod.snd (Prod.snd (Prod.snd (Prod.snd (Prod.snd (Prod.snd
  (Prod.snd (Prod.snd x_2)))))))))) :: Prod.snd (Prod.snd (Prod.snd (Prod.snd (Prod.snd (Prod.snd (Prod.snd (Prod.snd (Prod.snd (Prod.snd (Prod.snd x_2)))))))))) :: ([] :
  List Bool)) (Int.toNat (List.getD (Prod.fst r_9) (Int.toNat x_1) (0 : Int))) (x_1 != x)) (nat_lit 4) (x_1 != x), List.getD (List.set (Prod.fst x_2 :: Prod.fst (Prod.snd
  x_2) :: Prod.fst (Prod.snd (Prod.snd x_2)) :: Prod.fst (Prod.snd (Prod.snd (Prod.snd x_2))) :: Prod.fst (Prod.snd (Prod.snd (Prod.snd (Prod.snd x_2)))) :: Prod.fst
  (Prod.snd (Prod.snd (Prod.snd (Prod.snd (Prod.snd x_2))))) :: Prod.fst (Prod.snd (Prod.snd (Prod.snd (Prod.snd (Prod.snd (Prod.snd x_2)))))) :: Prod.fst (Prod.snd
  (Prod.snd (Prod.snd (Prod.snd (Prod.snd (Prod.snd (Prod.snd x_2))))))) :: Prod.fst (Prod.snd (Prod.snd (Prod.snd (Prod.snd (Prod.snd (Prod.snd (Prod.snd (Prod.snd
  x_2)))))))) :: Prod.fst (Prod.snd (Prod.snd (Prod.snd (Prod.snd (Prod.snd (Prod.snd (Prod.snd (Prod.snd (Prod.snd x_2))))))))) :: Prod.fst (Prod.snd (Prod.snd (Prod.snd
  (Prod.snd (Prod.snd (Prod.snd (Prod.snd (Prod.snd (Prod.snd (Prod.snd x_2)))))))))) :: Prod.snd (Prod.snd (Prod.snd (Prod.snd (Prod.snd (Prod.snd (Prod.snd (Prod.snd
  (Prod.snd (Prod.snd (Prod.snd x_2)))))))))) :: ([] : List Bool)) (Int.toNat (List.getD (Prod.fst r_9) (Int.toNat x_1) (0 : Int))) (x_1 != x)) (nat_lit 5) (x_1 != x),
  List.getD (List.set (Prod.fst x_2 :: Prod.fst (Prod.snd x_2) :: Prod.fst (Prod.snd (Prod.snd x_2)) :: Prod.fst (Prod.snd (Prod.snd (Prod.snd x_2))) :: Prod.fst (Prod.snd
  (Prod.snd (Prod.snd (Prod.snd x_2)))) :: Prod.fst (Prod.snd (Prod.snd (Prod.snd (Prod.snd (Prod.snd x_2))))) :: Prod.fst (Prod.snd (Prod.snd (Prod.snd (Prod.snd (Prod.snd
  (Prod.snd x_2)))))) :: Prod.fst (Prod.snd (Prod.snd (Prod.snd (Prod.snd (Prod.snd (Prod.snd (Prod.snd x_2))))))) :: Prod.fst (Prod.snd (Prod.snd (Prod.snd (Prod.snd
  (Prod.snd (Prod.snd (Prod.snd (Prod.snd x_2)))))))) :: Prod.fst (Prod.snd (Prod.snd (Prod.snd (Prod.snd (Prod.snd (Prod.snd (Prod.snd (Prod.snd (Prod.snd x_2))))))))) ::
  Prod.fst (Prod.snd (Prod.snd (Prod.snd (Prod.snd (Prod.snd (Prod.snd (Prod.snd (Prod.snd (Prod.snd (Prod.snd x_2)))))))))) :: Prod.snd (Prod.snd (Prod.snd (Prod.snd
  (Prod.snd (Prod.snd (Prod.snd (Prod.snd (Prod.snd (Prod.snd (Prod.snd x_2)))))))))) :: ([] : List Bool)) (Int.toNat (List.getD (Prod.fst r_9) (Int.toNat x_1) (0 : Int)))
  (x_1 != x)) (nat_lit 6) (x_1 != x), List.getD (List.set (Prod.fst x_2 :: Prod.fst (Prod.snd x_2) :: Prod.fst (Prod.snd (Prod.snd x_2)) :: Prod.fst (Prod.snd (Prod.snd
  (Prod.snd x_2))) :: Prod.fst (Prod.snd (Prod.snd (Prod.snd (Prod.snd x_2)))) :: Prod.fst (Prod.snd (Prod.snd (Prod.snd (Prod.snd (Prod.snd x_2))))) :: Prod.fst (Prod.snd
  (Prod.snd (Prod.snd (Prod.snd (Prod.snd (Prod.snd x_2)))))) :: Prod.fst (Prod.snd (Prod.snd (Prod.snd (Prod.snd (Prod.snd (Prod.snd (Prod.snd x_2))))))) :: Prod.fst
  (Prod.snd (Prod.snd (Prod.snd (Prod.snd (Prod.snd (Prod.snd (Prod.snd (Prod.snd x_2)))))))) :: Prod.fst (Prod.snd (Prod.snd (Prod.snd (Prod.snd (Prod.snd (Prod.snd
  (Prod.snd (Prod.snd (Prod.snd x_2))))))))) :: Prod.fst (Prod.snd (Prod.snd (Prod.snd (Prod.snd (Prod.snd (Prod.snd (Prod.snd (Prod.snd (Prod.snd (Prod.snd x_2))))))))))
  :: Prod.snd (Prod.snd (Prod.snd (Prod.snd (Prod.snd (Prod.snd (Prod.snd (Prod.snd (Prod.snd (Prod.snd (Prod.snd x_2)))))))))) :: ([] : List Bool)) (Int.toNat (List.getD
  (Prod.fst r_9) (Int.toNat x_1) (0 : Int))) (x_1 != x)) (nat_lit 7) (x_1 != x), List.getD (List.set (Prod.fst x_2 :: Prod.fst (Prod.snd x_2) :: Prod.fst (Prod.snd
  (Prod.snd x_2)) :: Prod.fst (Prod.snd (Prod.snd (Prod.snd x_2))) :: Prod.fst (Prod.snd (Prod.snd (Prod.snd (Prod.snd x_2)))) :: Prod.fst (Prod.snd (Prod.snd (Prod.snd
  (Prod.snd (Prod.snd x_2))))) :: Prod.fst (Prod.snd (Prod.snd (Prod.snd (Prod.snd (Prod.snd (Prod.snd x_2)))))) :: Prod.fst (Prod.snd (Prod.snd (Prod.snd (Prod.snd
  (Prod.snd (Prod.snd (Prod.snd x_2))))))) :: Prod.fst (Prod.snd (Prod.snd (Prod.snd (Prod.snd (Prod.snd (Prod.snd (Prod.snd (Prod.snd x_2)))))))) :: Prod.fst (Prod.snd
  (Prod.snd (Prod.snd (Prod.snd (Prod.snd (Prod.snd (Prod.snd (Prod.snd (Prod.snd x_2))))))))) :: Prod.fst (Prod.snd (Prod.snd (Prod.snd (Prod.snd (Prod.snd (Prod.snd
  (Prod.snd (Prod.snd (Prod.snd (Prod.snd x_2)))))))))) :: Prod.snd (Prod.snd (Prod.snd (Prod.snd (Prod.snd (Prod.snd (Prod.snd (Prod.snd (Prod.snd (Prod.snd (Prod.snd
  x_2)))))))))) :: ([] : List Bool)) (Int.toNat (List.getD (Prod.fst r_9) (Int.toNat x_1) (0 : Int))) (x_1 != x)) (nat_lit 8) (x_1 != x), List.getD (List.set (Prod.fst x_2
  :: Prod.fst (Prod.snd x_2) :: Prod.fst (Prod.snd (Prod.snd x_2)) :: Prod.fst (Prod.snd (Prod.snd (Prod.snd x_2))) :: Prod.fst (Prod.snd (Prod.snd (Prod.snd (Prod.snd
  x_2)))) :: Prod.fst (Prod.snd (Prod.snd (Prod.snd (Prod.snd (Prod.snd x_2))))) :: Prod.fst (Prod.snd (Prod.snd (Prod.snd (Prod.snd (Prod.snd (Prod.snd x_2)))))) ::
  Prod.fst (Prod.snd (Prod.snd (Prod.snd (Prod.snd (Prod.snd (Prod.snd (Prod.snd x_2))))))) :: Prod.fst (Prod.snd (Prod.snd (Prod.snd (Prod.snd (Prod.snd (Prod.snd
  (Prod.snd (Prod.snd x_2)))))))) :: Prod.fst (Prod.snd (Prod.snd (Prod.snd (Prod.snd (Prod.snd (Prod.snd (Prod.snd (Prod.snd (Prod.snd x_2))))))))) :: Prod.fst (Prod.snd
  (Prod.snd (Prod.snd (Prod.snd (Prod.snd (Prod.snd (Prod.snd (Prod.snd (Prod.snd (Prod.snd x_2)))))))))) :: Prod.snd (Prod.snd (Prod.snd (Prod.snd (Prod.snd (Prod.snd
  (Prod.snd (Prod.snd (Prod.snd (Prod.snd (Prod.snd x_2)))))))))) :: ([] : List Bool)) (Int.toNat (List.getD (Prod.fst r_9) (Int.toNat x_1) (0 : Int))) (x_1 != x)) (nat_lit
  9) (x_1 != x), List.getD (List.set (Prod.fst x_2 :: Prod.fst (Prod.snd x_2) :: Prod.fst (Prod.snd (Prod.snd x_2)) :: Prod.fst (Prod.snd (Prod.snd (Prod.snd x_2))) ::
  Prod.fst (Prod.snd (Prod.snd (Prod.snd (Prod.snd x_2)))) :: Prod.fst (Prod.snd (Prod.snd (Prod.snd (Prod.snd (Prod.snd x_2))))) :: Prod.fst (Prod.snd (Prod.snd (Prod.snd
  (Prod.snd (Prod.snd (Prod.snd x_2)))))) :: Prod.fst (Prod.snd (Prod.snd (Prod.snd (Prod.snd (Prod.snd (Prod.snd (Prod.snd x_2))))))) :: Prod.fst (Prod.snd (Prod.snd
  (Prod.snd (Prod.snd (Prod.snd (Prod.snd (Prod.snd (Prod.snd x_2)))))))) :: Prod.fst (Prod.snd (Prod.snd (Prod.snd (Prod.snd (Prod.snd (Prod.snd (Prod.snd (Prod.snd
  (Prod.snd x_2))))))))) :: Prod.fst (Prod.snd (Prod.snd (Prod.snd (Prod.snd (Prod.snd (Prod.snd (Prod.snd (Prod.snd (Prod.snd (Prod.snd x_2)))))))))) :: Prod.snd (Prod.snd
  (Prod.snd (Prod.snd (Prod.snd (Prod.snd (Prod.snd (Prod.snd (Prod.snd (Prod.snd (Prod.snd x_2)))))))))) :: ([] : List Bool)) (Int.toNat (List.getD (Prod.fst r_9)
  (Int.toNat x_1) (0 : Int))) (x_1 != x)) (nat_lit 10) (x_1 != x), List.getD (List.set (Prod.fst x_2 :: Prod.fst (Prod.snd x_2) :: Prod.fst (Prod.snd (Prod.snd x_2)) ::
  Prod.fst (Prod.snd (Prod.snd (Prod.snd x_2))) :: Prod.fst (Prod.snd (Prod.snd (Prod.snd (Prod.snd x_2)))) :: Prod.fst (Prod.snd (Prod.snd (Prod.snd (Prod.snd (Prod.snd
  x_2))))) :: Prod.fst (Prod.snd (Prod.snd (Prod.snd (Prod.snd (Prod.snd (Prod.snd x_2)))))) :: Prod.fst (Prod.snd (Prod.snd (Prod.snd (Prod.snd (Prod.snd (Prod.snd
  (Prod.snd x_2))))))) :: Prod.fst (Prod.snd (Prod.snd (Prod.snd (Prod.snd (Prod.snd (Prod.snd (Prod.snd (Prod.snd x_2)))))))) :: Prod.fst (Prod.snd (Prod.snd (Prod.snd
  (Prod.snd (Prod.snd (Prod.snd (Prod.snd (Prod.snd (Prod.snd x_2))))))))) :: Prod.fst (Prod.snd (Prod.snd (Prod.snd (Prod.snd (Prod.snd (Prod.snd (Prod.snd (Prod.snd
  (Prod.snd (Prod.snd x_2)))))))))) :: Prod.snd (Prod.snd (Prod.snd (Prod.snd (Prod.snd (Prod.snd (Prod.snd (Prod.snd (Prod.snd (Prod.snd (Prod.snd x_2)))))))))) :: ([] :
  List Bool)) (Int.toNat (List.getD (Prod.fst r_9) (Int.toNat x_1) (0 : Int))) (x_1 != x)) (nat_lit 11) (x_1 != x)) < μ_1 x_1 x_2)) (∃ (I_2 : Int → ((Int × Int) × Int ×
  Int) × List ((Int × Int) × Int × Int) → Prop), ∃ (μ_2 : Int → ((Int × Int) × Int × Int) × List ((Int × Int) × Int × Int) → Nat), I_2 (0 : Int) (((Prod.fst (Prod.fst r),
  Prod.snd (Prod.fst r)), Prod.fst (Prod.fst (Prod.snd r)), Prod.snd (Prod.fst (Prod.snd r))), ([] : List ((Int × Int) × Int × Int))) ∧ ∀ (x_3 : Int) (x_4 : ((Int × Int) ×
  Int × Int) × List ((Int × Int) × Int × Int)), I_2 x_3 x_4 → List.length (Prod.snd (Prod.snd r)) ≤ (9223372036854775807 : Nat) → cnd (decide (x_3 < (↑(List.length
  (Prod.snd (Prod.snd r))) : Int))) ((0 : Int) ≤ x_3 ∧ x_3 < (↑(12 : Nat) : Int) ∧ cnd (!List.getD (Prod.fst x_2 :: Prod.fst (Prod.snd x_2) :: Prod.fst (Prod.snd (Prod.snd
  x_2)) :: Prod.fst (Prod.snd (Prod.snd (Prod.snd x_2))) :: Prod.fst (Prod.snd (Prod.snd (Prod.snd (Prod.snd x_2)))) :: Prod.fst (Prod.snd (Prod.snd (Prod.snd (Prod.snd
  (Prod.snd x_2))))) :: Prod.fst (Prod.snd (Prod.snd (Prod.snd (Prod.snd (Prod.snd (Prod.snd x_2)))))) :: Prod.fst (Prod.snd (Prod.snd (Prod.snd (Prod.snd (Prod.snd
  (Prod.snd (Prod.snd x_2))))))) :: Prod.fst (Prod.snd (Prod.snd (Prod.snd (Prod.snd (Prod.snd (Prod.snd (Prod.snd (Prod.snd x_2)))))))) :: Prod.fst (Prod.snd (Prod.snd
  (Prod.snd (Prod.snd (Prod.snd (Prod.snd (Prod.snd (Prod.snd (Prod.snd x_2))))))))) :: Prod.fst (Prod.snd (Prod.snd (Prod.snd (Prod.snd (Prod.snd (Prod.snd (Prod.snd
  (Prod.snd (Prod.snd (Prod.snd x_2)))))))))) :: Prod.snd (Prod.snd (Prod.snd (Prod.snd (Prod.snd (Prod.snd (Prod.snd (Prod.snd (Prod.snd (Prod.snd (Prod.snd x_2))))))))))
  :: ([] : List Bool)) (Int.toNat x_3) (Prod.fst x_2)) ((0 : Int) ≤ x_3 ∧ x_3 < (↑(List.length (Prod.snd (Prod.snd r))) : Int) ∧ (List.length (Prod.snd x_4) + List.length
  (((Prod.fst (Prod.fst (List.getD (Prod.snd (Prod.snd r)) (Int.toNat x_3) (((0 : Int), (0 : Int)), (0 : Int), (0 : Int)))), Prod.snd (Prod.fst (List.getD (Prod.snd
  (Prod.snd r)) (Int.toNat x_3) (((0 : Int), (0 : Int)), (0 : Int), (0 : Int))))), Prod.fst (Prod.snd (List.getD (Prod.snd (Prod.snd r)) (Int.toNat x_3) (((0 : Int), (0 :
  Int)), (0 : Int), (0 : Int)))), Prod.snd (Prod.snd (List.getD (Prod.snd (Prod.snd r)) (Int.toNat x_3) (((0 : Int), (0 : Int)), (0 : Int), (0 : Int))))) :: ([] : List
  ((Int × Int) × Int × Int)))) * (32 : Nat) ≤ (140737488355328 : Nat) ∧ I_2 (IntKind.wrap IntKind.i64 (x_3 + (1 : Int))) (((Prod.fst (Prod.fst (Prod.fst x_4)), Prod.snd
  (Prod.fst (Prod.fst x_4))), Prod.fst (Prod.snd (Prod.fst x_4)), Prod.snd (Prod.snd (Prod.fst x_4))), Prod.snd x_4 ++ ((Prod.fst (Prod.fst (List.getD (Prod.snd (Prod.snd
  r)) (Int.toNat x_3) (((0 : Int), (0 : Int)), (0 : Int), (0 : Int)))), Prod.snd (Prod.fst (List.getD (Prod.snd (Prod.snd r)) (Int.toNat x_3) (((0 : Int), (0 : Int)), (0 :
  Int), (0 : Int))))), Prod.fst (Prod.snd (List.getD (Prod.snd (Prod.snd r)) (Int.toNat x_3) (((0 : Int), (0 : Int)), (0 : Int), (0 : Int)))), Prod.snd (Prod.snd (List.getD
  (Prod.snd (Prod.snd r)) (Int.toNat x_3) (((0 : Int), (0 : Int)), (0 : Int), (0 : Int))))) :: ([] : List ((Int × Int) × Int × Int))) ∧ μ_2 (IntKind.wrap IntKind.i64 (x_3 +
  (1 : Int))) (((Prod.fst (Prod.fst (Prod.fst x_4)), Prod.snd (Prod.fst (Prod.fst x_4))), Prod.fst (Prod.snd (Prod.fst x_4)), Prod.snd (Prod.snd (Prod.fst x_4))), Prod.snd
  x_4 ++ ((Prod.fst (Prod.fst (List.getD (Prod.snd (Prod.snd r)) (Int.toNat x_3) (((0 : Int), (0 : Int)), (0 : Int), (0 : Int)))), Prod.snd (Prod.fst (List.getD (Prod.snd
  (Prod.snd r)) (Int.toNat x_3) (((0 : Int), (0 : Int)), (0 : Int), (0 : Int))))), Prod.fst (Prod.snd (List.getD (Prod.snd (Prod.snd r)) (Int.toNat x_3) (((0 : Int), (0 :
  Int)), (0 : Int), (0 : Int)))), Prod.snd (Prod.snd (List.getD (Prod.snd (Prod.snd r)) (Int.toNat x_3) (((0 : Int), (0 : Int)), (0 : Int), (0 : Int))))) :: ([] : List
  ((Int × Int) × Int × Int))) < μ_2 x_3 x_4) (I_2 (IntKind.wrap IntKind.i64 (x_3 + (1 : Int))) (((Prod.fst (Prod.fst (Prod.fst x_4)), Prod.snd (Prod.fst (Prod.fst x_4))),
  Prod.fst (Prod.snd (Prod.fst x_4)), Prod.snd (Prod.snd (Prod.fst x_4))), Prod.snd x_4) ∧ μ_2 (IntKind.wrap IntKind.i64 (x_3 + (1 : Int))) (((Prod.fst (Prod.fst (Prod.fst
  x_4)), Prod.snd (Prod.fst (Prod.fst x_4))), Prod.fst (Prod.snd (Prod.fst x_4)), Prod.snd (Prod.snd (Prod.fst x_4))), Prod.snd x_4) < μ_2 x_3 x_4)) (f28_wp ((Prod.fst
  (Prod.fst (Prod.fst x_4)), Prod.snd (Prod.fst (Prod.fst x_4))), (Prod.fst (Prod.snd (Prod.fst x_4)), Prod.snd (Prod.snd (Prod.fst x_4))), Prod.snd x_4) () fun (r : (Int ×
  Int) × Int × Unit) ↦ ∃ (I_3 : Bool → Prop), cnd (Prod.fst (Prod.snd r) != (0 : Int)) (I_3 true) (cnd (decide (x < (0 : Int))) (cnd (decide (Prod.fst (Prod.fst r) >
  Prod.snd r_7)) (I_3 true) (cnd (decide (x ≥ (0 : Int))) (List.length (Prod.fst r_9) ≤ (9223372036854775807 : Nat) → cnd (decide ((↑(List.length (Prod.fst r_9)) : Int) >
  (1 : Int))) (I_3 (decide (Prod.fst (Prod.fst r) ≤ Prod.snd r_7))) (I_3 false)) (I_3 false))) (cnd (decide (x ≥ (0 : Int))) (List.length (Prod.fst r_9) ≤
  (9223372036854775807 : Nat) → cnd (decide ((↑(List.length (Prod.fst r_9)) : Int) > (1 : Int))) (I_3 (decide (Prod.fst (Prod.fst r) ≤ Prod.snd r_7))) (I_3 false)) (I_3
  false))) ∧ ∀ (x_5 : Bool), I_3 x_5 → cnd x_5 (Q false) (I (IntKind.wrap IntKind.i64 (x + (1 : Int))) ∧ μ (IntKind.wrap IntKind.i64 (x + (1 : Int))) < μ x)))) (List.length
  (Prod.fst r_9) ≤ (9223372036854775807 : Nat) → ∃ (I : Int → Int → ((Int × Int) × Int × Int) × List ((Int × Int) × Int × Int) → Prop), ∃ (μ : Int → Int → ((Int × Int) ×
  Int × Int) × List ((Int × Int) × Int × Int) → Nat), I (0 : Int) (IntKind.wrap IntKind.i64 ((↑(List.length (Prod.fst r_9)) : Int) - (1 : Int))) (((Prod.fst (Prod.fst r),
  Prod.snd (Prod.fst r)), Prod.fst (Prod.fst (Prod.snd r)), Prod.snd (Prod.fst (Prod.snd r))), ([] : List ((Int × Int) × Int × Int))) ∧ ∀ (x x_1 : Int) (x_2 : ((Int × Int)
  × Int × Int) × List ((Int × Int) × Int × Int)), I x x_1 x_2 → List.length (Prod.snd (Prod.snd r)) ≤ (9223372036854775807 : Nat) → cnd (decide (x < (↑(List.length
  (Prod.snd (Prod.snd r))) : Int))) (∃ (I_1 : Bool → Prop), cnd (decide (x_1 > (0 : Int))) (f29_wp (b, x, ()) () fun (r_12 : Int) ↦ (2 : Int) ≠ (0 : Int) ∧ cnd (Int.tmod
  r_12 (2 : Int) == (0 : Int)) (I_1 true) (List.length (Prod.snd (Prod.snd r)) ≤ (9223372036854775807 : Nat) → I_1 (decide (IntKind.wrap IntKind.i64 ((↑(List.length
  (Prod.snd (Prod.snd r))) : Int) - x) ≤ x_1)))) (I_1 false) ∧ ∀ (x_3 : Bool), I_1 x_3 → cnd x_3 (I (IntKind.wrap IntKind.i64 (x + (1 : Int))) (IntKind.wrap IntKind.i64
  (x_1 - (1 : Int))) (((Prod.fst (Prod.fst (Prod.fst x_2)), Prod.snd (Prod.fst (Prod.fst x_2))), Prod.fst (Prod.snd (Prod.fst x_2)), Prod.snd (Prod.snd (Prod.fst x_2))),
  Prod.snd x_2) ∧ μ (IntKind.wrap IntKind.i64 (x + (1 : Int))) (IntKind.wrap IntKind.i64 (x_1 - (1 : Int))) (((Prod.fst (Prod.fst (Prod.fst x_2)), Prod.snd (Prod.fst
  (Prod.fst x_2))), Prod.fst (Prod.snd (Prod.fst x_2)), Prod.snd (Prod.snd (Prod.fst x_2))), Prod.snd x_2) < μ x x_1 x_2) ((0 : Int) ≤ x ∧ x < (↑(List.length (Prod.snd
  (Prod.snd r))) : Int) ∧ (List.length (Prod.snd x_2) + List.length (((Prod.fst (Prod.fst (List.getD (Prod.snd (Prod.snd r)) (Int.toNat x) (((0 : Int), (0 : Int)), (0 :
  Int), (0 : Int)))), Prod.snd (Prod.fst (List.getD (Prod.snd (Prod.snd r)) (Int.toNat x) (((0 : Int), (0 : Int)), (0 : Int), (0 : Int))))), Prod.fst (Prod.snd (List.getD
  (Prod.snd (Prod.snd r)) (Int.toNat x) (((0 : Int), (0 : Int)), (0 : Int), (0 : Int)))), Prod.snd (Prod.snd (List.getD (Prod.snd (Prod.snd r)) (Int.toNat x) (((0 : Int),
  (0 : Int)), (0 : Int), (0 : Int))))) :: ([] : List ((Int × Int) × Int × Int)))) * (32 : Nat) ≤ (140737488355328 : Nat) ∧ I (IntKind.wrap IntKind.i64 (x + (1 : Int))) x_1
  (((Prod.fst (Prod.fst (Prod.fst x_2)), Prod.snd (Prod.fst (Prod.fst x_2))), Prod.fst (Prod.snd (Prod.fst x_2)), Prod.snd (Prod.snd (Prod.fst x_2))), Prod.snd x_2 ++
  ((Prod.fst (Prod.fst (List.getD (Prod.snd (Prod.snd r)) (Int.toNat x) (((0 : Int), (0 : Int)), (0 : Int), (0 : Int)))), Prod.snd (Prod.fst (List.getD (Prod.snd (Prod.snd
  r)) (Int.toNat x) (((0 : Int), (0 : Int)), (0 : Int), (0 : Int))))), Prod.fst (Prod.snd (List.getD (Prod.snd (Prod.snd r)) (Int.toNat x) (((0 : Int), (0 : Int)), (0 :
  Int), (0 : Int)))), Prod.snd (Prod.snd (List.getD (Prod.snd (Prod.snd r)) (Int.toNat x) (((0 : Int), (0 : Int)), (0 : Int), (0 : Int))))) :: ([] : List ((Int × Int) × Int
  × Int))) ∧ μ (IntKind.wrap IntKind.i64 (x + (1 : Int))) x_1 (((Prod.fst (Prod.fst (Prod.fst x_2)), Prod.snd (Prod.fst (Prod.fst x_2))), Prod.fst (Prod.snd (Prod.fst
  x_2)), Prod.snd (Prod.snd (Prod.fst x_2))), Prod.snd x_2 ++ ((Prod.fst (Prod.fst (List.getD (Prod.snd (Prod.snd r)) (Int.toNat x) (((0 : Int), (0 : Int)), (0 : Int), (0 :
  Int)))), Prod.snd (Prod.fst (List.getD (Prod.snd (Prod.snd r)) (Int.toNat x) (((0 : Int), (0 : Int)), (0 : Int), (0 : Int))))), Prod.fst (Prod.snd (List.getD (Prod.snd
  (Prod.snd r)) (Int.toNat x) (((0 : Int), (0 : Int)), (0 : Int), (0 : Int)))), Prod.snd (Prod.snd (List.getD (Prod.snd (Prod.snd r)) (Int.toNat x) (((0 : Int), (0 : Int)),
  (0 : Int), (0 : Int))))) :: ([] : List ((Int × Int) × Int × Int))) < μ x x_1 x_2)) (f28_wp ((Prod.fst (Prod.fst (Prod.fst x_2)), Prod.snd (Prod.fst (Prod.fst x_2))),
  (Prod.fst (Prod.snd (Prod.fst x_2)), Prod.snd (Prod.snd (Prod.fst x_2))), Prod.snd x_2) () fun (r : (Int × Int) × Int × Unit) ↦ cnd (Prod.fst (Prod.snd r) == (0 : Int))
  (List.length (Prod.fst r_9) ≤ (9223372036854775807 : Nat) → cnd ((↑(List.length (Prod.fst r_9)) : Int) == (1 : Int)) (f10_wp () () fun (r : Bool) ↦ Q r) (cnd (decide
  (Prod.fst (Prod.fst r) > Prod.snd r_7)) (f10_wp () () fun (r : Bool) ↦ Q r) (Q false))) (Q false))))))))))
theorem v5 (x : (Int × Int) × (Int × Int) × List (Int × Int × Int × Int)) (b : List Int) (v : Int × Int × Int) (Q : Bool → Prop) : V5 x b v Q = vcFunc (S1 [(21, f21_ct), (24, f24_ct), (23, f23_ct), (22, f22_ct), (26, f26_ct), (27, f27_ct), (25, f25_ct), (28, f28_ct), (10, f10_ct), (29, f29_ct)] [] [] []) f5_ct.own f5_ct.fresh f5_an Try.f5 (bodyOf Try.f5) f5_ct.A f5_ct.C f5_ct.R (x, b, v, ()) () Q := by kernel_rfl

def V6 (x : (Int × Int) × (Int × Int) × List (Int × Int × Int × Int)) (d : Int) (v : Int × Int) (Q : Bool → Prop) : Prop :=
  f21_wp ((Prod.fst (Prod.fst x), Prod.snd (Prod.fst x)), (Prod.fst (Prod.fst (Prod.snd x)), Prod.snd (Prod.fst (Prod.snd x))), Prod.snd (Prod.snd x)) () fun (r : (Int ×
  Int) × (Int × Int) × List ((Int × Int) × Int × Int)) ↦ (361 : Int) ≠ (0 : Int) ∧ f11_wp ((Prod.fst (Prod.fst r), Prod.snd (Prod.fst r)), (Prod.fst (Prod.fst (Prod.snd
  r)), Prod.snd (Prod.fst (Prod.snd r))), Prod.snd (Prod.snd r)) () fun (r_1 : (Int × Int) × (Int × Int) × List ((Int × Int) × Int × Int)) ↦ f30_wp (((Prod.fst (Prod.fst
  r_1), Prod.snd (Prod.fst r_1)), (Prod.fst (Prod.fst (Prod.snd r_1)), Prod.snd (Prod.fst (Prod.snd r_1))), Prod.snd (Prod.snd r_1)), Int.tmod (IntKind.wrap IntKind.i64 d)
  (361 : Int), ()) () fun (r_2 : Int × Int × Unit) ↦ ∃ (I : Bool → Prop), cnd (Prod.fst (Prod.snd r_2) == (0 : Int)) (cnd (decide (Prod.fst r_2 < (1 : Int))) (I true) (cnd
  (decide (Prod.fst r_2 > (41 : Int))) (I true) (List.length (Prod.snd (Prod.snd r)) ≤ (9223372036854775807 : Nat) → cnd ((↑(List.length (Prod.snd (Prod.snd r))) : Int) ==
  (0 : Int)) (I true) (cnd (Prod.fst (Prod.snd r_2) != (0 : Int)) (cnd (Prod.fst (Prod.snd r_2) != (7 : Int)) (I true) (I (Prod.fst r_2 != (0 : Int)))) (I false))))) (cnd
  (Prod.fst (Prod.snd r_2) != (0 : Int)) (cnd (Prod.fst (Prod.snd r_2) != (7 : Int)) (I true) (I (Prod.fst r_2 != (0 : Int)))) (I false)) ∧ ∀ (x : Bool), I x → cnd x (Q
  false) (∃ (I : Int → Prop), ∃ (μ : Int → Nat), I (0 : Int) ∧ ∀ (x : Int), I x → cnd (decide (x < (2 : Int))) ((0 : Int) ≤ x ∧ x < (↑(2 : Nat) : Int) ∧ ∃ (I_1 : Int →
  Prop), cnd (Prod.fst (Prod.snd r_2) != (0 : Int)) (I_1 (40 : Int)) (I_1 (List.getD (IntKind.wrap IntKind.i64 (Prod.fst r_2 - (2 : Int)) :: IntKind.wrap IntKind.i64
  (Prod.fst r_2 - (1 : Int)) :: ([] : List Int)) (Int.toNat x) (IntKind.wrap IntKind.i64 (Prod.fst r_2 - (2 : Int))))) ∧ ∀ (x_1 : Int), I_1 x_1 → cnd (decide (x_1 < (0 :
  Int))) (I (IntKind.wrap IntKind.i64 (x + (1 : Int))) ∧ μ (IntKind.wrap IntKind.i64 (x + (1 : Int))) < μ x) (List.length (Prod.snd (Prod.snd r)) ≤ (9223372036854775807 :
  Nat) → cnd ((↑(List.length (Prod.snd (Prod.snd r))) : Int) == (0 : Int)) (I (IntKind.wrap IntKind.i64 (x + (1 : Int))) ∧ μ (IntKind.wrap IntKind.i64 (x + (1 : Int))) < μ
  x) (∃ (I_2 : Int → ((Int × Int) × Int × Int) × List ((Int × Int) × Int × Int) → Prop), ∃ (μ_1 : Int → ((Int × Int) × Int × Int) × List ((Int × Int) × Int × Int) → Nat),
  I_2 (0 : Int) (((Prod.fst (Prod.fst r), Prod.snd (Prod.fst r)), Prod.fst (Prod.fst (Prod.snd r)), Prod.snd (Prod.fst (Prod.snd r))), ([] : List ((Int × Int) × Int ×
  Int))) ∧ ∀ (x_2 : Int) (x_3 : ((Int × Int) × Int × Int) × List ((Int × Int) × Int × Int)), I_2 x_2 x_3 → cnd (decide (x_2 < x_1)) ((0 : Int) ≤ (0 : Int) ∧ (0 : Int) <
  (↑(List.length (Prod.snd (Prod.snd r))) : Int) ∧ (List.length (Prod.snd x_3) + List.length (((Prod.fst (Prod.fst (List.getD (Prod.snd (Prod.snd r)) (Int.toNat (0 : Int))
  (((0 : Int), (0 : Int)), (0 : Int), (0 : Int)))), Prod.snd (Prod.fst (List.getD (Prod.snd (Prod.snd r)) (Int.toNat (0 : Int)) (((0 : Int), (0 : Int)), (0 : Int), (0 :
  Int))))), Prod.fst (Prod.snd (List.getD (Prod.snd (Prod.snd r)) (Int.toNat (0 : Int)) (((0 : Int), (0 : Int)), (0 : Int), (0 : Int)))), Prod.snd (Prod.snd (List.getD
  (Prod.snd (Prod.snd r)) (Int.toNat (0 : Int)) (((0 : Int), (0 : Int)), (0 : Int), (0 : Int))))) :: ([] : List ((Int × Int) × Int × Int)))) * (32 : Nat) ≤ (140737488355328
  : Nat) ∧ I_2 (IntKind.wrap IntKind.i64 (x_2 + (1 : Int))) (((Prod.fst (Prod.fst (Prod.fst x_3)), Prod.snd (Prod.fst (Prod.fst x_3))), Prod.fst (Prod.snd (Prod.fst x_3)),
  Prod.snd (Prod.snd (Prod.fst x_3))), Prod.snd x_3 ++ ((Prod.fst (Prod.fst (List.getD (Prod.snd (Prod.snd r)) (Int.toNat (0 : Int)) (((0 : Int), (0 : Int)), (0 : Int), (0
  : Int)))), Prod.snd (Prod.fst (List.getD (Prod.snd (Prod.snd r)) (Int.toNat (0 : Int)) (((0 : Int), (0 : Int)), (0 : Int), (0 : Int))))), Prod.fst (Prod.snd (List.getD
  (Prod.snd (Prod.snd r)) (Int.toNat (0 : Int)) (((0 : Int), (0 : Int)), (0 : Int), (0 : Int)))), Prod.snd (Prod.snd (List.getD (Prod.snd (Prod.snd r)) (Int.toNat (0 :
  Int)) (((0 : Int), (0 : Int)), (0 : Int), (0 : Int))))) :: ([] : List ((Int × Int) × Int × Int))) ∧ μ_1 (IntKind.wrap IntKind.i64 (x_2 + (1 : Int))) (((Prod.fst (Prod.fst
  (Prod.fst x_3)), Prod.snd (Prod.fst (Prod.fst x_3))), Prod.fst (Prod.snd (Prod.fst x_3)), Prod.snd (Prod.snd (Prod.fst x_3))), Prod.snd x_3 ++ ((Prod.fst (Prod.fst
  (List.getD (Prod.snd (Prod.snd r)) (Int.toNat (0 : Int)) (((0 : Int), (0 : Int)), (0 : Int), (0 : Int)))), Prod.snd (Prod.fst (List.getD (Prod.snd (Prod.snd r))
  (Int.toNat (0 : Int)) (((0 : Int), (0 : Int)), (0 : Int), (0 : Int))))), Prod.fst (Prod.snd (List.getD (Prod.snd (Prod.snd r)) (Int.toNat (0 : Int)) (((0 : Int), (0 :
  Int)), (0 : Int), (0 : Int)))), Prod.snd (Prod.snd (List.getD (Prod.snd (Prod.snd r)) (Int.toNat (0 : Int)) (((0 : Int), (0 : Int)), (0 : Int), (0 : Int))))) :: ([] :
  List ((Int × Int) × Int × Int))) < μ_1 x_2 x_3) (f28_wp ((Prod.fst (Prod.fst (Prod.fst x_3)), Prod.snd (Prod.fst (Prod.fst x_3))), (Prod.fst (Prod.snd (Prod.fst x_3)),
  Prod.snd (Prod.snd (Prod.fst x_3))), Prod.snd x_3) () fun (r : (Int × Int) × Int × Unit) ↦ cnd (Prod.fst (Prod.snd r) != (0 : Int)) (Q false) (cnd (x == (1 : Int)) (cnd
  (!decide (Prod.fst (Prod.fst r) ≥ Int.tmod (IntKind.wrap IntKind.i64 d) (361 : Int)) == (Prod.fst (Prod.snd r_2) == (0 : Int))) (Q false) (I (IntKind.wrap IntKind.i64 (x
  + (1 : Int))) ∧ μ (IntKind.wrap IntKind.i64 (x + (1 : Int))) < μ x)) (cnd (!decide (Prod.fst (Prod.fst r) ≥ Int.tmod (IntKind.wrap IntKind.i64 d) (361 : Int)) == false)
  (Q false) (I (IntKind.wrap IntKind.i64 (x + (1 : Int))) ∧ μ (IntKind.wrap IntKind.i64 (x + (1 : Int))) < μ x))))))) (f11_wp ((Prod.fst (Prod.fst r), Prod.snd (Prod.fst
  r)), (Prod.fst (Prod.fst (Prod.snd r)), Prod.snd (Prod.fst (Prod.snd r))), Prod.snd (Prod.snd r)) () fun (r_3 : (Int × Int) × (Int × Int) × List ((Int × Int) × Int ×
  Int)) ↦ f31_wp (((Prod.fst (Prod.fst r_3), Prod.snd (Prod.fst r_3)), (Prod.fst (Prod.fst (Prod.snd r_3)), Prod.snd (Prod.fst (Prod.snd r_3))), Prod.snd (Prod.snd r_3)),
  Int.tmod (IntKind.wrap IntKind.i64 d) (361 : Int), ()) () fun (r_4 : Int × Int × Unit) ↦ ∃ (I : Bool → Prop), cnd (Prod.fst (Prod.snd r_4) == (0 : Int)) (cnd (decide
  (Prod.fst r_4 < (0 : Int))) (I true) (cnd (decide (Prod.fst r_4 > (1000 : Int))) (I true) (cnd (Prod.fst (Prod.snd r_4) != (0 : Int)) (cnd (Prod.fst (Prod.snd r_4) != (7
  : Int)) (I true) (I (Prod.fst r_4 != (0 : Int)))) (I false)))) (cnd (Prod.fst (Prod.snd r_4) != (0 : Int)) (cnd (Prod.fst (Prod.snd r_4) != (7 : Int)) (I true) (I
  (Prod.fst r_4 != (0 : Int)))) (I false)) ∧ ∀ (x : Bool), I x → cnd x (Q false) (∃ (I : Int → Prop), ∃ (μ : Int → Nat), I (0 : Int) ∧ ∀ (x : Int), I x → cnd (decide (x <
  (2 : Int))) ((0 : Int) ≤ x ∧ x < (↑(2 : Nat) : Int) ∧ ∃ (I_1 : Int → Prop), cnd (Prod.fst (Prod.snd r_4) != (0 : Int)) (I_1 (1000 : Int)) (I_1 (List.getD (IntKind.wrap
  IntKind.i64 (Prod.fst r_4 - (1 : Int)) :: Prod.fst r_4 :: ([] : List Int)) (Int.toNat x) (IntKind.wrap IntKind.i64 (Prod.fst r_4 - (1 : Int))))) ∧ ∀ (x_1 : Int), I_1 x_1
  → cnd (decide (x_1 < (0 : Int))) (I (IntKind.wrap IntKind.i64 (x + (1 : Int))) ∧ μ (IntKind.wrap IntKind.i64 (x + (1 : Int))) < μ x) (f11_wp ((Prod.fst (Prod.fst r),
  Prod.snd (Prod.fst r)), (Prod.fst (Prod.fst (Prod.snd r)), Prod.snd (Prod.fst (Prod.snd r))), Prod.snd (Prod.snd r)) () fun (r : (Int × Int) × (Int × Int) × List ((Int ×
  Int) × Int × Int)) ↦ ∃ (I_2 : Int → List ((Int × Int) × Int × Int) → Prop), ∃ (μ_1 : Int → List ((Int × Int) × Int × Int) → Nat), I_2 (0 : Int) (Prod.snd (Prod.snd r)) ∧
  ∀ (x_2 : Int) (x_3 : List ((Int × Int) × Int × Int)), I_2 x_2 x_3 → List.length x_3 ≤ (9223372036854775807 : Nat) → cnd (decide (x_2 < (↑(List.length x_3) : Int))) (∃ (r
  : Int × Int), (f27_wp (x_1, x_1, ()) () fun (r' : Int × Int) ↦ r' = r) ∧ (0 : Int) ≤ x_2 ∧ x_2 < (↑(List.length x_3) : Int) ∧ I_2 (IntKind.wrap IntKind.i64 (x_2 + (1 :
  Int))) (List.set x_3 (Int.toNat x_2) ((Prod.fst r, Prod.snd r), Prod.fst (Prod.snd (List.getD x_3 (Int.toNat x_2) (((0 : Int), (0 : Int)), (0 : Int), (0 : Int)))),
  Prod.snd (Prod.snd (List.getD x_3 (Int.toNat x_2) (((0 : Int), (0 : Int)), (0 : Int), (0 : Int)))))) ∧ μ_1 (IntKind.wrap IntKind.i64 (x_2 + (1 : Int))) (List.set x_3
  (Int.toNat x_2) ((Prod.fst r, Prod.snd r), Prod.fst (Prod.snd (List.getD x_3 (Int.toNat x_2) (((0 : Int), (0 : Int)), (0 : Int), (0 : Int)))), Prod.snd (Prod.snd
  (List.getD x_3 (Int.toNat x_2) (((0 : Int), (0 : Int)), (0 : Int), (0 : Int)))))) < μ_1 x_2 x_3) (f28_wp ((Prod.fst (Prod.fst r), Prod.snd (Prod.fst r)), (Prod.fst
  (Prod.fst (Prod.snd r)), Prod.snd (Prod.fst (Prod.snd r))), x_3) () fun (r : (Int × Int) × Int × Unit) ↦ cnd (Prod.fst (Prod.snd r) != (0 : Int)) (Q false) (cnd (x == (1
  : Int)) (cnd (!decide (Prod.fst (Prod.fst r) ≥ Int.tmod (IntKind.wrap IntKind.i64 d) (361 : Int)) == (Prod.fst (Prod.snd r_4) == (0 : Int))) (Q false) (I (IntKind.wrap
  IntKind.i64 (x + (1 : Int))) ∧ μ (IntKind.wrap IntKind.i64 (x + (1 : Int))) < μ x)) (cnd (!decide (Prod.fst (Prod.fst r) ≥ Int.tmod (IntKind.wrap IntKind.i64 d) (361 :
  Int)) == false) (Q false) (I (IntKind.wrap IntKind.i64 (x + (1 : Int))) ∧ μ (IntKind.wrap IntKind.i64 (x + (1 : Int))) < μ x)))))) (f11_wp ((Prod.fst (Prod.fst r),
  Prod.snd (Prod.fst r)), (Prod.fst (Prod.fst (Prod.snd r)), Prod.snd (Prod.fst (Prod.snd r))), Prod.snd (Prod.snd r)) () fun (r_5 : (Int × Int) × (Int × Int) × List ((Int
  × Int) × Int × Int)) ↦ f32_wp (((Prod.fst (Prod.fst r_5), Prod.snd (Prod.fst r_5)), (Prod.fst (Prod.fst (Prod.snd r_5)), Prod.snd (Prod.fst (Prod.snd r_5))), Prod.snd
  (Prod.snd r_5)), IntKind.wrap IntKind.i64 (Prod.fst v), ()) () fun (r_6 : Int × Int × Int × Unit) ↦ List.length (Prod.snd (Prod.snd r)) ≤ (9223372036854775807 : Nat) →
  cnd ((↑(List.length (Prod.snd (Prod.snd r))) : Int) == (0 : Int)) (cnd (Prod.fst (Prod.snd (Prod.snd r_6)) == (7 : Int)) (cnd (Prod.fst r_6 == (0 : Int)) (cnd (Prod.fst
  (Prod.snd r_6) == (0 : Int)) (f10_wp () () fun (r : Bool) ↦ Q r) (Q false)) (Q false)) (Q false)) (cnd (Prod.fst (Prod.snd (Prod.snd r_6)) != (0 : Int)) (Q false) (cnd
  (decide (Prod.fst r_6 < (0 : Int))) (Q false) (List.length (Prod.snd (Prod.snd r)) ≤ (9223372036854775807 : Nat) → cnd (decide (Prod.fst r_6 ≥ (↑(List.length (Prod.snd
  (Prod.snd r))) : Int))) (Q false) (∃ (I : Int → Prop), ∃ (μ : Int → Nat), I (0 : Int) ∧ ∀ (x : Int), I x → cnd (decide (x < (2 : Int))) (List.length (Prod.snd (Prod.snd
  r)) ≤ (9223372036854775807 : Nat) → (↑(List.length (Prod.snd (Prod.snd r))) : Int) ≠ (0 : Int) ∧ (0 : Int) ≤ x ∧ x < (↑(2 : Nat) : Int) ∧ f11_wp ((Prod.fst (Prod.fst r),
  Prod.snd (Prod.fst r)), (Prod.fst (Prod.fst (Prod.snd r)), Prod.snd (Prod.fst (Prod.snd r))), Prod.snd (Prod.snd r)) () fun (r_7 : (Int × Int) × (Int × Int) × List ((Int
  × Int) × Int × Int)) ↦ (0 : Int) ≤ List.getD (Prod.fst r_6 :: Int.tmod (IntKind.wrap IntKind.i64 (Prod.snd v)) (↑(List.length (Prod.snd (Prod.snd r))) : Int) :: ([] :
  List Int)) (Int.toNat x) (Prod.fst r_6) ∧ List.getD (Prod.fst r_6 :: Int.tmod (IntKind.wrap IntKind.i64 (Prod.snd v)) (↑(List.length (Prod.snd (Prod.snd r))) : Int) ::
  ([] : List Int)) (Int.toNat x) (Prod.fst r_6) < (↑(List.length (Prod.snd (Prod.snd r_7))) : Int) ∧ (0 : Int) ≤ List.getD (Prod.fst r_6 :: Int.tmod (IntKind.wrap
  IntKind.i64 (Prod.snd v)) (↑(List.length (Prod.snd (Prod.snd r))) : Int) :: ([] : List Int)) (Int.toNat x) (Prod.fst r_6) ∧ List.getD (Prod.fst r_6 :: Int.tmod
  (IntKind.wrap IntKind.i64 (Prod.snd v)) (↑(List.length (Prod.snd (Prod.snd r))) : Int) :: ([] : List Int)) (Int.toNat x) (Prod.fst r_6) < (↑(List.length (Prod.snd
  (Prod.snd r_7))) : Int) ∧ ∃ (r_8 : Int × Int), (f27_wp (IntKind.wrap IntKind.i64 (Prod.fst (Prod.fst (List.getD (Prod.snd (Prod.snd r_7)) (Int.toNat (List.getD (Prod.fst
  r_6 :: Int.tmod (IntKind.wrap IntKind.i64 (Prod.snd v)) (↑(List.length (Prod.snd (Prod.snd r))) : Int) :: ([] : List Int)) (Int.toNat x) (Prod.fst r_6))) (((0 : Int), (0
  : Int)), (0 : Int), (0 : Int)))) + IntKind.wrap IntKind.i64 (Prod.fst v)), IntKind.wrap IntKind.i64 (Prod.snd (Prod.fst (List.getD (Prod.snd (Prod.snd r_7)) (Int.toNat
  (List.getD (Prod.fst r_6 :: Int.tmod (IntKind.wrap IntKind.i64 (Prod.snd v)) (↑(List.length (Prod.snd (Prod.snd r))) : Int) :: ([] : List Int)) (Int.toNat x) (Prod.fst
  r_6))) (((0 : Int), (0 : Int)), (0 : Int), (0 : Int)))) + IntKind.wrap IntKind.i64 (Prod.fst v)), ()) () fun (r' : Int × Int) ↦ r' = r_8) ∧ (0 : Int) ≤ List.getD
  (Prod.fst r_6 :: Int.tmod (IntKind.wrap IntKind.i64 (Prod.snd v)) (↑(List.length (Prod.snd (Prod.snd r))) : Int) :: ([] : List Int)) (Int.toNat x) (Prod.fst r_6) ∧
  List.getD (Prod.fst r_6 :: Int.tmod (IntKind.wrap IntKind.i64 (Prod.snd v)) (↑(List.length (Prod.snd (Prod.snd r))) : Int) :: ([] : List Int)) (Int.toNat x) (Prod.fst
  r_6) < (↑(List.length (Prod.snd (Prod.snd r_7))) : Int) ∧ f28_wp ((Prod.fst (Prod.fst r_7), Prod.snd (Prod.fst r_7)), (Prod.fst (Prod.fst (Prod.snd r_7)), Prod.snd
  (Prod.fst (Prod.snd r_7))), List.set (Prod.snd (Prod.snd r_7)) (Int.toNat (List.getD (Prod.fst r_6 :: Int.tmod (IntKind.wrap IntKind.i64 (Prod.snd v)) (↑(List.length
  (Prod.snd (Prod.snd r))) : Int) :: ([] : List Int)) (Int.toNat x) (Prod.fst r_6))) ((Prod.fst r_8, Prod.snd r_8), Prod.fst (Prod.snd (List.getD (Prod.snd (Prod.snd r_7))
  (Int.toNat (List.getD (Prod.fst r_6 :: Int.tmod (IntKind.wrap IntKind.i64 (Prod.snd v)) (↑(List.length (Prod.snd (Prod.snd r))) : Int) :: ([] : List Int)) (Int.toNat x)
  (Prod.fst r_6))) (((0 : Int), (0 : Int)), (0 : Int), (0 : Int)))), Prod.snd (Prod.snd (List.getD (Prod.snd (Prod.snd r_7)) (Int.toNat (List.getD (Prod.fst r_6 :: Int.tmod
  (IntKind.wrap IntKind.i64 (Prod.snd v)) (↑(List.length (Prod.snd (Prod.snd r))) : Int) :: ([] : List Int)) (Int.toNat x) (Prod.fst r_6))) (((0 : Int), (0 : Int)), (0 :
  Int), (0 : Int)))))) () fun (r_9 : (Int × Int) × Int × Unit) ↦ ∃ (I_1 : Bool → Prop), cnd (Prod.fst (Prod.snd r_9) != (0 : Int)) (I_1 true) (cnd (x == (0 : Int)) (cnd
  (Prod.fst (Prod.fst r_9) != Prod.fst (Prod.snd r_6)) (I_1 true) (cnd (decide (Prod.fst (Prod.fst r_9) > Prod.fst (Prod.snd r_6))) (I_1 true) (cnd (Prod.fst (Prod.fst r_9)
  == Prod.fst (Prod.snd r_6)) (I_1 (decide (List.getD (Prod.fst r_6 :: Int.tmod (IntKind.wrap IntKind.i64 (Prod.snd v)) (↑(List.length (Prod.snd (Prod.snd r))) : Int) ::
  ([] : List Int)) (Int.toNat x) (Prod.fst r_6) < Prod.fst r_6))) (I_1 false)))) (cnd (decide (Prod.fst (Prod.fst r_9) > Prod.fst (Prod.snd r_6))) (I_1 true) (cnd (Prod.fst
  (Prod.fst r_9) == Prod.fst (Prod.snd r_6)) (I_1 (decide (List.getD (Prod.fst r_6 :: Int.tmod (IntKind.wrap IntKind.i64 (Prod.snd v)) (↑(List.length (Prod.snd (Prod.snd
  r))) : Int) :: ([] : List Int)) (Int.toNat x) (Prod.fst r_6) < Prod.fst r_6))) (I_1 false)))) ∧ ∀ (x_1 : Bool), I_1 x_1 → cnd x_1 (Q false) (I (IntKind.wrap IntKind.i64
  (x + (1 : Int))) ∧ μ (IntKind.wrap IntKind.i64 (x + (1 : Int))) < μ x)) (f10_wp () () fun (r : Bool) ↦ Q r)))))))))
theorem v6 (x : (Int × Int) × (Int × Int) × List (Int × Int × Int × Int)) (d : Int) (v : Int × Int) (Q : Bool → Prop) : V6 x d v Q = vcFunc (S1 [(21, f21_ct), (26, f26_ct), (30, f30_ct), (31, f31_ct), (32, f32_ct), (28, f28_ct), (27, f27_ct), (10, f10_ct)] [] [] []) f6_ct.own f6_ct.fresh f6_an Try.f6 (bodyOf Try.f6) f6_ct.A f6_ct.C f6_ct.R (x, d, v, ()) () Q := by kernel_rfl

end Go.Proofs.Rv
set_option linter.unusedVariables false
set_option maxRecDepth 100000
namespace Go.Proofs.Rv
open Go Go.GX Go.Proofs

theorem len0 {α : Type} {l : List α} : ((l.length : Int) == 0) = false → l.length ≠ 0 := by
  intro h hh
  rw [hh] at h
  simp at h
theorem len0' {α : Type} {l : List α} : ((l.length : Int) == 0) = true → l.length = 0 := by
  intro h
  have h : (l.length : Int) = 0 := by simpa using h
  omega
structure SmallFan (f : Fan) : Prop where
  ok : CheckOK f
  n : f.2.2.length ≤ 12
  far : f.1.2 ≤ 2600
  near : f.2.1.2 ≤ 294
  lo : 300 ≤ f.1.1
  g : ∀ g, g ∈ f.2.2 → (0 ≤ g.1.1 ∧ g.1.1 ≤ g.1.2 ∧ g.1.2 ≤ 540) ∧ 0 ≤ g.2.1 ∧ g.2.1 ≤ g.2.2 ∧ g.2.2 ≤ 70
theorem nb (a b : Bool) (h : a = b) : (!(a == b)) = false := by rw [h]; cases b <;> rfl
end Go.Proofs.Rv
set_option linter.unusedVariables false
set_option maxRecDepth 100000
namespace Go.Proofs.Rv
open Go Go.GX Go.Proofs

def V8 (s : List (Int × Int × Int × Int × Int)) (b : List Int) (far : Int) (Q : Bool → Prop) : Prop :=
  ∃ (I : Int → List ((Int × Int) × (Int × Int) × Int) → Int → Int → Int → Int → Prop), ∃ (μ : Int → List ((Int × Int) × (Int × Int) × Int) → Int → Int → Int → Int → Nat), I
  (0 : Int) ([] : List ((Int × Int) × (Int × Int) × Int)) (0 : Int) (0 : Int) (0 : Int) (0 : Int) ∧ ∀ (x : Int) (x_1 : List ((Int × Int) × (Int × Int) × Int)) (x_2 x_3 x_4
  x_5 : Int), I x x_1 x_2 x_3 x_4 x_5 → ∃ (I_1 : Bool → Prop), (List.length s ≤ (9223372036854775807 : Nat) → cnd (decide (x < (↑(List.length s) : Int))) (I_1 (decide (x <
  (11 : Int)))) (I_1 false)) ∧ ∀ (x_6 : Bool), I_1 x_6 → cnd x_6 ((0 : Int) ≤ x ∧ x < (↑(List.length s) : Int) ∧ (40 : Int) ≠ (0 : Int) ∧ ∃ (r : Int × Int), (f27_wp
  (IntKind.wrap IntKind.i64 ((1 : Int) + IntKind.wrap IntKind.i64 (Prod.fst (List.getD s (Int.toNat x) ((0 : Int), (0 : Int), (0 : Int), (0 : Int), (0 : Int))))),
  IntKind.wrap IntKind.i64 (IntKind.wrap IntKind.i64 ((1 : Int) + IntKind.wrap IntKind.i64 (Prod.fst (List.getD s (Int.toNat x) ((0 : Int), (0 : Int), (0 : Int), (0 : Int),
  (0 : Int))))) + Int.tmod (IntKind.wrap IntKind.i64 (Prod.fst (Prod.snd (List.getD s (Int.toNat x) ((0 : Int), (0 : Int), (0 : Int), (0 : Int), (0 : Int)))))) (40 : Int)),
  ()) () fun (r' : Int × Int) ↦ r' = r) ∧ (80 : Int) ≠ (0 : Int) ∧ (80 : Int) ≠ (0 : Int) ∧ (20 : Int) ≠ (0 : Int) ∧ ∃ (r_1 : Int × Int), (f27_wp (IntKind.wrap IntKind.i64
  ((1 : Int) + Int.tmod (IntKind.wrap IntKind.i64 (Prod.fst (Prod.snd (Prod.snd (List.getD s (Int.toNat x) ((0 : Int), (0 : Int), (0 : Int), (0 : Int), (0 : Int))))))) (80
  : Int)), IntKind.wrap IntKind.i64 (IntKind.wrap IntKind.i64 ((1 : Int) + Int.tmod (IntKind.wrap IntKind.i64 (Prod.fst (Prod.snd (Prod.snd (List.getD s (Int.toNat x) ((0 :
  Int), (0 : Int), (0 : Int), (0 : Int), (0 : Int))))))) (80 : Int)) + Int.tmod (IntKind.wrap IntKind.i64 (Prod.fst (Prod.snd (Prod.snd (Prod.snd (List.getD s (Int.toNat x)
  ((0 : Int), (0 : Int), (0 : Int), (0 : Int), (0 : Int)))))))) (20 : Int)), ()) () fun (r' : Int × Int) ↦ r' = r_1) ∧ (List.length x_1 + List.length (((Prod.fst r,
  Prod.snd r), (Prod.fst r_1, Prod.snd r_1), IntKind.wrap IntKind.i64 ((7 : Int) * IntKind.wrap IntKind.i64 (Prod.snd (Prod.snd (Prod.snd (Prod.snd (List.getD s (Int.toNat
  x) ((0 : Int), (0 : Int), (0 : Int), (0 : Int), (0 : Int))))))))) :: ([] : List ((Int × Int) × (Int × Int) × Int)))) * (40 : Nat) ≤ (140737488355328 : Nat) ∧ ∃ (r_2 :
  Int), (f29_wp (b, IntKind.wrap IntKind.i64 ((2 : Int) * x), ()) () fun (r' : Int) ↦ r' = r_2) ∧ ∃ (r_3 : Int), (f37_wp ((Prod.fst r, Prod.snd r), r_2, ()) () fun (r' :
  Int) ↦ r' = r_3) ∧ ∃ (r_4 : Int), (f29_wp (b, IntKind.wrap IntKind.i64 (IntKind.wrap IntKind.i64 ((2 : Int) * x) + (1 : Int)), ()) () fun (r' : Int) ↦ r' = r_4) ∧ ∃ (r_5
  : Int), (f37_wp ((Prod.fst r_1, Prod.snd r_1), r_4, ()) () fun (r' : Int) ↦ r' = r_5) ∧ I (IntKind.wrap IntKind.i64 (x + (1 : Int))) (x_1 ++ ((Prod.fst r, Prod.snd r),
  (Prod.fst r_1, Prod.snd r_1), IntKind.wrap IntKind.i64 ((7 : Int) * IntKind.wrap IntKind.i64 (Prod.snd (Prod.snd (Prod.snd (Prod.snd (List.getD s (Int.toNat x) ((0 :
  Int), (0 : Int), (0 : Int), (0 : Int), (0 : Int))))))))) :: ([] : List ((Int × Int) × (Int × Int) × Int))) (IntKind.wrap IntKind.i64 (x_2 + r_3)) (IntKind.wrap
  IntKind.i64 (x_3 + r_5)) (IntKind.wrap IntKind.i64 (x_4 + IntKind.wrap IntKind.i64 (r_3 * IntKind.wrap IntKind.i64 ((7 : Int) * IntKind.wrap IntKind.i64 (Prod.snd
  (Prod.snd (Prod.snd (Prod.snd (List.getD s (Int.toNat x) ((0 : Int), (0 : Int), (0 : Int), (0 : Int), (0 : Int))))))))))) (mxI x_5 (IntKind.wrap IntKind.i64 ((7 : Int) *
  IntKind.wrap IntKind.i64 (Prod.snd (Prod.snd (Prod.snd (Prod.snd (List.getD s (Int.toNat x) ((0 : Int), (0 : Int), (0 : Int), (0 : Int), (0 : Int)))))))))) ∧ μ
  (IntKind.wrap IntKind.i64 (x + (1 : Int))) (x_1 ++ ((Prod.fst r, Prod.snd r), (Prod.fst r_1, Prod.snd r_1), IntKind.wrap IntKind.i64 ((7 : Int) * IntKind.wrap IntKind.i64
  (Prod.snd (Prod.snd (Prod.snd (Prod.snd (List.getD s (Int.toNat x) ((0 : Int), (0 : Int), (0 : Int), (0 : Int), (0 : Int))))))))) :: ([] : List ((Int × Int) × (Int × Int)
  × Int))) (IntKind.wrap IntKind.i64 (x_2 + r_3)) (IntKind.wrap IntKind.i64 (x_3 + r_5)) (IntKind.wrap IntKind.i64 (x_4 + IntKind.wrap IntKind.i64 (r_3 * IntKind.wrap
  IntKind.i64 ((7 : Int) * IntKind.wrap IntKind.i64 (Prod.snd (Prod.snd (Prod.snd (Prod.snd (List.getD s (Int.toNat x) ((0 : Int), (0 : Int), (0 : Int), (0 : Int), (0 :
  Int))))))))))) (mxI x_5 (IntKind.wrap IntKind.i64 ((7 : Int) * IntKind.wrap IntKind.i64 (Prod.snd (Prod.snd (Prod.snd (Prod.snd (List.getD s (Int.toNat x) ((0 : Int), (0
  : Int), (0 : Int), (0 : Int), (0 : Int)))))))))) < μ x x_1 x_2 x_3 x_4 x_5) (f16_wp x_1 () fun (r : List ((Int × Int) × (Int × Int) × Int)) ↦ f33_wp r () fun (r : (Int ×
  Int) × (Int × Int) × Int × Unit) ↦ f16_wp x_1 () fun (r_1 : List ((Int × Int) × (Int × Int) × Int)) ↦ f17_wp r_1 () fun (r_2 : (Int × Int) × (Int × Int) × Int × Unit) ↦
  f16_wp x_1 () fun (r_3 : List ((Int × Int) × (Int × Int) × Int)) ↦ f27_wp (x_3, x_3, ()) () fun (r_4 : Int × Int) ↦ f34_wp (r_3, (Prod.fst r_4, Prod.snd r_4), ()) () fun
  (r_5 : Bool × Bool × Int × Unit) ↦ cnd (Prod.fst (Prod.snd (Prod.snd r)) != (0 : Int)) (Q false) (cnd (Prod.fst (Prod.snd (Prod.snd r_5)) != (0 : Int)) (Q false) (cnd
  (decide (x_2 < Prod.fst (Prod.fst r))) (Q false) (cnd (decide (x_2 > Prod.snd (Prod.fst r))) (Q false) (cnd (decide (x_3 < Prod.fst (Prod.fst (Prod.snd r)))) (Q false)
  (cnd (decide (x_3 > Prod.snd (Prod.fst (Prod.snd r)))) (Q false) (cnd (!Prod.fst (Prod.snd r_5)) (Q false) (cnd (!Prod.fst r_5 == (x_3 == Prod.snd (Prod.fst (Prod.snd
  r)))) (Q false) (List.length x_1 ≤ (9223372036854775807 : Nat) → cnd ((↑(List.length x_1) : Int) == (0 : Int)) (cnd (Prod.fst (Prod.snd (Prod.snd r_2)) == (7 : Int))
  (f10_wp () () fun (r : Bool) ↦ Q r) (Q false)) (cnd (Prod.fst (Prod.snd (Prod.snd r_2)) != (0 : Int)) (Q false) (cnd (decide (Prod.snd (Prod.fst r_2) < (1 : Int))) (Q
  false) (cnd (decide (Prod.snd (Prod.fst (Prod.snd r_2)) < (1 : Int))) (Q false) (cnd (decide (Prod.fst (Prod.fst r_2) < (0 : Int))) (Q false) (cnd (decide (Prod.fst
  (Prod.fst (Prod.snd r_2)) < (0 : Int))) (Q false) (cnd (decide (Prod.snd (Prod.fst r_2) > (1048576 : Int))) (Q false) (cnd (decide (Prod.snd (Prod.fst (Prod.snd r_2)) >
  (1048576 : Int))) (Q false) (cnd (decide (Prod.fst (Prod.fst r_2) > (2147483648 : Int))) (Q false) (cnd (decide (Prod.fst (Prod.fst (Prod.snd r_2)) > (2147483648 : Int)))
  (Q false) (cnd (decide (IntKind.wrap IntKind.i64 (x_4 * Prod.snd (Prod.fst r_2)) < IntKind.wrap IntKind.i64 (Prod.fst (Prod.fst r_2) * x_2))) (Q false) (cnd (decide
  (IntKind.wrap IntKind.i64 (x_4 * Prod.snd (Prod.fst (Prod.snd r_2))) > IntKind.wrap IntKind.i64 (Prod.fst (Prod.fst (Prod.snd r_2)) * x_2))) (Q false) (∃ (I : Int →
  Prop), ∃ (μ : Int → Nat), I (0 : Int) ∧ ∀ (x : Int), I x → cnd (decide (x < (2 : Int))) ((0 : Int) ≤ x ∧ x < (↑(2 : Nat) : Int) ∧ cnd (decide (x = (↑(0 : Nat) : Int))) (∃
  (I_2 : Int → Int → Int → Prop), ∃ (μ_1 : Int → Int → Int → Nat), I_2 (0 : Int) (0 : Int) (0 : Int) ∧ ∀ (x_7 x_8 x_9 : Int), I_2 x_7 x_8 x_9 → List.length x_1 ≤
  (9223372036854775807 : Nat) → cnd (decide (x_7 < (↑(List.length x_1) : Int))) ((0 : Int) ≤ x_7 ∧ x_7 < (↑(List.length x_1) : Int) ∧ (0 : Int) ≤ x_7 ∧ x_7 < (↑(List.length
  x_1) : Int) ∧ ∃ (I : Int → Prop), cnd (decide (IntKind.wrap IntKind.i64 (Prod.snd (Prod.snd (List.getD x_1 (Int.toNat x_7) (((0 : Int), (0 : Int)), ((0 : Int), (0 :
  Int)), (0 : Int)))) * Prod.snd (Prod.fst r_2)) ≤ Prod.fst (Prod.fst r_2)) == (x == (0 : Int))) ((0 : Int) ≤ x_7 ∧ x_7 < (↑(List.length x_1) : Int) ∧ I (Prod.snd (Prod.fst
  (List.getD x_1 (Int.toNat x_7) (((0 : Int), (0 : Int)), ((0 : Int), (0 : Int)), (0 : Int)))))) (I (Prod.fst (Prod.fst (List.getD x_1 (Int.toNat x_7) (((0 : Int), (0 :
  Int)), ((0 : Int), (0 : Int)), (0 : Int)))))) ∧ ∀ (x : Int), I x → (0 : Int) ≤ x_7 ∧ x_7 < (↑(List.length x_1) : Int) ∧ I_2 (IntKind.wrap IntKind.i64 (x_7 + (1 : Int)))
  (IntKind.wrap IntKind.i64 (x_8 + IntKind.wrap IntKind.i64 (x * Prod.snd (Prod.snd (List.getD x_1 (Int.toNat x_7) (((0 : Int), (0 : Int)), ((0 : Int), (0 : Int)), (0 :
  Int))))))) (IntKind.wrap IntKind.i64 (x_9 + x)) ∧ μ_1 (IntKind.wrap IntKind.i64 (x_7 + (1 : Int))) (IntKind.wrap IntKind.i64 (x_8 + IntKind.wrap IntKind.i64 (x * Prod.snd
  (Prod.snd (List.getD x_1 (Int.toNat x_7) (((0 : Int), (0 : Int)), ((0 : Int), (0 : Int)), (0 : Int))))))) (IntKind.wrap IntKind.i64 (x_9 + x)) < μ_1 x_7 x_8 x_9) (cnd
  (IntKind.wrap IntKind.i64 (x_8 * Prod.snd (Prod.fst r_2)) != IntKind.wrap IntKind.i64 (Prod.fst (Prod.fst r_2) * x_9)) (Q false) (I (IntKind.wrap IntKind.i64 (x + (1 :
  Int))) ∧ μ (IntKind.wrap IntKind.i64 (x + (1 : Int))) < μ x))) (cnd (decide (x = (↑((0 : Nat) + (1 : Nat)) : Int))) (∃ (I_2 : Int → Int → Int → Prop), ∃ (μ_1 : Int → Int
  → Int → Nat), I_2 (0 : Int) (0 : Int) (0 : Int) ∧ ∀ (x_7 x_8 x_9 : Int), I_2 x_7 x_8 x_9 → List.length x_1 ≤ (9223372036854775807 : Nat) → cnd (decide (x_7 <
  (↑(List.length x_1) : Int))) ((0 : Int) ≤ x_7 ∧ x_7 < (↑(List.length x_1) : Int) ∧ (0 : Int) ≤ x_7 ∧ x_7 < (↑(List.length x_1) : Int) ∧ ∃ (I : Int → Prop), cnd (decide
  (IntKind.wrap IntKind.i64 (Prod.snd (Prod.snd (List.getD x_1 (Int.toNat x_7) (((0 : Int), (0 : Int)), ((0 : Int), (0 : Int)), (0 : Int)))) * Prod.snd (Prod.fst (Prod.snd
  r_2))) ≤ Prod.fst (Prod.fst (Prod.snd r_2))) == (x == (0 : Int))) ((0 : Int) ≤ x_7 ∧ x_7 < (↑(List.length x_1) : Int) ∧ I (Prod.snd (Prod.fst (List.getD x_1 (Int.toNat
  x_7) (((0 : Int), (0 : Int)), ((0 : Int), (0 : Int)), (0 : Int)))))) (I (Prod.fst (Prod.fst (List.getD x_1 (Int.toNat x_7) (((0 : Int), (0 : Int)), ((0 : Int), (0 :
  Int)), (0 : Int)))))) ∧ ∀ (x : Int), I x → (0 : Int) ≤ x_7 ∧ x_7 < (↑(List.length x_1) : Int) ∧ I_2 (IntKind.wrap IntKind.i64 (x_7 + (1 : Int))) (IntKind.wrap IntKind.i64
  (x_8 + IntKind.wrap IntKind.i64 (x * Prod.snd (Prod.snd (List.getD x_1 (Int.toNat x_7) (((0 : Int), (0 : Int)), ((0 : Int), (0 : Int)), (0 : Int))))))) (IntKind.wrap
  IntKind.i64 (x_9 + x)) ∧ μ_1 (IntKind.wrap IntKind.i64 (x_7 + (1 : Int))) (IntKind.wrap IntKind.i64 (x_8 + IntKind.wrap IntKind.i64 (x * Prod.snd (Prod.snd (List.getD x_1
  (Int.toNat x_7) (((0 : Int), (0 : Int)), ((0 : Int), (0 : Int)), (0 : Int))))))) (IntKind.wrap IntKind.i64 (x_9 + x)) < μ_1 x_7 x_8 x_9) (cnd (IntKind.wrap IntKind.i64
  (x_8 * Prod.snd (Prod.fst (Prod.snd r_2))) != IntKind.wrap IntKind.i64 (Prod.fst (Prod.fst (Prod.snd r_2)) * x_9)) (Q false) (I (IntKind.wrap IntKind.i64 (x + (1 : Int)))
  ∧ μ (IntKind.wrap IntKind.i64 (x + (1 : Int))) < μ x))) False)) (f16_wp x_1 () fun (r : List ((Int × Int) × (Int × Int) × Int)) ↦ f27_wp ((1 : Int), IntKind.wrap
  IntKind.i64 ((1 : Int) + IntKind.wrap IntKind.i64 far), ()) () fun (r_6 : Int × Int) ↦ f27_wp ((1 : Int), (1 : Int), ()) () fun (r_7 : Int × Int) ↦ (List.length r +
  List.length (((Prod.fst r_6, Prod.snd r_6), (Prod.fst r_7, Prod.snd r_7), IntKind.wrap IntKind.i64 (x_5 + IntKind.wrap IntKind.i64 far)) :: ([] : List ((Int × Int) × (Int
  × Int) × Int)))) * (40 : Nat) ≤ (140737488355328 : Nat) ∧ f17_wp (r ++ ((Prod.fst r_6, Prod.snd r_6), (Prod.fst r_7, Prod.snd r_7), IntKind.wrap IntKind.i64 (x_5 +
  IntKind.wrap IntKind.i64 far)) :: ([] : List ((Int × Int) × (Int × Int) × Int))) () fun (r : (Int × Int) × (Int × Int) × Int × Unit) ↦ cnd (Prod.fst (Prod.snd (Prod.snd
  r)) == (0 : Int)) (cnd (decide (Prod.snd (Prod.fst r) > (0 : Int))) (cnd (decide (Prod.snd (Prod.fst (Prod.snd r)) > (0 : Int))) (cnd (decide (Prod.snd (Prod.fst r) ≤
  (1048576 : Int))) (cnd (decide (Prod.snd (Prod.fst (Prod.snd r)) ≤ (1048576 : Int))) (cnd (decide (Prod.fst (Prod.fst r) ≥ (0 : Int))) (cnd (decide (Prod.fst (Prod.fst
  (Prod.snd r)) ≥ (0 : Int))) (cnd (decide (Prod.fst (Prod.fst r) ≤ (2147483648 : Int))) (cnd (decide (Prod.fst (Prod.fst (Prod.snd r)) ≤ (2147483648 : Int))) (cnd (decide
  (IntKind.wrap IntKind.i64 (Prod.fst (Prod.fst r) * Prod.snd (Prod.fst r_2)) ≥ IntKind.wrap IntKind.i64 (Prod.fst (Prod.fst r_2) * Prod.snd (Prod.fst r)))) (cnd (decide
  (IntKind.wrap IntKind.i64 (Prod.fst (Prod.fst (Prod.snd r)) * Prod.snd (Prod.fst (Prod.snd r_2))) ≥ IntKind.wrap IntKind.i64 (Prod.fst (Prod.fst (Prod.snd r_2)) *
  Prod.snd (Prod.fst (Prod.snd r))))) (f10_wp () () fun (r : Bool) ↦ Q r) (Q false)) (Q false)) (Q false)) (Q false)) (Q false)) (Q false)) (Q false)) (Q false)) (Q false))
  (Q false)) (Q false)))))))))))))))))))))))
theorem v8 (s : List (Int × Int × Int × Int × Int)) (b : List Int) (far : Int) (Q : Bool → Prop) : V8 s b far Q = vcFunc (S1 [(27, f27_ct), (29, f29_ct), (37, f37_ct), (16, f16_ct), (33, f33_ct), (17, f17_ct), (34, f34_ct), (10, f10_ct)] [] [] [100]) f8_ct.own f8_ct.fresh f8_an Try.f8 (bodyOf Try.f8) f8_ct.A f8_ct.C f8_ct.R (s, b, far, ()) () Q := by kernel_rfl

end Go.Proofs.Rv
set_option linter.unusedVariables false
set_option maxRecDepth 100000
namespace Go.Proofs.Rv
open Go Go.GX Go.Proofs

def stickG (r : Folded5) : Stick := ((1 + r.1, 1 + r.1 + Int.tmod r.2.1 40), (1 + Int.tmod r.2.2.1 80, 1 + Int.tmod r.2.2.1 80 + Int.tmod r.2.2.2.1 20), 7 * r.2.2.2.2)
abbrev z5 : Folded5 := (0, 0, 0, 0, 0)
theorem stickG_ok {r : Folded5} (h : row5OK r) : (1 ≤ (stickG r).1.1 ∧ (stickG r).1.1 ≤ (stickG r).1.2 ∧ (stickG r).1.2 ≤ 300) ∧ (1 ≤ (stickG r).2.1.1 ∧ (stickG r).2.1.1 ≤ (stickG r).2.1.2 ∧ (stickG r).2.1.2 ≤ 100) ∧ 0 ≤ (stickG r).2.2 ∧ (stickG r).2.2 ≤ 1785 := by
  obtain ⟨q1, q2, q3, q4, q5⟩ := h
  unfold byteB at q1 q2 q3 q4 q5
  have v1 := Int.emod_nonneg r.2.1 (show (40 : Int) ≠ 0 by omega)
  have v2 := Int.emod_lt_of_pos r.2.1 (show (0 : Int) < 40 by omega)
  have v3 := Int.emod_nonneg r.2.2.1 (show (80 : Int) ≠ 0 by omega)
  have v4 := Int.emod_lt_of_pos r.2.2.1 (show (0 : Int) < 80 by omega)
  have v5 := Int.emod_nonneg r.2.2.2.1 (show (20 : Int) ≠ 0 by omega)
  have v6 := Int.emod_lt_of_pos r.2.2.2.1 (show (0 : Int) < 20 by omega)
  have y1 : Int.tmod r.2.1 40 = r.2.1 % 40 := Int.tmod_eq_emod_of_nonneg q2.1
  have y2 : Int.tmod r.2.2.1 80 = r.2.2.1 % 80 := Int.tmod_eq_emod_of_nonneg q3.1
  have y3 : Int.tmod r.2.2.2.1 20 = r.2.2.2.1 % 20 := Int.tmod_eq_emod_of_nonneg q4.1
  unfold stickG
  dsimp only
  omega

def sticksL (s : List Folded5) : List Stick := (s.take 11).map stickG
theorem sticksL_len (s : List Folded5) : (sticksL s).length = min 11 s.length := by unfold sticksL; rw [List.length_map, List.length_take]
theorem sticksL_getD {s : List Folded5} {k : Nat} (hk : k < 11) (hs : k < s.length) : (sticksL s).getD k s0 = stickG (s.getD k z5) := by
  have hl := sticksL_len s
  rw [getD_lt (by omega), getD_lt hs]
  unfold sticksL
  rw [List.getElem_map, List.getElem_take]
theorem sticksL_ok {s : List Folded5} (h : ∀ r, r ∈ s → row5OK r) : (sticksL s).length ≤ 11 ∧ ∀ x, x ∈ sticksL s → (1 ≤ x.1.1 ∧ x.1.1 ≤ x.1.2 ∧ x.1.2 ≤ 300) ∧ (1 ≤ x.2.1.1 ∧ x.2.1.1 ≤ x.2.1.2 ∧ x.2.1.2 ≤ 100) ∧ 0 ≤ x.2.2 ∧ x.2.2 ≤ 1785 := by
  refine ⟨by rw [sticksL_len]; omega, fun x hx => ?_⟩
  obtain ⟨r, hr, rfl⟩ := List.mem_map.1 (show x ∈ (s.take 11).map stickG from hx)
  exact stickG_ok (h r (List.mem_of_mem_take hr))

structure Trth (L : List Stick) (k : Nat) (w t n p : Int) : Prop where
  att : AttR (L.take k) (n, w)
  w1 : (sumW L k).1 ≤ w ∧ w ≤ (sumW L k).2
  t1 : (sumT L k).1 ≤ t ∧ t ≤ (sumT L k).2
  wr : 0 ≤ w ∧ w ≤ 300 * k
  tr : 0 ≤ t ∧ t ≤ 100 * k
  nr : 0 ≤ n ∧ n ≤ 535500 * k
  p1 : 0 ≤ p ∧ p ≤ 1785
  far : ∀ x, x ∈ L.take k → x.2.2 ≤ p
theorem mxI_max (a b : Int) : mxI a b = max a b := by unfold mxI; omega
theorem cnd_ff {c : Bool} {p q : Prop} (hc : c = false) (h : q) : cnd c p q := by rw [hc]; exact h
theorem dF {p : Prop} [Decidable p] (h : ¬ p) : decide p = false := decide_eq_false h

theorem end_loop {L : List Stick} (h : SticksOK L) {E : Nat → Span → Int} (hE : ∀ i s, E i s = s.1 ∨ E i s = s.2) {body : (Int → Int → Int → Prop) → (Int → Int → Int → Nat) → Int → Int → Int → Prop} {e : Int → Int → Prop}
    (hb : ∀ k : Nat, k < L.length → ∀ (I : Int → Int → Int → Prop) (μ : Int → Int → Int → Nat),
      (I (IntKind.wrap .i64 ((k : Int) + 1)) (IntKind.wrap .i64 ((cenK L E k).1 + IntKind.wrap .i64 (E k (L.getD k s0).1 * (L.getD k s0).2.2))) (IntKind.wrap .i64 ((cenK L E k).2 + E k (L.getD k s0).1)) ∧ μ (IntKind.wrap .i64 ((k : Int) + 1)) (IntKind.wrap .i64 ((cenK L E k).1 + IntKind.wrap .i64 (E k (L.getD k s0).1 * (L.getD k s0).2.2))) (IntKind.wrap .i64 ((cenK L E k).2 + E k (L.getD k s0).1)) < μ k (cenK L E k).1 (cenK L E k).2) → body I μ k (cenK L E k).1 (cenK L E k).2)
    (he : e (cenK L E L.length).1 (cenK L E L.length).2) :
    ∃ (I : Int → Int → Int → Prop) (μ : Int → Int → Int → Nat), I 0 0 0 ∧ ∀ x s t, I x s t → L.length ≤ 9223372036854775807 → cnd (decide (x < (L.length : Int))) (body I μ x s t) (e s t) := by
  refine forUp2L (fun k => (cenK L E k).1) (fun k => (cenK L E k).2) rfl rfl (fun k hk I μ hI hw => ?_) he
  refine hb k hk I μ ?_
  have hn := h.n
  have hs := h.s _ (getD_mem (d := s0) hk)
  have hc := cen_le (l := L) (e := E) (fun i x hx => by have := h.s x hx; rcases hE i x.1 with hb | hb <;> rw [hb] <;> omega) k (by omega)
  have hv : 0 ≤ E k (L.getD k s0).1 ∧ E k (L.getD k s0).1 ≤ 10000 := by rcases hE k (L.getD k s0).1 with hb | hb <;> rw [hb] <;> omega
  have hm := mulB hv.1 hv.2 hs.2.2.1 hs.2.2.2
  rw [cenK_succ] at hI
  rw [hw, wrapS (x := E k (L.getD k s0).1 * (L.getD k s0).2.2) (by omega) (by omega), wrapS (x := (cenK L E k).1 + E k (L.getD k s0).1 * (L.getD k s0).2.2) (by omega) (by omega), wrapS (x := (cenK L E k).2 + E k (L.getD k s0).1) (by omega) (by omega)]
  exact hI
theorem gen16 {l : List Stick} {K : List Stick → Prop} (h : l.length ≤ 1000000) (hk : K l) : f16_wp l () K := ⟨h, hk⟩
theorem gen27 {a b : Int} {K : Span → Prop} (hk : K (a, b)) : f27_wp (a, b, ()) () K := hk
theorem gen33 {l : List Stick} {K : Span × Span × Int × Unit → Prop} (hk : ∀ z, z = closedF l → K z) : f33_wp l () K := hk _ rfl
theorem gen17 {l : List Stick} {K : Ratio × Ratio × Int × Unit → Prop} (hk : ∀ z, z = balanceF l → K z) : f17_wp l () K := hk _ rfl
theorem gen34 {l : List Stick} {r : Span} {K : Bool × Bool × Int × Unit → Prop} (hk : ∀ z, z = holdsF l r → K z) : f34_wp (l, r, ()) () K := hk _ rfl
theorem p8 {s : List Folded5} {b : List Int} {far : Int} {Q : Bool → Prop} (h : f8_wp (s, b, far, ()) () Q) : V8 s b far Q := by
  obtain ⟨⟨hs, hb, hf1, hf2⟩, h⟩ := h
  have hs : ∀ r, r ∈ s → row5OK r := hs
  have hb : ∀ x, x ∈ b → byteB x := hb
  have hf1 : 0 ≤ far := hf1
  have hf2 : far ≤ 255 := hf2
  have h : Q true := h
  obtain ⟨L, hL⟩ : ∃ L, L = sticksL s := ⟨_, rfl⟩
  have hlen : L.length = min 11 s.length := by rw [hL]; exact sticksL_len s
  obtain ⟨l11, lok⟩ := sticksL_ok hs
  rw [← hL] at l11 lok
  have so : SticksOK L := ⟨by omega, fun x hx => by have := lok x hx; omega⟩
  refine ⟨fun x l w t n p => ∃ k : Nat, k ≤ L.length ∧ x = k ∧ l = L.take k ∧ Trth L k w t n p, fun x _ _ _ _ _ => (L.length - x).toNat, ⟨0, Nat.zero_le _, rfl, rfl, ⟨.nil, ⟨Int.le_refl _, Int.le_refl _⟩, ⟨Int.le_refl _, Int.le_refl _⟩, by omega, by omega, by omega, by omega, fun x hx => by simp at hx⟩⟩, ?_⟩
  rintro _ _ w t n p ⟨k, hk, rfl, rfl, T⟩
  refine ⟨fun c => c = decide (k < L.length), fun hsl => ?_, ?_⟩
  · refine cnd_iff.2 ⟨fun c => ?_, fun c => ?_⟩
    · have c : (k : Int) < s.length := of_decide_eq_true c
      show decide ((k : Int) < 11) = decide (k < L.length)
      exact decide_eq_decide.2 (by omega)
    · have c : ¬ (k : Int) < s.length := of_decide_eq_false c
      show false = decide (k < L.length)
      exact (decide_eq_false (by omega)).symm
  rintro _ rfl
  refine cnd_iff.2 ⟨fun c => ?_, fun c => ?_⟩
  · have c : k < L.length := of_decide_eq_true c
    have k11 : k < 11 := by omega
    have ks : k < s.length := by omega
    have hg := hs _ (getD_mem (d := z5) ks)
    have hx := sticksL_getD (s := s) k11 ks
    rw [← hL] at hx
    have ok := stickG_ok hg
    have okL := lok _ (getD_mem (d := s0) c)
    obtain ⟨r, hr⟩ : ∃ r, r = s.getD k z5 := ⟨_, rfl⟩
    obtain ⟨q1, q2, q3, q4, q5⟩ := hg
    rw [← hr] at ok q1 q2 q3 q4 q5 hx
    have b0 : ∀ x, byteB x → IntKind.wrap .i64 x = x := fun x hx => by unfold byteB at hx; exact wrapS (by omega) (by omega)
    have u1 := b0 _ q1
    have u2 := b0 _ q2
    have u3 := b0 _ q3
    have u4 := b0 _ q4
    have u5 := b0 _ q5
    unfold byteB at q1 q2 q3 q4 q5
    rw [show Int.toNat (k : Int) = k from rfl, ← hr, u1, u2, u3, u4, u5]
    obtain ⟨o1, o2, o3⟩ := ok
    have w1 : IntKind.wrap .i64 (1 + r.1) = (stickG r).1.1 := wrapS (by omega) (by omega)
    have w2 : IntKind.wrap .i64 ((stickG r).1.1 + Int.tmod r.2.1 40) = (stickG r).1.2 := wrapS (show -9223372036854775808 ≤ (stickG r).1.2 by omega) (show (stickG r).1.2 ≤ 9223372036854775807 by omega)
    have w3 : IntKind.wrap .i64 (1 + Int.tmod r.2.2.1 80) = (stickG r).2.1.1 := wrapS (show -9223372036854775808 ≤ (stickG r).2.1.1 by omega) (show (stickG r).2.1.1 ≤ 9223372036854775807 by omega)
    have w4 : IntKind.wrap .i64 ((stickG r).2.1.1 + Int.tmod r.2.2.2.1 20) = (stickG r).2.1.2 := wrapS (show -9223372036854775808 ≤ (stickG r).2.1.2 by omega) (show (stickG r).2.1.2 ≤ 9223372036854775807 by omega)
    have w5 : IntKind.wrap .i64 (7 * r.2.2.2.2) = (stickG r).2.2 := wrapS (by omega) (by omega)
    rw [w1, w2, w3, w4, w5, wrapS (x := 2 * (k : Int)) (by omega) (by omega), wrapS (x := 2 * (k : Int) + 1) (by omega) (by omega), wrapS (x := (k : Int) + 1) (by omega) (by omega)]
    have sp1 : spanOK (stickG r).1 := by unfold spanOK; omega
    have sp2 : spanOK (stickG r).2.1 := by unfold spanOK; omega
    have y1 := byteF_ok hb (show (0 : Int) ≤ 2 * k by omega)
    have y2 := byteF_ok hb (show (0 : Int) ≤ 2 * k + 1 by omega)
    have i1 := insF_ok sp1 y1.1
    have i2 := insF_ok sp2 y2.1
    obtain ⟨one, hone⟩ : ∃ one, one = insF (stickG r).1 (byteF b (2 * k)) := ⟨_, rfl⟩
    obtain ⟨two, htwo⟩ : ∃ two, two = insF (stickG r).2.1 (byteF b (2 * k + 1)) := ⟨_, rfl⟩
    rw [← hone] at i1
    rw [← htwo] at i2
    have hm := mulB (show 0 ≤ one by omega) (show one ≤ 300 by omega) o3.1 o3.2
    have tw := T.wr
    have tt := T.tr
    have tn := T.nr
    have tp := T.p1
    refine ⟨by omega, by omega, by omega, _, rfl, by omega, by omega, by omega, _, rfl, ?_, _, ⟨⟨hb, by show (0 : Int) ≤ 2 * k; omega, by show 2 * (k : Int) ≤ 1000000; omega⟩, rfl⟩, one, ⟨⟨sp1, y1.1⟩, hone.symm⟩, _, ⟨⟨hb, by show (0 : Int) ≤ 2 * k + 1; omega, by show 2 * (k : Int) + 1 ≤ 1000000; omega⟩, rfl⟩, two, ⟨⟨sp2, y2.1⟩, htwo.symm⟩, ?_⟩
    · simp only [List.length_take, List.length_cons, List.length_nil]; omega
    rw [wrapS (x := w + one) (by omega) (by omega), wrapS (x := t + two) (by omega) (by omega), wrapS (x := one * (stickG r).2.2) (by omega) (by omega), wrapS (x := n + one * (stickG r).2.2) (by omega) (by omega), mxI_max]
    refine ⟨⟨k + 1, c, by push_cast; rfl, ?_, ?_⟩, by show ((L.length : Int) - ((k : Int) + 1)).toNat < ((L.length : Int) - (k : Int)).toNat; omega⟩
    · rw [take_succ_getD (d := s0) c, hx]
    · have a1 := T.att.snoc (s := L.getD k s0) (w := one) (by rw [hx]; omega)
      rw [← take_succ_getD (d := s0) c, hx] at a1
      have a2 := T.w1
      have a3 := T.t1
      refine ⟨a1, ?_, ?_, by push_cast; omega, by push_cast; omega, by push_cast; omega, by omega, fun y hy => ?_⟩
      · rw [sumW_succ, hx]; dsimp only; omega
      · rw [sumT_succ, hx]; dsimp only; omega
      · rw [take_succ_getD (d := s0) c, hx] at hy
        rcases List.mem_append.1 hy with hy | hy
        · have := T.far y hy; omega
        · have : y = stickG r := by simpa using hy
          rw [this]; omega
  have c : ¬ k < L.length := of_decide_eq_false c
  have hkL : k = L.length := by omega
  subst hkL
  rw [List.take_length]
  obtain ⟨att, tw1, tt1, wr, tr, nr, p1, tfar⟩ := T
  rw [List.take_length] at att tfar
  have e0 : closedE L = 0 := closedE_ok.2 so
  have ec : closedF L = (sumW L L.length, sumT L L.length, 0, ()) := by unfold closedF; rw [if_neg (by omega)]
  have hn := so.n
  have eh : holdsF L (t, t) = (decide (t ≥ (sumT L L.length).2), decide (t ≥ (sumT L L.length).1), 0, ()) := by
    unfold holdsF
    rw [if_neg (by omega), if_neg (by rw [isSpan_iff.2 (by dsimp only; omega)]; simp)]
  refine gen16 (l := L) (by omega) (gen33 (l := L) fun z hz => ?_)
  rw [ec] at hz
  subst hz
  refine gen16 (l := L) (by omega) (gen17 (l := L) fun B hB => ?_)
  refine gen16 (l := L) (by omega) ?_
  refine gen27 (gen34 (l := L) (r := (t, t)) fun y hy => ?_)
  rw [eh] at hy
  subst hy
  refine cndF (cndF (cnd_ff (dF (by dsimp only; omega)) (cnd_ff (dF (by dsimp only; omega)) (cnd_ff (dF (by dsimp only; omega)) (cnd_ff (dF (by dsimp only; omega)) (cnd_ff ?_ (cnd_ff ?_ ?_)))))))
  · show (!decide (t ≥ (sumT L L.length).1)) = false
    rw [decide_eq_true tt1.1]; rfl
  · refine nb _ _ ?_
    show decide (t ≥ (sumT L L.length).2) = (t == (sumT L L.length).2)
    rw [Bool.eq_iff_iff, decide_eq_true_iff, beq_iff_eq]
    omega
  intro _
  refine cnd_iff.2 ⟨fun c0 => ?_, fun c0 => ?_⟩
  · have c0 := len0' c0
    have eb : balanceF L = ((0, 0), (0, 0), 7, ()) := by unfold balanceF; rw [if_neg (by omega), if_pos c0]
    rw [hB, eb]
    exact cndT h
  have c0 := len0 c0
  have eb : balanceF L = (lowF (balK (sortP L) (L.length + 1)).1, lowF (balK (sortP L) (L.length + 1)).2, 0, ()) := by unfold balanceF; rw [if_neg (by omega), if_neg c0]
  obtain ⟨a1, a2⟩ := bal_att so c0
  have g1 := att_good so c0 a1
  have g2 := att_good so c0 a2
  have y1 : B.1 = lowF (balK (sortP L) (L.length + 1)).1 := by rw [hB, eb]
  have y2 : B.2.1 = lowF (balK (sortP L) (L.length + 1)).2 := by rw [hB, eb]
  have y3 : B.2.2.1 = 0 := by rw [hB, eb]
  have l1 := low_good g1
  have l2 := low_good g2
  rw [← y1] at l1
  rw [← y2] at l2
  have r1 := (low_leR (x := (n, w)) g1.2.1).1 (balR_low so c0 att)
  have r2 := (low_leR (x := (n, w)) g2.2.1).2 (balR_high so c0 att)
  rw [← y1] at r1
  rw [← y2] at r2
  unfold goodR at l1 l2
  unfold leR at r1 r2
  dsimp only at r1 r2
  have m1 := mulB nr.1 (show n ≤ 6000000 by omega) (show 0 ≤ B.1.2 by omega) l1.2.2
  have m2 := mulB l1.1.1 l1.1.2 wr.1 (show w ≤ 4000 by omega)
  have m3 := mulB nr.1 (show n ≤ 6000000 by omega) (show 0 ≤ B.2.1.2 by omega) l2.2.2
  have m4 := mulB l2.1.1 l2.1.2 wr.1 (show w ≤ 4000 by omega)
  rw [wrapS (x := n * B.1.2) (by omega) (by omega), wrapS (x := B.1.1 * w) (by omega) (by omega), wrapS (x := n * B.2.1.2) (by omega) (by omega), wrapS (x := B.2.1.1 * w) (by omega) (by omega)]
  refine cnd_ff (by rw [y3]; rfl) (cnd_ff (dF (by omega)) (cnd_ff (dF (by omega)) (cnd_ff (dF (by omega)) (cnd_ff (dF (by omega)) (cnd_ff (dF (by omega)) (cnd_ff (dF (by omega)) (cnd_ff (dF (by omega)) (cnd_ff (dF (by omega)) (cnd_ff (dF (by omega)) (cnd_ff (dF (by omega)) ?_))))))))))
  have pl : ∀ i, i < L.length → ∀ d : Int, 0 ≤ d → d ≤ 120000 → IntKind.wrap .i64 ((L.getD i s0).2.2 * d) = (L.getD i s0).2.2 * d := fun i hi d d1 d2 => by
    have := lok _ (getD_mem (d := s0) hi)
    have := mulB this.2.2.1 this.2.2.2 d1 d2
    exact wrapS (by omega) (by omega)
  have prod : ∀ {a c : Ratio}, Att L a → goodR c → IntKind.wrap .i64 (a.1 * c.2) = a.1 * c.2 ∧ IntKind.wrap .i64 (c.1 * a.2) = c.1 * a.2 := fun ha hc => ⟨good_mul (att_good so c0 ha) hc, good_mul hc (att_good so c0 ha)⟩
  have G1 : goodR B.1 := l1
  have G2 : goodR B.2.1 := l2
  refine forUpG (n := 2) (by omega) (fun _ => True) trivial (fun k hk2 _ I μ hI hw => ?_) (fun _ => ?_)
  · have hI := hI trivial
    rw [← hw] at hI
    refine ⟨by omega, by omega, ?_⟩
    have : k = 0 ∨ k = 1 := by omega
    rcases this with rfl | rfl
    · refine cndT ?_
      refine end_loop so (E := upE L B.1.1 B.1.2) (up_two L B.1.1 B.1.2) (fun i hi J ν hJ => ?_) ?_
      · refine ⟨by omega, by omega, by omega, by omega, fun v => v = upE L B.1.1 B.1.2 i (L.getD i s0).1, ?_, ?_⟩
        · rw [show Int.toNat (i : Int) = i from rfl, pl i hi B.1.2 (by omega) l1.2.2]
          unfold upE
          refine cnd_iff.2 ⟨fun d => ?_, fun d => ?_⟩
          · have d : (L.getD i s0).2.2 * B.1.2 ≤ B.1.1 := by simpa using d
            rw [if_pos d]
            exact ⟨by omega, by omega, rfl⟩
          · have d : ¬ (L.getD i s0).2.2 * B.1.2 ≤ B.1.1 := by simpa using d
            rw [if_neg d]
        · rintro _ rfl
          exact ⟨by omega, by omega, hJ⟩
      · obtain ⟨q1, q2⟩ := prod (up_att L B.1.1 B.1.2) G1
        show cnd (IntKind.wrap .i64 ((cenK L (upE L B.1.1 B.1.2) L.length).1 * B.1.2) != IntKind.wrap .i64 (B.1.1 * (cenK L (upE L B.1.1 B.1.2) L.length).2)) _ _
        rw [q1, q2]
        refine cnd_ff ?_ hI
        rw [up_eq so c0 y1]; simp
    · refine cndF (cndT ?_)
      refine end_loop so (E := dnE L B.2.1.1 B.2.1.2) (dn_two L B.2.1.1 B.2.1.2) (fun i hi J ν hJ => ?_) ?_
      · refine ⟨by omega, by omega, by omega, by omega, fun v => v = dnE L B.2.1.1 B.2.1.2 i (L.getD i s0).1, ?_, ?_⟩
        · rw [show Int.toNat (i : Int) = i from rfl, pl i hi B.2.1.2 (by omega) l2.2.2]
          unfold dnE
          refine cnd_iff.2 ⟨fun d => ?_, fun d => ?_⟩
          · have d : ¬ (L.getD i s0).2.2 * B.2.1.2 ≤ B.2.1.1 := by simpa using d
            rw [if_neg d]
            exact ⟨by omega, by omega, rfl⟩
          · have d : (L.getD i s0).2.2 * B.2.1.2 ≤ B.2.1.1 := by simpa using d
            rw [if_pos d]
        · rintro _ rfl
          exact ⟨by omega, by omega, hJ⟩
      · obtain ⟨q1, q2⟩ := prod (dn_att L B.2.1.1 B.2.1.2) G2
        show cnd (IntKind.wrap .i64 ((cenK L (dnE L B.2.1.1 B.2.1.2) L.length).1 * B.2.1.2) != IntKind.wrap .i64 (B.2.1.1 * (cenK L (dnE L B.2.1.1 B.2.1.2) L.length).2)) _ _
        rw [q1, q2]
        refine cnd_ff ?_ hI
        rw [dn_eq so c0 y2]; simp
  refine gen16 (l := L) (by omega) ?_
  change f27_wp (1, IntKind.wrap .i64 (1 + IntKind.wrap .i64 far), ()) () _
  rw [wrapS (x := far) (by omega) (by omega), wrapS (x := 1 + far) (by omega) (by omega), wrapS (x := p + far) (by omega) (by omega)]
  obtain ⟨st, hst⟩ : ∃ st : Stick, st = ((1, 1 + far), (1, 1), p + far) := ⟨_, rfl⟩
  have som : SticksOK (L ++ [st]) := by
    refine ⟨by simp; omega, fun x hx => ?_⟩
    rcases List.mem_append.1 hx with hx | hx
    · exact so.s x hx
    · have : x = st := by simpa using hx
      rw [this, hst]; dsimp only; omega
  have m0 : (L ++ [st]).length ≠ 0 := by simp
  have em : balanceF (L ++ [st]) = (lowF (balK (sortP (L ++ [st])) ((L ++ [st]).length + 1)).1, lowF (balK (sortP (L ++ [st])) ((L ++ [st]).length + 1)).2, 0, ()) := by unfold balanceF; rw [if_neg (by rw [closedE_ok.2 som]; omega), if_neg m0]
  obtain ⟨b1, b2⟩ := bal_att som m0
  have h1 := att_good som m0 b1
  have h2 := att_good som m0 b2
  obtain ⟨k1, k2⟩ := more_le so c0 som (fun x hx => by
    have := tfar x hx
    rw [hst]; dsimp only; omega)
  refine ⟨by simp only [List.length_cons, List.length_nil]; omega, ?_⟩
  change f17_wp (L ++ [((1, 1 + far), (1, 1), p + far)]) () _
  rw [← hst]
  refine gen17 (l := L ++ [st]) fun C hC => ?_
  have x1 : C.1 = lowF (balK (sortP (L ++ [st])) ((L ++ [st]).length + 1)).1 := by rw [hC, em]
  have x2 : C.2.1 = lowF (balK (sortP (L ++ [st])) ((L ++ [st]).length + 1)).2 := by rw [hC, em]
  have x3 : C.2.2.1 = 0 := by rw [hC, em]
  have n1 := low_good h1
  have n2 := low_good h2
  rw [← x1] at n1
  rw [← x2] at n2
  have v1 := (low_leR h1.2.1).2 ((low_leR g1.2.1).1 k1)
  have v2 := (low_leR h2.2.1).2 ((low_leR g2.2.1).1 k2)
  rw [← x1, ← y1] at v1
  rw [← x2, ← y2] at v2
  unfold leR at v1 v2
  have c1 := good_mul n1 G1
  have c2 := good_mul G1 n1
  have c3 := good_mul n2 G2
  have c4 := good_mul G2 n2
  unfold goodR at n1 n2
  change cnd (C.2.2.1 == 0) (cnd (decide (C.1.2 > 0)) (cnd (decide (C.2.1.2 > 0)) (cnd (decide (C.1.2 ≤ 1048576)) (cnd (decide (C.2.1.2 ≤ 1048576)) (cnd (decide (C.1.1 ≥ 0)) (cnd (decide (C.2.1.1 ≥ 0)) (cnd (decide (C.1.1 ≤ 2147483648)) (cnd (decide (C.2.1.1 ≤ 2147483648)) (cnd (decide (IntKind.wrap .i64 (C.1.1 * B.1.2) ≥ IntKind.wrap .i64 (B.1.1 * C.1.2))) (cnd (decide (IntKind.wrap .i64 (C.2.1.1 * B.2.1.2) ≥ IntKind.wrap .i64 (B.2.1.1 * C.2.1.2))) (Q true) _) _) _) _) _) _) _) _) _) _) _
  rw [c1, c2, c3, c4]
  exact cnd_of (by rw [x3]; rfl) (cnd_of (decide_eq_true (by omega)) (cnd_of (decide_eq_true (by omega)) (cnd_of (decide_eq_true (by omega)) (cnd_of (decide_eq_true (by omega)) (cnd_of (decide_eq_true (by omega)) (cnd_of (decide_eq_true (by omega)) (cnd_of (decide_eq_true (by omega)) (cnd_of (decide_eq_true (by omega)) (cnd_of (decide_eq_true (by omega)) (cnd_of (decide_eq_true (by omega)) h))))))))))
end Go.Proofs.Rv
set_option maxRecDepth 100000
set_option maxHeartbeats 2000000
namespace Go.Proofs.Rv
open Go Go.GX Go.Proofs
variable [Inhabited BaseD]
theorem ok8 : CallsOK Try.prog (assoc glT) 8 f8_ct :=
  callsOK_E (env (ct := [(27, f27_ct), (29, f29_ct), (37, f37_ct), (16, f16_ct), (33, f33_ct), (17, f17_ct), (34, f34_ct), (10, f10_ct)]) (ios := []) (hos := []) (lits := [100]) (AllOK.cons ok27 (AllOK.cons ok29 (AllOK.cons ok37 (AllOK.cons ok16 (AllOK.cons ok33 (AllOK.cons ok17 (AllOK.cons ok34 (AllOK.cons ok10 AllOK.nil)))))))) AllW.nil AllH.nil) f8_an Try.func8 (by kernel_rfl) (by kernel_rfl) f8_ct fun ⟨s, b, far, _⟩ _ Q h => (v8 s b far Q).mp (p8 h)
end Go.Proofs.Rv
