/- Part 8 of the texts behind the proof: RvV5, RvP8, RvV6, RvP9, RvO3, RvV7, RvPb, RvO5. -/
import Derived.Test.YtmdonphignifoaaG07
import Derived.Test.YtmdonphignifoaaProg
set_option linter.unusedSimpArgs false
set_option linter.unusedVariables false
set_option linter.unusedSectionVars false
set_option linter.unusedVariables false
set_option maxRecDepth 100000
namespace Go.Proofs.Rv
open Go Go.GX Go.Proofs

def V27 (a : Int) (b : Int) (Q : Int × Int → Prop) : Prop :=
  Q (a, b)
theorem v27 (a : Int) (b : Int) (Q : Int × Int → Prop) : V27 a b Q = vcFunc (S1 [] [] [] []) f27_ct.own f27_ct.fresh no_an Try.f27 (bodyOf Try.f27) f27_ct.A f27_ct.C f27_ct.R (a, b, ()) () Q := by kernel_rfl

def V39 (Q : (Int × Int) × (Int × Int) × List ((Int × Int) × Int × Int) → Prop) : Prop :=
  f27_wp ((900 : Int), (1000 : Int), ()) () fun (r : Int × Int) ↦
    f27_wp ((40 : Int), (50 : Int), ()) () fun (r_1 : Int × Int) ↦
      f27_wp ((200 : Int), (210 : Int), ()) () fun (r_2 : Int × Int) ↦
        f27_wp ((12 : Int), (12 : Int), ()) () fun (r_3 : Int × Int) ↦
          f27_wp ((100 : Int), (100 : Int), ()) () fun (r_4 : Int × Int) ↦
            f27_wp ((4 : Int), (5 : Int), ()) () fun (r_5 : Int × Int) ↦
              Q
                ((Prod.fst r, Prod.snd r), (Prod.fst r_1, Prod.snd r_1),
                  ((Prod.fst r_2, Prod.snd r_2), Prod.fst r_3, Prod.snd r_3) ::
                    ((Prod.fst r_4, Prod.snd r_4), Prod.fst r_5, Prod.snd r_5) :: ([] : List ((Int × Int) × Int × Int)))
theorem v39 (Q : (Int × Int) × (Int × Int) × List ((Int × Int) × Int × Int) → Prop) : V39 Q = vcFunc (S1 [(27, f27_ct)] [] [] [108]) f39_ct.own f39_ct.fresh no_an Try.f39 (bodyOf Try.f39) f39_ct.A f39_ct.C f39_ct.R () () Q := by kernel_rfl

def V21 (a : (Int × Int) × (Int × Int) × List (Int × Int × Int × Int)) (Q : (Int × Int) × (Int × Int) × List ((Int × Int) × Int × Int) → Prop) : Prop :=
  ∃ (r : Int × Int),
    (f27_wp
        (IntKind.wrap IntKind.i64 ((300 : Int) + IntKind.wrap IntKind.i64 ((8 : Int) * IntKind.wrap IntKind.i64 (Prod.fst (Prod.fst a)))),
          IntKind.wrap IntKind.i64
            (IntKind.wrap IntKind.i64 ((300 : Int) + IntKind.wrap IntKind.i64 ((8 : Int) * IntKind.wrap IntKind.i64 (Prod.fst (Prod.fst a)))) +
              IntKind.wrap IntKind.i64 (Prod.snd (Prod.fst a))),
          ())
        () fun (r' : Int × Int) ↦ r' = r) ∧
      (20 : Int) ≠ (0 : Int) ∧
        ∃ (r_1 : Int × Int),
          (f27_wp
              (IntKind.wrap IntKind.i64 ((20 : Int) + IntKind.wrap IntKind.i64 (Prod.fst (Prod.fst (Prod.snd a)))),
                IntKind.wrap IntKind.i64
                  (IntKind.wrap IntKind.i64 ((20 : Int) + IntKind.wrap IntKind.i64 (Prod.fst (Prod.fst (Prod.snd a)))) +
                    Int.tmod (IntKind.wrap IntKind.i64 (Prod.snd (Prod.fst (Prod.snd a)))) (20 : Int)),
                ())
              () fun (r' : Int × Int) ↦ r' = r_1) ∧
            ∃ (I : Int → ((Int × Int) × Int × Int) × List ((Int × Int) × Int × Int) → Prop),
              ∃ (μ : Int → ((Int × Int) × Int × Int) × List ((Int × Int) × Int × Int) → Nat),
                I (0 : Int) (((Prod.fst r, Prod.snd r), Prod.fst r_1, Prod.snd r_1), ([] : List ((Int × Int) × Int × Int))) ∧
                  ∀ (x : Int) (x_1 : ((Int × Int) × Int × Int) × List ((Int × Int) × Int × Int)),
                    I x x_1 →
                      List.length (Prod.snd (Prod.snd a)) ≤ (9223372036854775807 : Nat) →
                        cnd (decide (x < (↑(List.length (Prod.snd (Prod.snd a))) : Int)))
                          (cnd (decide (x < (12 : Int)))
                            ((0 : Int) ≤ x ∧
                              x < (↑(List.length (Prod.snd (Prod.snd a))) : Int) ∧
                                (4 : Int) ≠ (0 : Int) ∧
                                  (30 : Int) ≠ (0 : Int) ∧
                                    ∃ (r : Int × Int),
                                      (f27_wp
                                          (IntKind.wrap IntKind.i64
                                              ((2 : Int) *
                                                IntKind.wrap IntKind.i64
                                                  (Prod.fst
                                                    (List.getD (Prod.snd (Prod.snd a)) (Int.toNat x) ((0 : Int), (0 : Int), (0 : Int), (0 : Int))))),
                                            IntKind.wrap IntKind.i64
                                              (IntKind.wrap IntKind.i64
                                                  ((2 : Int) *
                                                    IntKind.wrap IntKind.i64
                                                      (Prod.fst
                                                        (List.getD (Prod.snd (Prod.snd a)) (Int.toNat x)
                                                          ((0 : Int), (0 : Int), (0 : Int), (0 : Int))))) +
                                                Int.tmod
                                                  (IntKind.wrap IntKind.i64
                                                    (Prod.fst
                                                      (Prod.snd
                                                        (List.getD (Prod.snd (Prod.snd a)) (Int.toNat x)
                                                          ((0 : Int), (0 : Int), (0 : Int), (0 : Int))))))
                                                  (30 : Int)),
                                            ())
                                          () fun (r' : Int × Int) ↦ r' = r) ∧
                                        (6 : Int) ≠ (0 : Int) ∧
                                          ∃ (r_2 : Int × Int),
                                            (f27_wp
                                                (IntKind.wrap IntKind.i64
                                                    (Int.tdiv
                                                      (IntKind.wrap IntKind.i64
                                                        (Prod.fst
                                                          (Prod.snd
                                                            (Prod.snd
                                                              (List.getD (Prod.snd (Prod.snd a)) (Int.toNat x)
                                                                ((0 : Int), (0 : Int), (0 : Int), (0 : Int)))))))
                                                      (4 : Int)),
                                                  IntKind.wrap IntKind.i64
                                                    (IntKind.wrap IntKind.i64
                                                        (Int.tdiv
                                                          (IntKind.wrap IntKind.i64
                                                            (Prod.fst
                                                              (Prod.snd
                                                                (Prod.snd
                                                                  (List.getD (Prod.snd (Prod.snd a)) (Int.toNat x)
                                                                    ((0 : Int), (0 : Int), (0 : Int), (0 : Int)))))))
                                                          (4 : Int)) +
                                                      Int.tmod
                                                        (IntKind.wrap IntKind.i64
                                                          (Prod.snd
                                                            (Prod.snd
                                                              (Prod.snd
                                                                (List.getD (Prod.snd (Prod.snd a)) (Int.toNat x)
                                                                  ((0 : Int), (0 : Int), (0 : Int), (0 : Int)))))))
                                                        (6 : Int)),
                                                  ())
                                                () fun (r' : Int × Int) ↦ r' = r_2) ∧
                                              (List.length (Prod.snd x_1) +
                                                      List.length
                                                        (((Prod.fst r, Prod.snd r), Prod.fst r_2, Prod.snd r_2) ::
                                                          ([] : List ((Int × Int) × Int × Int)))) *
                                                    (32 : Nat) ≤
                                                  (140737488355328 : Nat) ∧
                                                I (IntKind.wrap IntKind.i64 (x + (1 : Int)))
                                                    (((Prod.fst (Prod.fst (Prod.fst x_1)), Prod.snd (Prod.fst (Prod.fst x_1))),
                                                        Prod.fst (Prod.snd (Prod.fst x_1)), Prod.snd (Prod.snd (Prod.fst x_1))),
                                                      Prod.snd x_1 ++
                                                        ((Prod.fst r, Prod.snd r), Prod.fst r_2, Prod.snd r_2) ::
                                                          ([] : List ((Int × Int) × Int × Int))) ∧
                                                  μ (IntKind.wrap IntKind.i64 (x + (1 : Int)))
                                                      (((Prod.fst (Prod.fst (Prod.fst x_1)), Prod.snd (Prod.fst (Prod.fst x_1))),
                                                          Prod.fst (Prod.snd (Prod.fst x_1)), Prod.snd (Prod.snd (Prod.fst x_1))),
                                                        Prod.snd x_1 ++
                                                          ((Prod.fst r, Prod.snd r), Prod.fst r_2, Prod.snd r_2) ::
                                                            ([] : List ((Int × Int) × Int × Int))) <
                                                    μ x x_1)
                            (Q
                              ((Prod.fst (Prod.fst (Prod.fst x_1)), Prod.snd (Prod.fst (Prod.fst x_1))),
                                (Prod.fst (Prod.snd (Prod.fst x_1)), Prod.snd (Prod.snd (Prod.fst x_1))), Prod.snd x_1)))
                          (Q
                            ((Prod.fst (Prod.fst (Prod.fst x_1)), Prod.snd (Prod.fst (Prod.fst x_1))),
                              (Prod.fst (Prod.snd (Prod.fst x_1)), Prod.snd (Prod.snd (Prod.fst x_1))), Prod.snd x_1))
theorem v21 (a : (Int × Int) × (Int × Int) × List (Int × Int × Int × Int)) (Q : (Int × Int) × (Int × Int) × List ((Int × Int) × Int × Int) → Prop) : V21 a Q = vcFunc (S1 [(27, f27_ct)] [] [] []) f21_ct.own f21_ct.fresh f21_an Try.f21 (bodyOf Try.f21) f21_ct.A f21_ct.C f21_ct.R a () Q := by kernel_rfl

end Go.Proofs.Rv
set_option linter.unusedVariables false
set_option maxRecDepth 100000
namespace Go.Proofs.Rv
open Go Go.GX Go.Proofs

theorem upTo1 {σ : Type} {n : Nat} (hn : n ≤ 9223372036854775807) (F : Nat → σ) {s0 : σ} (h0 : s0 = F 0) {P : (Int → σ → Prop) → (Int → σ → Nat) → Int → σ → Prop}
    (hb : ∀ k : Nat, k ≤ n → ∀ (I : Int → σ → Prop) (μ : Int → σ → Nat), (k < n → IntKind.wrap .i64 ((k : Int) + 1) = k + 1 ∧ I (k + 1 : Int) (F (k + 1)) ∧ μ (k + 1 : Int) (F (k + 1)) < μ k (F k)) → P I μ k (F k)) :
    ∃ (I : Int → σ → Prop) (μ : Int → σ → Nat), I 0 s0 ∧ ∀ x s, I x s → P I μ x s := by
  refine ⟨fun x s => ∃ k : Nat, k ≤ n ∧ x = k ∧ s = F k, fun x _ => (n - x).toNat, ⟨0, Nat.zero_le _, rfl, h0⟩, ?_⟩
  rintro x s ⟨k, hk, rfl, rfl⟩
  exact hb k hk _ _ fun h => ⟨wrapS (by omega) (by omega), ⟨k + 1, by omega, by push_cast; rfl, rfl⟩, by omega⟩
theorem p27 {a b : Int} {Q : Span → Prop} (h : f27_wp (a, b, ()) () Q) : V27 a b Q := h
theorem p39 {Q : Fan → Prop} (h : f39_wp () () Q) : V39 Q := h
theorem p21 {a : Folded} {Q : Fan → Prop} (h : f21_wp a () Q) : V21 a Q := by
  obtain ⟨⟨hf, hn, hg⟩, h⟩ := h
  have h : Q (foldF a) := h
  unfold byteB at hf hn
  have b0 : ∀ x, byteB x → IntKind.wrap .i64 x = x := fun x hx => by unfold byteB at hx; exact wrapS (by omega) (by omega)
  have t1 := Int.emod_nonneg a.2.1.2 (show (20 : Int) ≠ 0 by omega)
  have t2 := Int.emod_lt_of_pos a.2.1.2 (show (0 : Int) < 20 by omega)
  rw [V21, b0 _ hf.1, b0 _ hf.2, b0 _ hn.1, b0 _ hn.2]
  rw [wrapS (x := 8 * a.1.1) (by omega) (by omega), wrapS (x := 300 + 8 * a.1.1) (by omega) (by omega), wrapS (x := 300 + 8 * a.1.1 + a.1.2) (by omega) (by omega), wrapS (x := 20 + a.2.1.1) (by omega) (by omega),
    wrapS (x := 20 + a.2.1.1 + Int.tmod a.2.1.2 20) (by rw [Int.tmod_eq_emod_of_nonneg (by omega)]; omega) (by rw [Int.tmod_eq_emod_of_nonneg (by omega)]; omega)]
  refine ⟨_, rfl, by omega, _, rfl, ?_⟩
  refine upTo1 (n := min 12 a.2.2.length) (by omega) (fun k => ((((300 + 8 * a.1.1, 300 + 8 * a.1.1 + a.1.2), (20 + a.2.1.1, 20 + a.2.1.1 + Int.tmod a.2.1.2 20)), (a.2.2.take k).map foldG) : (Span × Span) × List Gap)) rfl (fun k hk I μ hI => ?_)
  intro hl
  have fin : k = 12 ∨ k = a.2.2.length → Q (((300 + 8 * a.1.1, 300 + 8 * a.1.1 + a.1.2), (20 + a.2.1.1, 20 + a.2.1.1 + Int.tmod a.2.1.2 20), (a.2.2.take k).map foldG)) := fun hk2 => by
    have e : a.2.2.take k = a.2.2.take 12 := by
      rcases hk2 with rfl | rfl
      · rfl
      · rw [List.take_of_length_le (Nat.le_refl _), List.take_of_length_le (by omega)]
    rw [e]; exact h
  refine cnd_iff.2 ⟨fun c => cnd_iff.2 ⟨fun c2 => ?_, fun c2 => ?_⟩, fun c => ?_⟩
  · have c : (k : Int) < a.2.2.length := of_decide_eq_true c
    have c2 : (k : Int) < 12 := of_decide_eq_true c2
    have hk' : k < a.2.2.length := by omega
    obtain ⟨hw, hI⟩ := hI (by omega)
    rw [take_succ_getD (d := ((0, 0, 0, 0) : Int × Int × Int × Int)) hk', List.map_append] at hI
    have hr := hg _ (getD_mem (d := ((0, 0, 0, 0) : Int × Int × Int × Int)) hk')
    obtain ⟨r, hrd⟩ : ∃ r, r = a.2.2.getD k ((0, 0, 0, 0) : Int × Int × Int × Int) := ⟨_, rfl⟩
    rw [← hrd] at hI hr
    obtain ⟨q1, q2, q3, q4⟩ := hr
    have u1 := b0 _ q1
    have u2 := b0 _ q2
    have u3 := b0 _ q3
    have u4 := b0 _ q4
    unfold byteB at q1 q2 q3 q4
    have v1 := Int.emod_nonneg r.2.1 (show (30 : Int) ≠ 0 by omega)
    have v2 := Int.emod_lt_of_pos r.2.1 (show (0 : Int) < 30 by omega)
    have v3 := Int.emod_nonneg r.2.2.2 (show (6 : Int) ≠ 0 by omega)
    have v4 := Int.emod_lt_of_pos r.2.2.2 (show (0 : Int) < 6 by omega)
    rw [show Int.toNat (k : Int) = k from rfl, ← hrd, u1, u2, u3, u4, hw]
    have y1 : Int.tmod r.2.1 30 = r.2.1 % 30 := Int.tmod_eq_emod_of_nonneg q2.1
    have y2 : Int.tmod r.2.2.2 6 = r.2.2.2 % 6 := Int.tmod_eq_emod_of_nonneg q4.1
    have y3 : Int.tdiv r.2.2.1 4 = r.2.2.1 / 4 := Int.tdiv_eq_ediv_of_nonneg q3.1
    rw [wrapS (x := 2 * r.1) (by omega) (by omega), wrapS (x := 2 * r.1 + Int.tmod r.2.1 30) (by omega) (by omega), wrapS (x := Int.tdiv r.2.2.1 4) (by omega) (by omega), wrapS (x := Int.tdiv r.2.2.1 4 + Int.tmod r.2.2.2 6) (by omega) (by omega)]
    refine ⟨by omega, by omega, by omega, by omega, _, rfl, by omega, _, rfl, ?_, hI⟩
    simp only [List.length_map, List.length_take, List.length_cons, List.length_nil]
    omega
  · have c2 : ¬ (k : Int) < 12 := of_decide_eq_false c2
    exact fin (.inl (by omega))
  · have c : ¬ (k : Int) < a.2.2.length := of_decide_eq_false c
    exact fin (.inr (by omega))
end Go.Proofs.Rv
set_option linter.unusedVariables false
set_option maxRecDepth 100000
namespace Go.Proofs.Rv
open Go Go.GX Go.Proofs

def V10 (Q : Bool → Prop) : Prop :=
  f39_wp () () fun (r : (Int × Int) × (Int × Int) × List ((Int × Int) × Int × Int)) ↦
    f28_wp ((Prod.fst (Prod.fst r), Prod.snd (Prod.fst r)), (Prod.fst (Prod.fst (Prod.snd r)), Prod.snd (Prod.fst (Prod.snd r))), Prod.snd (Prod.snd r))
      () fun (r : (Int × Int) × Int × Unit) ↦
      f39_wp () () fun (r_1 : (Int × Int) × (Int × Int) × List ((Int × Int) × Int × Int)) ↦
        f12_wp
          ((Prod.fst (Prod.fst r_1), Prod.snd (Prod.fst r_1)), (Prod.fst (Prod.fst (Prod.snd r_1)), Prod.snd (Prod.fst (Prod.snd r_1))),
            Prod.snd (Prod.snd r_1))
          () fun (r_2 : List Int × Int × Unit) ↦
          f39_wp () () fun (r_3 : (Int × Int) × (Int × Int) × List ((Int × Int) × Int × Int)) ↦
            f32_wp
              (((Prod.fst (Prod.fst r_3), Prod.snd (Prod.fst r_3)), (Prod.fst (Prod.fst (Prod.snd r_3)), Prod.snd (Prod.fst (Prod.snd r_3))),
                  Prod.snd (Prod.snd r_3)),
                (100 : Int), ())
              () fun (r_4 : Int × Int × Int × Unit) ↦
              f39_wp () () fun (r_5 : (Int × Int) × (Int × Int) × List ((Int × Int) × Int × Int)) ↦
                f27_wp ((10 : Int), (14 : Int), ()) () fun (r_6 : Int × Int) ↦
                  f25_wp
                    (((Prod.fst (Prod.fst r_5), Prod.snd (Prod.fst r_5)), (Prod.fst (Prod.fst (Prod.snd r_5)), Prod.snd (Prod.fst (Prod.snd r_5))),
                        Prod.snd (Prod.snd r_5)),
                      (Prod.fst r_6, Prod.snd r_6), ())
                    () fun (r_7 : List Int × Int × Unit) ↦
                    f39_wp () () fun (r_8 : (Int × Int) × (Int × Int) × List ((Int × Int) × Int × Int)) ↦
                      f30_wp
                        (((Prod.fst (Prod.fst r_8), Prod.snd (Prod.fst r_8)), (Prod.fst (Prod.fst (Prod.snd r_8)), Prod.snd (Prod.fst (Prod.snd r_8))),
                            Prod.snd (Prod.snd r_8)),
                          (45 : Int), ())
                        () fun (r_9 : Int × Int × Unit) ↦
                        f39_wp () () fun (r_10 : (Int × Int) × (Int × Int) × List ((Int × Int) × Int × Int)) ↦
                          f31_wp
                            (((Prod.fst (Prod.fst r_10), Prod.snd (Prod.fst r_10)),
                                (Prod.fst (Prod.fst (Prod.snd r_10)), Prod.snd (Prod.fst (Prod.snd r_10))), Prod.snd (Prod.snd r_10)),
                              (18 : Int), ())
                            () fun (r_11 : Int × Int × Unit) ↦
                            f27_wp ((100 : Int), (120 : Int), ()) () fun (r_12 : Int × Int) ↦
                              f27_wp ((1 : Int), (1 : Int), ()) () fun (r_13 : Int × Int) ↦
                                f27_wp ((30 : Int), (40 : Int), ()) () fun (r_14 : Int × Int) ↦
                                  f27_wp ((1 : Int), (1 : Int), ()) () fun (r_15 : Int × Int) ↦
                                    f17_wp
                                      (((Prod.fst r_12, Prod.snd r_12), (Prod.fst r_13, Prod.snd r_13), (50 : Int)) ::
                                        ((Prod.fst r_14, Prod.snd r_14), (Prod.fst r_15, Prod.snd r_15), (200 : Int)) ::
                                          ([] : List ((Int × Int) × (Int × Int) × Int)))
                                      () fun (r_16 : (Int × Int) × (Int × Int) × Int × Unit) ↦
                                      cnd (Prod.fst (Prod.snd r) != (0 : Int)) (Q false)
                                        (cnd (Prod.fst (Prod.snd r_2) != (0 : Int)) (Q false)
                                          (cnd (Prod.fst (Prod.snd (Prod.snd r_4)) != (0 : Int)) (Q false)
                                            (cnd (Prod.fst (Prod.snd r_7) != (0 : Int)) (Q false)
                                              (cnd (Prod.fst (Prod.snd r_9) != (0 : Int)) (Q false)
                                                (cnd (Prod.fst (Prod.snd r_11) != (0 : Int)) (Q false)
                                                  (cnd (Prod.fst (Prod.snd (Prod.snd r_16)) != (0 : Int)) (Q false)
                                                    (∃ (r_17 : Int × Int),
                                                      (f27_wp ((16 : Int), (19 : Int), ()) () fun (r' : Int × Int) ↦ r' = r_17) ∧
                                                        cnd (Prod.fst (Prod.fst r) == Prod.fst r_17 && (Prod.snd (Prod.fst r) == Prod.snd r_17 && true))
                                                          (∃ (r : Bool),
                                                            (f40_wp (Prod.fst r_2, (1 : Int) :: (3 : Int) :: ([] : List Int), ()) () fun (r' : Bool) ↦
                                                                r' = r) ∧
                                                              cnd r
                                                                (cnd (Prod.fst r_4 == (0 : Int))
                                                                  (cnd (Prod.fst (Prod.snd r_4) == (18 : Int))
                                                                    (∃ (r : Bool),
                                                                      (f40_wp (Prod.fst r_7, (0 : Int) :: ([] : List Int), ()) () fun (r' : Bool) ↦
                                                                          r' = r) ∧
                                                                        cnd r
                                                                          (cnd (Prod.fst r_9 == (5 : Int))
                                                                            (cnd (Prod.fst r_11 == (235 : Int))
                                                                              (cnd
                                                                                (Prod.fst (Prod.fst r_16) == (80 : Int) &&
                                                                                  (Prod.snd (Prod.fst r_16) == (1 : Int) && true))
                                                                                (Q
                                                                                  (Prod.fst (Prod.fst (Prod.snd r_16)) == (650 : Int) &&
                                                                                    (Prod.snd (Prod.fst (Prod.snd r_16)) == (7 : Int) && true)))
                                                                                (Q false))
                                                                              (Q false))
                                                                            (Q false))
                                                                          (Q false))
                                                                    (Q false))
                                                                  (Q false))
                                                                (Q false))
                                                          (Q false))))))))
theorem v10 (Q : Bool → Prop) : V10 Q = vcFunc (S1 [(39, f39_ct), (28, f28_ct), (12, f12_ct), (32, f32_ct), (27, f27_ct), (25, f25_ct), (30, f30_ct), (31, f31_ct), (17, f17_ct), (40, f40_ct), (41, f41_ct)] [] [] []) f10_ct.own f10_ct.fresh no_an Try.f10 (bodyOf Try.f10) f10_ct.A f10_ct.C f10_ct.R () () Q := by kernel_rfl

def V3 (f : (Int × Int) × (Int × Int) × List ((Int × Int) × Int × Int)) (Q : Bool → Prop) : Prop :=
  List.length (Prod.snd (Prod.snd f)) ≤ (9223372036854775807 : Nat) →
    cnd (decide ((↑(List.length (Prod.snd (Prod.snd f))) : Int) > (50 : Int))) (f10_wp () () fun (r : Bool) ↦ Q r)
      (f11_wp
        ((Prod.fst (Prod.fst f), Prod.snd (Prod.fst f)), (Prod.fst (Prod.fst (Prod.snd f)), Prod.snd (Prod.fst (Prod.snd f))), Prod.snd (Prod.snd f)) ()
        fun (r : (Int × Int) × (Int × Int) × List ((Int × Int) × Int × Int)) ↦
        f12_wp
          ((Prod.fst (Prod.fst r), Prod.snd (Prod.fst r)), (Prod.fst (Prod.fst (Prod.snd r)), Prod.snd (Prod.fst (Prod.snd r))), Prod.snd (Prod.snd r))
          () fun (r_1 : List Int × Int × Unit) ↦
          f13_wp
            (((Prod.fst (Prod.fst r), Prod.snd (Prod.fst r)), (Prod.fst (Prod.fst (Prod.snd r)), Prod.snd (Prod.fst (Prod.snd r))),
                Prod.snd (Prod.snd r)),
              ((Prod.fst (Prod.fst f), Prod.snd (Prod.fst f)), (Prod.fst (Prod.fst (Prod.snd f)), Prod.snd (Prod.fst (Prod.snd f))),
                Prod.snd (Prod.snd f)),
              ())
            () fun (r : Bool) ↦
            cnd (!r) (Q false)
              (f14_wp
                ((Prod.fst (Prod.fst f), Prod.snd (Prod.fst f)), (Prod.fst (Prod.fst (Prod.snd f)), Prod.snd (Prod.fst (Prod.snd f))),
                  Prod.snd (Prod.snd f))
                () fun (r : Int) ↦
                cnd (r != (0 : Int))
                  (cnd (Prod.fst (Prod.snd r_1) == r)
                    (List.length (Prod.fst r_1) ≤ (9223372036854775807 : Nat) →
                      cnd ((↑(List.length (Prod.fst r_1)) : Int) == (0 : Int)) (f10_wp () () fun (r : Bool) ↦ Q r) (Q false))
                    (Q false))
                  (cnd (Prod.fst (Prod.snd r_1) != (0 : Int)) (Q false)
                    (List.length (Prod.fst r_1) ≤ (9223372036854775807 : Nat) →
                      List.length (Prod.snd (Prod.snd f)) ≤ (9223372036854775807 : Nat) →
                        cnd ((↑(List.length (Prod.fst r_1)) : Int) != (↑(List.length (Prod.snd (Prod.snd f))) : Int)) (Q false)
                          (∃ (I : Int → Prop),
                            ∃ (μ : Int → Nat),
                              I (0 : Int) ∧
                                ∀ (x : Int),
                                  I x →
                                    List.length (Prod.fst r_1) ≤ (9223372036854775807 : Nat) →
                                      cnd (decide (x < (↑(List.length (Prod.fst r_1)) : Int)))
                                        ((0 : Int) ≤ x ∧
                                          x < (↑(List.length (Prod.fst r_1)) : Int) ∧
                                            (0 : Int) ≤ x ∧
                                              x < (↑(List.length (Prod.snd (Prod.snd f))) : Int) ∧
                                                ∃ (r : Int),
                                                  (f15_wp
                                                      (((Prod.fst (Prod.fst f), Prod.snd (Prod.fst f)),
                                                          (Prod.fst (Prod.fst (Prod.snd f)), Prod.snd (Prod.fst (Prod.snd f))), Prod.snd (Prod.snd f)),
                                                        ((Prod.fst
                                                              (Prod.fst
                                                                (List.getD (Prod.snd (Prod.snd f)) (Int.toNat x)
                                                                  (((0 : Int), (0 : Int)), (0 : Int), (0 : Int)))),
                                                            Prod.snd
                                                              (Prod.fst
                                                                (List.getD (Prod.snd (Prod.snd f)) (Int.toNat x)
                                                                  (((0 : Int), (0 : Int)), (0 : Int), (0 : Int))))),
                                                          Prod.fst
                                                            (Prod.snd
                                                              (List.getD (Prod.snd (Prod.snd f)) (Int.toNat x)
                                                                (((0 : Int), (0 : Int)), (0 : Int), (0 : Int)))),
                                                          Prod.snd
                                                            (Prod.snd
                                                              (List.getD (Prod.snd (Prod.snd f)) (Int.toNat x)
                                                                (((0 : Int), (0 : Int)), (0 : Int), (0 : Int))))),
                                                        ())
                                                      () fun (r' : Int) ↦ r' = r) ∧
                                                    cnd (List.getD (Prod.fst r_1) (Int.toNat x) (0 : Int) != r) (Q false)
                                                      (I (IntKind.wrap IntKind.i64 (x + (1 : Int))) ∧
                                                        μ (IntKind.wrap IntKind.i64 (x + (1 : Int))) < μ x))
                                        (f10_wp () () fun (r : Bool) ↦ Q r))))))
theorem v3 (f : (Int × Int) × (Int × Int) × List ((Int × Int) × Int × Int)) (Q : Bool → Prop) : V3 f Q = vcFunc (S1 [(10, f10_ct), (11, f11_ct), (12, f12_ct), (13, f13_ct), (14, f14_ct), (15, f15_ct)] [] [] []) f3_ct.own f3_ct.fresh f3_an Try.f3 (bodyOf Try.f3) f3_ct.A f3_ct.C f3_ct.R f () Q := by kernel_rfl

def V4 (l : List ((Int × Int) × (Int × Int) × Int)) (Q : Bool → Prop) : Prop :=
  List.length l ≤ (9223372036854775807 : Nat) →
    cnd (decide ((↑(List.length l) : Int) > (20 : Int))) (f10_wp () () fun (r : Bool) ↦ Q r)
      (f16_wp l () fun (r : List ((Int × Int) × (Int × Int) × Int)) ↦
        f17_wp r () fun (r_1 : (Int × Int) × (Int × Int) × Int × Unit) ↦
          f18_wp (r, l, ()) () fun (r : Bool) ↦
            cnd (!r) (Q false)
              (f19_wp l () fun (r : Int) ↦
                ∃ (I : Bool → Prop),
                  cnd (r == (0 : Int)) (List.length l ≤ (9223372036854775807 : Nat) → I ((↑(List.length l) : Int) == (0 : Int))) (I false) ∧
                    ∀ (x : Bool),
                      I x →
                        ∃ (I : Int → Prop),
                          cnd x (I (7 : Int)) (I r) ∧
                            ∀ (x : Int),
                              I x →
                                cnd (x != (0 : Int))
                                  (cnd (Prod.fst (Prod.snd (Prod.snd r_1)) == x)
                                    (cnd (Prod.fst (Prod.fst r_1) == (0 : Int) && (Prod.snd (Prod.fst r_1) == (0 : Int) && true))
                                      (cnd
                                        (Prod.fst (Prod.fst (Prod.snd r_1)) == (0 : Int) && (Prod.snd (Prod.fst (Prod.snd r_1)) == (0 : Int) && true))
                                        (f10_wp () () fun (r : Bool) ↦ Q r) (Q false))
                                      (Q false))
                                    (Q false))
                                  (f20_wp l () fun (r : (Int × Int) × (Int × Int) × Unit) ↦
                                    cnd (Prod.fst (Prod.snd (Prod.snd r_1)) == (0 : Int))
                                      (cnd
                                        (Prod.fst (Prod.fst r_1) == Prod.fst (Prod.fst r) && (Prod.snd (Prod.fst r_1) == Prod.snd (Prod.fst r) && true))
                                        (cnd
                                          (Prod.fst (Prod.fst (Prod.snd r_1)) == Prod.fst (Prod.fst (Prod.snd r)) &&
                                            (Prod.snd (Prod.fst (Prod.snd r_1)) == Prod.snd (Prod.fst (Prod.snd r)) && true))
                                          (f10_wp () () fun (r : Bool) ↦ Q r) (Q false))
                                        (Q false))
                                      (Q false))))
theorem v4 (l : List ((Int × Int) × (Int × Int) × Int)) (Q : Bool → Prop) : V4 l Q = vcFunc (S1 [(10, f10_ct), (16, f16_ct), (17, f17_ct), (18, f18_ct), (19, f19_ct), (20, f20_ct)] [] [] []) f4_ct.own f4_ct.fresh f4_an Try.f4 (bodyOf Try.f4) f4_ct.A f4_ct.C f4_ct.R l () Q := by kernel_rfl

end Go.Proofs.Rv
set_option linter.unusedVariables false
set_option maxRecDepth 100000
namespace Go.Proofs.Rv
open Go Go.GX Go.Proofs

theorem w28 {K : Span × Int × Unit → Prop} (h : K ((16, 19), 0, ())) : f28_wp fan0 () K := by
  have e : (if checkF fan0 = 0 then (opensF fan0, 0, ()) else ((0, 0), checkF fan0, ()) : Span × Int × Unit) = ((16, 19), 0, ()) := by decide +kernel
  show K _
  rw [e]; exact h
theorem w12 {K : List Int × Int × Unit → Prop} (h : K ([1, 3], 0, ())) : f12_wp fan0 () K := by
  have e : (if checkF fan0 = 0 then (fan0.2.2.map (stopF fan0.1 fan0.2.1), 0, ()) else ([], checkF fan0, ()) : List Int × Int × Unit) = ([1, 3], 0, ()) := by decide +kernel
  show K _
  rw [e]; exact h
theorem w32 {K : Int × Int × Int × Unit → Prop} (h : K (0, 18, 0, ())) : f32_wp (fan0, 100, ()) () K := by
  have e : widenF fan0 100 = (0, 18, 0, ()) := by decide +kernel
  show K (widenF fan0 100)
  rw [e]; exact h
theorem w25 {K : List Int × Int × Unit → Prop} (h : K ([0], 0, ())) : f25_wp (fan0, (10, 14), ()) () K := by
  have e : wrongF fan0 (10, 14) = ([0], 0, ()) := by decide +kernel
  refine ⟨fun _ _ _ _ => by show 2 ≤ 12; omega, ?_⟩
  show K (wrongF fan0 (10, 14))
  rw [e]; exact h
theorem w30 {K : Int × Int × Unit → Prop} (h : K (5, 0, ())) : f30_wp (fan0, 45, ()) () K := by
  have e : sticksF fan0 45 = (5, 0, ()) := by decide +kernel
  show K (sticksF fan0 45)
  rw [e]; exact h
theorem w31 {K : Int × Int × Unit → Prop} (h : K (235, 0, ())) : f31_wp (fan0, 18, ()) () K := by
  have e : pleatF fan0 18 = (235, 0, ()) := by decide +kernel
  show K (pleatF fan0 18)
  rw [e]; exact h
theorem w17 {K : Ratio × Ratio × Int × Unit → Prop} (h : K ((80, 1), (650, 7), 0, ())) : f17_wp [((100, 120), (1, 1), 50), ((30, 40), (1, 1), 200)] () K := by
  have e : balanceF [((100, 120), (1, 1), 50), ((30, 40), (1, 1), 200)] = ((80, 1), (650, 7), 0, ()) := by decide +kernel
  show K (balanceF _)
  rw [e]; exact h
theorem p10 {Q : Bool → Prop} (h : f10_wp () () Q) : V10 Q := by
  unfold V10 f39_wp f27_wp
  refine w28 ?_
  refine w12 ?_
  refine w32 ?_
  refine w25 ?_
  refine w30 ?_
  refine w31 ?_
  refine w17 ?_
  refine cndF (cndF (cndF (cndF (cndF (cndF (cndF ⟨_, rfl, cndT ⟨_, rfl, cndT (cndT (cndT ⟨_, rfl, cndT (cndT (cndT (cndT h)))⟩))⟩⟩))))))
theorem cnd_of {c : Bool} {p q : Prop} (hc : c = true) (h : p) : cnd c p q := by rw [hc]; exact h
theorem cnd_not {c : Bool} {p q : Prop} (hc : c = false) (h : q) : cnd c p q := by rw [hc]; exact h
theorem p3 {f : Fan} {Q : Bool → Prop} (h : f3_wp f () Q) : V3 f Q := by
  have h : Q true := h
  intro hl
  refine cnd_iff.2 ⟨fun c => h, fun c => ?_⟩
  have c : ¬ (f.2.2.length : Int) > 50 := of_decide_eq_false c
  refine ⟨by show f.2.2.length ≤ 1000000; omega, ?_⟩
  show cnd (!decide (f = f)) (Q false) (cnd (checkF f != 0) _ _)
  refine cnd_not (by simp) ?_
  refine cnd_iff.2 ⟨fun d => ?_, fun d => ?_⟩
  · have d := bne0.1.1 d
    have e : (if checkF f = 0 then (f.2.2.map (stopF f.1 f.2.1), 0, ()) else ([], checkF f, ()) : List Int × Int × Unit) = ([], checkF f, ()) := if_neg d
    show cnd ((if checkF f = 0 then (f.2.2.map (stopF f.1 f.2.1), 0, ()) else ([], checkF f, ()) : List Int × Int × Unit).2.1 == checkF f) ((if checkF f = 0 then (f.2.2.map (stopF f.1 f.2.1), 0, ()) else ([], checkF f, ()) : List Int × Int × Unit).1.length ≤ _ → cnd (((if checkF f = 0 then (f.2.2.map (stopF f.1 f.2.1), 0, ()) else ([], checkF f, ()) : List Int × Int × Unit).1.length : Int) == 0) _ _) _
    rw [e]
    exact cnd_of (by simp) fun _ => cnd_of rfl h
  · have d := bne0.2.1 d
    have ho := checkF_ok.1 d
    have e : (if checkF f = 0 then (f.2.2.map (stopF f.1 f.2.1), 0, ()) else ([], checkF f, ()) : List Int × Int × Unit) = (f.2.2.map (stopF f.1 f.2.1), 0, ()) := if_pos d
    have key : ∀ z : List Int × Int × Unit, z = (f.2.2.map (stopF f.1 f.2.1), 0, ()) → cnd (z.2.1 != 0) (Q false) (z.1.length ≤ 9223372036854775807 → f.2.2.length ≤ 9223372036854775807 → cnd ((z.1.length : Int) != (f.2.2.length : Int)) (Q false) (∃ (I : Int → Prop) (μ : Int → Nat), I 0 ∧ ∀ x, I x → z.1.length ≤ 9223372036854775807 → cnd (decide (x < (z.1.length : Int))) (0 ≤ x ∧ x < (z.1.length : Int) ∧ 0 ≤ x ∧ x < (f.2.2.length : Int) ∧ ∃ r : Int, (f15_wp (f, f.2.2.getD x.toNat g0, ()) () fun r' => r' = r) ∧ cnd (z.1.getD x.toNat 0 != r) (Q false) (I (IntKind.wrap .i64 (x + 1)) ∧ μ (IntKind.wrap .i64 (x + 1)) < μ x)) (f10_wp () () fun r => Q r))) := by
      rintro z rfl
      refine cndF fun _ _ => ?_
      have hlen : (f.2.2.map (stopF f.1 f.2.1)).length = f.2.2.length := by simp
      refine cnd_not (by simp) ?_
      refine forUpGL (n := (f.2.2.map (stopF f.1 f.2.1)).length) (fun _ => True) trivial (body := fun I μ x => 0 ≤ x ∧ x < ((f.2.2.map (stopF f.1 f.2.1)).length : Int) ∧ 0 ≤ x ∧ x < (f.2.2.length : Int) ∧ ∃ r : Int, (f15_wp (f, f.2.2.getD x.toNat g0, ()) () fun r' => r' = r) ∧ cnd ((f.2.2.map (stopF f.1 f.2.1)).getD x.toNat 0 != r) (Q false) (I (IntKind.wrap .i64 (x + 1)) ∧ μ (IntKind.wrap .i64 (x + 1)) < μ x)) (e := fun _ => f10_wp () () fun r => Q r) (fun k hk _ _ I μ hI hw => ?_) (fun _ => h)
      have hk' : k < f.2.2.length := by omega
      have hg : gapOK (f.2.2.getD k g0) = true := by
        have := ho.g _ (getD_mem (d := g0) hk')
        unfold gapOK
        rw [Bool.and_eq_true, isSpan_iff, isSpan_iff]; omega
      refine ⟨by omega, by omega, by omega, by omega, _, ⟨⟨ho, hg⟩, rfl⟩, ?_⟩
      rw [hw]
      refine cnd_not ?_ (hI trivial)
      show ((f.2.2.map (stopF f.1 f.2.1)).getD k 0 != stopF f.1 f.2.1 (f.2.2.getD k g0)) = false
      rw [getD_lt hk, getD_lt hk']
      simp
    exact key _ e
end Go.Proofs.Rv
set_option maxRecDepth 100000
namespace Go.Proofs.Rv
open Go Go.GX Go.Proofs
variable [Inhabited BaseD]
theorem ok27 : CallsOK Try.prog (assoc glT) 27 f27_ct :=
  callsOK_E (env (ct := []) (ios := []) (hos := []) (lits := []) AllOK.nil AllW.nil AllH.nil) no_an Try.func27 (by kernel_rfl) (by kernel_rfl) f27_ct fun ⟨a, b, _⟩ _ Q h => (v27 a b Q).mp (p27 h)
theorem ok39 : CallsOK Try.prog (assoc glT) 39 f39_ct :=
  callsOK_E (env (ct := [(27, f27_ct)]) (ios := []) (hos := []) (lits := [108]) (AllOK.cons ok27 AllOK.nil) AllW.nil AllH.nil) no_an Try.func39 (by kernel_rfl) (by kernel_rfl) f39_ct fun () _ Q h => (v39  Q).mp (p39 h)
theorem ok21 : CallsOK Try.prog (assoc glT) 21 f21_ct :=
  callsOK_E (env (ct := [(27, f27_ct)]) (ios := []) (hos := []) (lits := []) (AllOK.cons ok27 AllOK.nil) AllW.nil AllH.nil) f21_an Try.func21 (by kernel_rfl) (by kernel_rfl) f21_ct fun a _ Q h => (v21 a Q).mp (p21 h)
set_option maxHeartbeats 2000000 in
theorem ok10 : CallsOK Try.prog (assoc glT) 10 f10_ct :=
  callsOK_E (env (ct := [(39, f39_ct), (28, f28_ct), (12, f12_ct), (32, f32_ct), (27, f27_ct), (25, f25_ct), (30, f30_ct), (31, f31_ct), (17, f17_ct), (40, f40_ct), (41, f41_ct)]) (ios := []) (hos := []) (lits := []) (AllOK.cons ok39 (AllOK.cons ok28 (AllOK.cons ok12 (AllOK.cons ok32 (AllOK.cons ok27 (AllOK.cons ok25 (AllOK.cons ok30 (AllOK.cons ok31 (AllOK.cons ok17 (AllOK.cons ok40 (AllOK.cons ok41 AllOK.nil))))))))))) AllW.nil AllH.nil) no_an Try.func10 (by kernel_rfl) (by kernel_rfl) f10_ct fun () () Q h => (v10 Q).mp (p10 (Q := Q) h)
end Go.Proofs.Rv
set_option linter.unusedVariables false
set_option maxRecDepth 100000
namespace Go.Proofs.Rv
open Go Go.GX Go.Proofs

def V6 (x : (Int × Int) × (Int × Int) × List (Int × Int × Int × Int)) (d : Int) (v : Int × Int) (Q : Bool → Prop) : Prop :=
  f21_wp ((Prod.fst (Prod.fst x), Prod.snd (Prod.fst x)), (Prod.fst (Prod.fst (Prod.snd x)), Prod.snd (Prod.fst (Prod.snd x))), Prod.snd (Prod.snd x)) () fun (r : (Int ×
  Int) × (Int × Int) × List ((Int × Int) × Int × Int)) ↦ (361 : Int) ≠ (0 : Int) ∧ f11_wp ((Prod.fst (Prod.fst r), Prod.snd (Prod.fst r)), (Prod.fst (Prod.fst (Prod.snd
  r)), Prod.snd (Prod.fst (Prod.snd r))), Prod.snd (Prod.snd r)) () fun (r_1 : (Int × Int) × (Int × Int) × List ((Int × Int) × Int × Int)) ↦ f30_wp (((Prod.fst (Prod.fst
  r_1), Prod.snd (Prod.fst r_1)), (Prod.fst (Prod.fst (Prod.snd r_1)), Prod.snd (Prod.fst (Prod.snd r_1))), Prod.snd (Prod.snd r_1)), Int.tmod (IntKind.wrap IntKind.i64 d)
  (361 : Int), ()) () fun (r_2 : Int × Int × Unit) ↦ ∃ (I : Bool → Prop), cnd (Prod.fst (Prod.snd r_2) == (0 : Int)) (cnd (decide (Prod.fst r_2 < (1 : Int))) (I true) (cnd
  (decide (Prod.fst r_2 > (41 : Int))) (I true) (List.length (Prod.snd (Prod.snd r)) ≤ (9223372036854775807 : Nat) → cnd ((↑(List.length (Prod.snd (Prod.snd r))) : Int) ==
  (0 : Int)) (I true) (cnd (Prod.fst (Prod.snd r_2) != (0 : Int)) (cnd (Prod.fst (Prod.snd r_2) != (7 : Int)) (I true) (I (Prod.fst r_2 != (0 : Int)))) (I false))))) (cnd
  (Prod.fst (Prod.snd r_2) != (0 : Int)) (cnd (Prod.fst (Prod.snd r_2) != (7 : Int)) (I true) (I (Prod.fst r_2 != (0 : Int)))) (I false)) ∧ ∀ (x : Bool), I x → cnd x (Q
  false) (∃ (I : Int → Prop), ∃ (μ : Int → Nat), I (0 : Int) ∧ ∀ (x : Int), I x → cnd (decide (x < (2 : Int))) ((0 : Int) ≤ x ∧ x < (↑(2 : Nat) : Int) ∧ ∃ (I_1 : Int →
  Prop), cnd (Prod.fst (Prod.snd r_2) != (0 : Int)) (I_1 (40 : Int)) (I_1 (List.getD (IntKind.wrap IntKind.i64 (Prod.fst r_2 - (2 : Int)) :: IntKind.wrap IntKind.i64
  (Prod.fst r_2 - (1 : Int)) :: ([] : List Int)) (Int.toNat x) (IntKind.wrap IntKind.i64 (Prod.fst r_2 - (2 : Int))))) ∧ ∀ (x_1 : Int), I_1 x_1 → cnd (decide (x_1 < (0 :
  Int))) (I (IntKind.wrap IntKind.i64 (x + (1 : Int))) ∧ μ (IntKind.wrap IntKind.i64 (x + (1 : Int))) < μ x) (List.length (Prod.snd (Prod.snd r)) ≤ (9223372036854775807 :
  Nat) → cnd ((↑(List.length (Prod.snd (Prod.snd r))) : Int) == (0 : Int)) (I (IntKind.wrap IntKind.i64 (x + (1 : Int))) ∧ μ (IntKind.wrap IntKind.i64 (x + (1 : Int))) < μ
  x) (∃ (I_2 : Int → ((Int × Int) × Int × Int) × List ((Int × Int) × Int × Int) → Prop), ∃ (μ_1 : Int → ((Int × Int) × Int × Int) × List ((Int × Int) × Int × Int) → Nat),
  I_2 (0 : Int) (((Prod.fst (Prod.fst r), Prod.snd (Prod.fst r)), Prod.fst (Prod.fst (Prod.snd r)), Prod.snd (Prod.fst (Prod.snd r))), ([] : List ((Int × Int) × Int ×
  Int))) ∧ ∀ (x_2 : Int) (x_3 : ((Int × Int) × Int × Int) × List ((Int × Int) × Int × Int)), I_2 x_2 x_3 → cnd (decide (x_2 < x_1)) ((0 : Int) ≤ (0 : Int) ∧ (0 : Int) <
  (↑(List.length (Prod.snd (Prod.snd r))) : Int) ∧ (List.length (Prod.snd x_3) + List.length (((Prod.fst (Prod.fst (List.getD (Prod.snd (Prod.snd r)) (Int.toNat (0 : Int))
  (((0 : Int), (0 : Int)), (0 : Int), (0 : Int)))), Prod.snd (Prod.fst (List.getD (Prod.snd (Prod.snd r)) (Int.toNat (0 : Int)) (((0 : Int), (0 : Int)), (0 : Int), (0 :
  Int))))), Prod.fst (Prod.snd (List.getD (Prod.snd (Prod.snd r)) (Int.toNat (0 : Int)) (((0 : Int), (0 : Int)), (0 : Int), (0 : Int)))), Prod.snd (Prod.snd (List.getD
  (Prod.snd (Prod.snd r)) (Int.toNat (0 : Int)) (((0 : Int), (0 : Int)), (0 : Int), (0 : Int))))) :: ([] : List ((Int × Int) × Int × Int)))) * (32 : Nat) ≤ (140737488355328
  : Nat) ∧ I_2 (IntKind.wrap IntKind.i64 (x_2 + (1 : Int))) (((Prod.fst (Prod.fst (Prod.fst x_3)), Prod.snd (Prod.fst (Prod.fst x_3))), Prod.fst (Prod.snd (Prod.fst x_3)),
  Prod.snd (Prod.snd (Prod.fst x_3))), Prod.snd x_3 ++ ((Prod.fst (Prod.fst (List.getD (Prod.snd (Prod.snd r)) (Int.toNat (0 : Int)) (((0 : Int), (0 : Int)), (0 : Int), (0
  : Int)))), Prod.snd (Prod.fst (List.getD (Prod.snd (Prod.snd r)) (Int.toNat (0 : Int)) (((0 : Int), (0 : Int)), (0 : Int), (0 : Int))))), Prod.fst (Prod.snd (List.getD
  (Prod.snd (Prod.snd r)) (Int.toNat (0 : Int)) (((0 : Int), (0 : Int)), (0 : Int), (0 : Int)))), Prod.snd (Prod.snd (List.getD (Prod.snd (Prod.snd r)) (Int.toNat (0 :
  Int)) (((0 : Int), (0 : Int)), (0 : Int), (0 : Int))))) :: ([] : List ((Int × Int) × Int × Int))) ∧ μ_1 (IntKind.wrap IntKind.i64 (x_2 + (1 : Int))) (((Prod.fst (Prod.fst
  (Prod.fst x_3)), Prod.snd (Prod.fst (Prod.fst x_3))), Prod.fst (Prod.snd (Prod.fst x_3)), Prod.snd (Prod.snd (Prod.fst x_3))), Prod.snd x_3 ++ ((Prod.fst (Prod.fst
  (List.getD (Prod.snd (Prod.snd r)) (Int.toNat (0 : Int)) (((0 : Int), (0 : Int)), (0 : Int), (0 : Int)))), Prod.snd (Prod.fst (List.getD (Prod.snd (Prod.snd r))
  (Int.toNat (0 : Int)) (((0 : Int), (0 : Int)), (0 : Int), (0 : Int))))), Prod.fst (Prod.snd (List.getD (Prod.snd (Prod.snd r)) (Int.toNat (0 : Int)) (((0 : Int), (0 :
  Int)), (0 : Int), (0 : Int)))), Prod.snd (Prod.snd (List.getD (Prod.snd (Prod.snd r)) (Int.toNat (0 : Int)) (((0 : Int), (0 : Int)), (0 : Int), (0 : Int))))) :: ([] :
  List ((Int × Int) × Int × Int))) < μ_1 x_2 x_3) (f28_wp ((Prod.fst (Prod.fst (Prod.fst x_3)), Prod.snd (Prod.fst (Prod.fst x_3))), (Prod.fst (Prod.snd (Prod.fst x_3)),
  Prod.snd (Prod.snd (Prod.fst x_3))), Prod.snd x_3) () fun (r : (Int × Int) × Int × Unit) ↦ cnd (Prod.fst (Prod.snd r) != (0 : Int)) (Q false) (cnd (x == (1 : Int)) (cnd
  (!decide (Prod.fst (Prod.fst r) ≥ Int.tmod (IntKind.wrap IntKind.i64 d) (361 : Int)) == (Prod.fst (Prod.snd r_2) == (0 : Int))) (Q false) (I (IntKind.wrap IntKind.i64 (x
  + (1 : Int))) ∧ μ (IntKind.wrap IntKind.i64 (x + (1 : Int))) < μ x)) (cnd (!decide (Prod.fst (Prod.fst r) ≥ Int.tmod (IntKind.wrap IntKind.i64 d) (361 : Int)) == false)
  (Q false) (I (IntKind.wrap IntKind.i64 (x + (1 : Int))) ∧ μ (IntKind.wrap IntKind.i64 (x + (1 : Int))) < μ x))))))) (f11_wp ((Prod.fst (Prod.fst r), Prod.snd (Prod.fst
  r)), (Prod.fst (Prod.fst (Prod.snd r)), Prod.snd (Prod.fst (Prod.snd r))), Prod.snd (Prod.snd r)) () fun (r_3 : (Int × Int) × (Int × Int) × List ((Int × Int) × Int ×
  Int)) ↦ f31_wp (((Prod.fst (Prod.fst r_3), Prod.snd (Prod.fst r_3)), (Prod.fst (Prod.fst (Prod.snd r_3)), Prod.snd (Prod.fst (Prod.snd r_3))), Prod.snd (Prod.snd r_3)),
  Int.tmod (IntKind.wrap IntKind.i64 d) (361 : Int), ()) () fun (r_4 : Int × Int × Unit) ↦ ∃ (I : Bool → Prop), cnd (Prod.fst (Prod.snd r_4) == (0 : Int)) (cnd (decide
  (Prod.fst r_4 < (0 : Int))) (I true) (cnd (decide (Prod.fst r_4 > (1000 : Int))) (I true) (cnd (Prod.fst (Prod.snd r_4) != (0 : Int)) (cnd (Prod.fst (Prod.snd r_4) != (7
  : Int)) (I true) (I (Prod.fst r_4 != (0 : Int)))) (I false)))) (cnd (Prod.fst (Prod.snd r_4) != (0 : Int)) (cnd (Prod.fst (Prod.snd r_4) != (7 : Int)) (I true) (I
  (Prod.fst r_4 != (0 : Int)))) (I false)) ∧ ∀ (x : Bool), I x → cnd x (Q false) (∃ (I : Int → Prop), ∃ (μ : Int → Nat), I (0 : Int) ∧ ∀ (x : Int), I x → cnd (decide (x <
  (2 : Int))) ((0 : Int) ≤ x ∧ x < (↑(2 : Nat) : Int) ∧ ∃ (I_1 : Int → Prop), cnd (Prod.fst (Prod.snd r_4) != (0 : Int)) (I_1 (1000 : Int)) (I_1 (List.getD (IntKind.wrap
  IntKind.i64 (Prod.fst r_4 - (1 : Int)) :: Prod.fst r_4 :: ([] : List Int)) (Int.toNat x) (IntKind.wrap IntKind.i64 (Prod.fst r_4 - (1 : Int))))) ∧ ∀ (x_1 : Int), I_1 x_1
  → cnd (decide (x_1 < (0 : Int))) (I (IntKind.wrap IntKind.i64 (x + (1 : Int))) ∧ μ (IntKind.wrap IntKind.i64 (x + (1 : Int))) < μ x) (f11_wp ((Prod.fst (Prod.fst r),
  Prod.snd (Prod.fst r)), (Prod.fst (Prod.fst (Prod.snd r)), Prod.snd (Prod.fst (Prod.snd r))), Prod.snd (Prod.snd r)) () fun (r : (Int × Int) × (Int × Int) × List ((Int ×
  Int) × Int × Int)) ↦ ∃ (I_2 : Int → List ((Int × Int) × Int × Int) → Prop), ∃ (μ_1 : Int → List ((Int × Int) × Int × Int) → Nat), I_2 (0 : Int) (Prod.snd (Prod.snd r)) ∧
  ∀ (x_2 : Int) (x_3 : List ((Int × Int) × Int × Int)), I_2 x_2 x_3 → List.length x_3 ≤ (9223372036854775807 : Nat) → cnd (decide (x_2 < (↑(List.length x_3) : Int))) (∃ (r
  : Int × Int), (f27_wp (x_1, x_1, ()) () fun (r' : Int × Int) ↦ r' = r) ∧ (0 : Int) ≤ x_2 ∧ x_2 < (↑(List.length x_3) : Int) ∧ I_2 (IntKind.wrap IntKind.i64 (x_2 + (1 :
  Int))) (List.set x_3 (Int.toNat x_2) ((Prod.fst r, Prod.snd r), Prod.fst (Prod.snd (List.getD x_3 (Int.toNat x_2) (((0 : Int), (0 : Int)), (0 : Int), (0 : Int)))),
  Prod.snd (Prod.snd (List.getD x_3 (Int.toNat x_2) (((0 : Int), (0 : Int)), (0 : Int), (0 : Int)))))) ∧ μ_1 (IntKind.wrap IntKind.i64 (x_2 + (1 : Int))) (List.set x_3
  (Int.toNat x_2) ((Prod.fst r, Prod.snd r), Prod.fst (Prod.snd (List.getD x_3 (Int.toNat x_2) (((0 : Int), (0 : Int)), (0 : Int), (0 : Int)))), Prod.snd (Prod.snd
  (List.getD x_3 (Int.toNat x_2) (((0 : Int), (0 : Int)), (0 : Int), (0 : Int)))))) < μ_1 x_2 x_3) (f28_wp ((Prod.fst (Prod.fst r), Prod.snd (Prod.fst r)), (Prod.fst
  (Prod.fst (Prod.snd r)), Prod.snd (Prod.fst (Prod.snd r))), x_3) () fun (r : (Int × Int) × Int × Unit) ↦ cnd (Prod.fst (Prod.snd r) != (0 : Int)) (Q false) (cnd (x == (1
  : Int)) (cnd (!decide (Prod.fst (Prod.fst r) ≥ Int.tmod (IntKind.wrap IntKind.i64 d) (361 : Int)) == (Prod.fst (Prod.snd r_4) == (0 : Int))) (Q false) (I (IntKind.wrap
  IntKind.i64 (x + (1 : Int))) ∧ μ (IntKind.wrap IntKind.i64 (x + (1 : Int))) < μ x)) (cnd (!decide (Prod.fst (Prod.fst r) ≥ Int.tmod (IntKind.wrap IntKind.i64 d) (361 :
  Int)) == false) (Q false) (I (IntKind.wrap IntKind.i64 (x + (1 : Int))) ∧ μ (IntKind.wrap IntKind.i64 (x + (1 : Int))) < μ x)))))) (f11_wp ((Prod.fst (Prod.fst r),
  Prod.snd (Prod.fst r)), (Prod.fst (Prod.fst (Prod.snd r)), Prod.snd (Prod.fst (Prod.snd r))), Prod.snd (Prod.snd r)) () fun (r_5 : (Int × Int) × (Int × Int) × List ((Int
  × Int) × Int × Int)) ↦ f32_wp (((Prod.fst (Prod.fst r_5), Prod.snd (Prod.fst r_5)), (Prod.fst (Prod.fst (Prod.snd r_5)), Prod.snd (Prod.fst (Prod.snd r_5))), Prod.snd
  (Prod.snd r_5)), IntKind.wrap IntKind.i64 (Prod.fst v), ()) () fun (r_6 : Int × Int × Int × Unit) ↦ List.length (Prod.snd (Prod.snd r)) ≤ (9223372036854775807 : Nat) →
  cnd ((↑(List.length (Prod.snd (Prod.snd r))) : Int) == (0 : Int)) (cnd (Prod.fst (Prod.snd (Prod.snd r_6)) == (7 : Int)) (cnd (Prod.fst r_6 == (0 : Int)) (cnd (Prod.fst
  (Prod.snd r_6) == (0 : Int)) (f10_wp () () fun (r : Bool) ↦ Q r) (Q false)) (Q false)) (Q false)) (cnd (Prod.fst (Prod.snd (Prod.snd r_6)) != (0 : Int)) (Q false) (cnd
  (decide (Prod.fst r_6 < (0 : Int))) (Q false) (List.length (Prod.snd (Prod.snd r)) ≤ (9223372036854775807 : Nat) → cnd (decide (Prod.fst r_6 ≥ (↑(List.length (Prod.snd
  (Prod.snd r))) : Int))) (Q false) (∃ (I : Int → Prop), ∃ (μ : Int → Nat), I (0 : Int) ∧ ∀ (x : Int), I x → cnd (decide (x < (2 : Int))) (List.length (Prod.snd (Prod.snd
  r)) ≤ (9223372036854775807 : Nat) → (↑(List.length (Prod.snd (Prod.snd r))) : Int) ≠ (0 : Int) ∧ (0 : Int) ≤ x ∧ x < (↑(2 : Nat) : Int) ∧ f11_wp ((Prod.fst (Prod.fst r),
  Prod.snd (Prod.fst r)), (Prod.fst (Prod.fst (Prod.snd r)), Prod.snd (Prod.fst (Prod.snd r))), Prod.snd (Prod.snd r)) () fun (r_7 : (Int × Int) × (Int × Int) × List ((Int
  × Int) × Int × Int)) ↦ (0 : Int) ≤ List.getD (Prod.fst r_6 :: Int.tmod (IntKind.wrap IntKind.i64 (Prod.snd v)) (↑(List.length (Prod.snd (Prod.snd r))) : Int) :: ([] :
  List Int)) (Int.toNat x) (Prod.fst r_6) ∧ List.getD (Prod.fst r_6 :: Int.tmod (IntKind.wrap IntKind.i64 (Prod.snd v)) (↑(List.length (Prod.snd (Prod.snd r))) : Int) ::
  ([] : List Int)) (Int.toNat x) (Prod.fst r_6) < (↑(List.length (Prod.snd (Prod.snd r_7))) : Int) ∧ (0 : Int) ≤ List.getD (Prod.fst r_6 :: Int.tmod (IntKind.wrap
  IntKind.i64 (Prod.snd v)) (↑(List.length (Prod.snd (Prod.snd r))) : Int) :: ([] : List Int)) (Int.toNat x) (Prod.fst r_6) ∧ List.getD (Prod.fst r_6 :: Int.tmod
  (IntKind.wrap IntKind.i64 (Prod.snd v)) (↑(List.length (Prod.snd (Prod.snd r))) : Int) :: ([] : List Int)) (Int.toNat x) (Prod.fst r_6) < (↑(List.length (Prod.snd
  (Prod.snd r_7))) : Int) ∧ ∃ (r_8 : Int × Int), (f27_wp (IntKind.wrap IntKind.i64 (Prod.fst (Prod.fst (List.getD (Prod.snd (Prod.snd r_7)) (Int.toNat (List.getD (Prod.fst
  r_6 :: Int.tmod (IntKind.wrap IntKind.i64 (Prod.snd v)) (↑(List.length (Prod.snd (Prod.snd r))) : Int) :: ([] : List Int)) (Int.toNat x) (Prod.fst r_6))) (((0 : Int), (0
  : Int)), (0 : Int), (0 : Int)))) + IntKind.wrap IntKind.i64 (Prod.fst v)), IntKind.wrap IntKind.i64 (Prod.snd (Prod.fst (List.getD (Prod.snd (Prod.snd r_7)) (Int.toNat
  (List.getD (Prod.fst r_6 :: Int.tmod (IntKind.wrap IntKind.i64 (Prod.snd v)) (↑(List.length (Prod.snd (Prod.snd r))) : Int) :: ([] : List Int)) (Int.toNat x) (Prod.fst
  r_6))) (((0 : Int), (0 : Int)), (0 : Int), (0 : Int)))) + IntKind.wrap IntKind.i64 (Prod.fst v)), ()) () fun (r' : Int × Int) ↦ r' = r_8) ∧ (0 : Int) ≤ List.getD
  (Prod.fst r_6 :: Int.tmod (IntKind.wrap IntKind.i64 (Prod.snd v)) (↑(List.length (Prod.snd (Prod.snd r))) : Int) :: ([] : List Int)) (Int.toNat x) (Prod.fst r_6) ∧
  List.getD (Prod.fst r_6 :: Int.tmod (IntKind.wrap IntKind.i64 (Prod.snd v)) (↑(List.length (Prod.snd (Prod.snd r))) : Int) :: ([] : List Int)) (Int.toNat x) (Prod.fst
  r_6) < (↑(List.length (Prod.snd (Prod.snd r_7))) : Int) ∧ f28_wp ((Prod.fst (Prod.fst r_7), Prod.snd (Prod.fst r_7)), (Prod.fst (Prod.fst (Prod.snd r_7)), Prod.snd
  (Prod.fst (Prod.snd r_7))), List.set (Prod.snd (Prod.snd r_7)) (Int.toNat (List.getD (Prod.fst r_6 :: Int.tmod (IntKind.wrap IntKind.i64 (Prod.snd v)) (↑(List.length
  (Prod.snd (Prod.snd r))) : Int) :: ([] : List Int)) (Int.toNat x) (Prod.fst r_6))) ((Prod.fst r_8, Prod.snd r_8), Prod.fst (Prod.snd (List.getD (Prod.snd (Prod.snd r_7))
  (Int.toNat (List.getD (Prod.fst r_6 :: Int.tmod (IntKind.wrap IntKind.i64 (Prod.snd v)) (↑(List.length (Prod.snd (Prod.snd r))) : Int) :: ([] : List Int)) (Int.toNat x)
  (Prod.fst r_6))) (((0 : Int), (0 : Int)), (0 : Int), (0 : Int)))), Prod.snd (Prod.snd (List.getD (Prod.snd (Prod.snd r_7)) (Int.toNat (List.getD (Prod.fst r_6 :: Int.tmod
  (IntKind.wrap IntKind.i64 (Prod.snd v)) (↑(List.length (Prod.snd (Prod.snd r))) : Int) :: ([] : List Int)) (Int.toNat x) (Prod.fst r_6))) (((0 : Int), (0 : Int)), (0 :
  Int), (0 : Int)))))) () fun (r_9 : (Int × Int) × Int × Unit) ↦ ∃ (I_1 : Bool → Prop), cnd (Prod.fst (Prod.snd r_9) != (0 : Int)) (I_1 true) (cnd (x == (0 : Int)) (cnd
  (Prod.fst (Prod.fst r_9) != Prod.fst (Prod.snd r_6)) (I_1 true) (cnd (decide (Prod.fst (Prod.fst r_9) > Prod.fst (Prod.snd r_6))) (I_1 true) (cnd (Prod.fst (Prod.fst r_9)
  == Prod.fst (Prod.snd r_6)) (I_1 (decide (List.getD (Prod.fst r_6 :: Int.tmod (IntKind.wrap IntKind.i64 (Prod.snd v)) (↑(List.length (Prod.snd (Prod.snd r))) : Int) ::
  ([] : List Int)) (Int.toNat x) (Prod.fst r_6) < Prod.fst r_6))) (I_1 false)))) (cnd (decide (Prod.fst (Prod.fst r_9) > Prod.fst (Prod.snd r_6))) (I_1 true) (cnd (Prod.fst
  (Prod.fst r_9) == Prod.fst (Prod.snd r_6)) (I_1 (decide (List.getD (Prod.fst r_6 :: Int.tmod (IntKind.wrap IntKind.i64 (Prod.snd v)) (↑(List.length (Prod.snd (Prod.snd
  r))) : Int) :: ([] : List Int)) (Int.toNat x) (Prod.fst r_6) < Prod.fst r_6))) (I_1 false)))) ∧ ∀ (x_1 : Bool), I_1 x_1 → cnd x_1 (Q false) (I (IntKind.wrap IntKind.i64
  (x + (1 : Int))) ∧ μ (IntKind.wrap IntKind.i64 (x + (1 : Int))) < μ x)) (f10_wp () () fun (r : Bool) ↦ Q r)))))))))
theorem v6 (x : (Int × Int) × (Int × Int) × List (Int × Int × Int × Int)) (d : Int) (v : Int × Int) (Q : Bool → Prop) : V6 x d v Q = vcFunc (S1 [(21, f21_ct), (26, f26_ct), (30, f30_ct), (31, f31_ct), (32, f32_ct), (28, f28_ct), (27, f27_ct), (10, f10_ct)] [] [] []) f6_ct.own f6_ct.fresh f6_an Try.f6 (bodyOf Try.f6) f6_ct.A f6_ct.C f6_ct.R (x, d, v, ()) () Q := by kernel_rfl

end Go.Proofs.Rv
set_option linter.unusedVariables false
set_option maxRecDepth 100000
namespace Go.Proofs.Rv
open Go Go.GX Go.Proofs

theorem gen21 {a : Folded} {K : Fan → Prop} (h : FoldOK a) (hk : ∀ f, f = foldF a → K f) : f21_wp a () K := ⟨h, hk _ rfl⟩
theorem gen11 {f : Fan} {K : Fan → Prop} (h : f.2.2.length ≤ 1000000) (hk : K f) : f11_wp f () K := ⟨h, hk⟩
theorem gen28 {g : Fan} {K : Span × Int × Unit → Prop} (hg : CheckOK g) (hk : K (opensF g, 0, ())) : f28_wp g () K := by
  show K (if checkF g = 0 then (opensF g, 0, ()) else ((0, 0), checkF g, ()))
  rw [if_pos (checkF_ok.2 hg)]; exact hk
theorem len0 {α : Type} {l : List α} : ((l.length : Int) == 0) = false → l.length ≠ 0 := by
  intro h hh
  rw [hh] at h
  simp at h
theorem foldG_ok {r : Int × Int × Int × Int} (h : rowOK r) : (0 ≤ (foldG r).1.1 ∧ (foldG r).1.1 ≤ (foldG r).1.2 ∧ (foldG r).1.2 ≤ 540) ∧ 0 ≤ (foldG r).2.1 ∧ (foldG r).2.1 ≤ (foldG r).2.2 ∧ (foldG r).2.2 ≤ 70 := by
  obtain ⟨q1, q2, q3, q4⟩ := h
  unfold byteB at q1 q2 q3 q4
  have v1 := Int.emod_nonneg r.2.1 (show (30 : Int) ≠ 0 by omega)
  have v2 := Int.emod_lt_of_pos r.2.1 (show (0 : Int) < 30 by omega)
  have v3 := Int.emod_nonneg r.2.2.2 (show (6 : Int) ≠ 0 by omega)
  have v4 := Int.emod_lt_of_pos r.2.2.2 (show (0 : Int) < 6 by omega)
  have y1 : Int.tmod r.2.1 30 = r.2.1 % 30 := Int.tmod_eq_emod_of_nonneg q2.1
  have y2 : Int.tmod r.2.2.2 6 = r.2.2.2 % 6 := Int.tmod_eq_emod_of_nonneg q4.1
  have y3 : Int.tdiv r.2.2.1 4 = r.2.2.1 / 4 := Int.tdiv_eq_ediv_of_nonneg q3.1
  unfold foldG
  dsimp only
  omega

structure SmallFan (f : Fan) : Prop where
  ok : CheckOK f
  n : f.2.2.length ≤ 12
  far : f.1.2 ≤ 2600
  near : f.2.1.2 ≤ 294
  lo : 300 ≤ f.1.1
  g : ∀ g, g ∈ f.2.2 → (0 ≤ g.1.1 ∧ g.1.1 ≤ g.1.2 ∧ g.1.2 ≤ 540) ∧ 0 ≤ g.2.1 ∧ g.2.1 ≤ g.2.2 ∧ g.2.2 ≤ 70
theorem fold_small {a : Folded} (h : FoldOK a) : SmallFan (foldF a) := by
  obtain ⟨hf, hn, hg⟩ := h
  unfold byteB at hf hn
  have t1 := Int.emod_nonneg a.2.1.2 (show (20 : Int) ≠ 0 by omega)
  have t2 := Int.emod_lt_of_pos a.2.1.2 (show (0 : Int) < 20 by omega)
  have t3 : Int.tmod a.2.1.2 20 = a.2.1.2 % 20 := Int.tmod_eq_emod_of_nonneg hn.2.1
  have hgs : ∀ g, g ∈ (foldF a).2.2 → (0 ≤ g.1.1 ∧ g.1.1 ≤ g.1.2 ∧ g.1.2 ≤ 540) ∧ 0 ≤ g.2.1 ∧ g.2.1 ≤ g.2.2 ∧ g.2.2 ≤ 70 := fun g hgm => by
    obtain ⟨r, hr, rfl⟩ := List.mem_map.1 (show g ∈ (a.2.2.take 12).map foldG from hgm)
    exact foldG_ok (hg r (List.mem_of_mem_take hr))
  have hl : (foldF a).2.2.length ≤ 12 := by
    show ((a.2.2.take 12).map foldG).length ≤ 12
    rw [List.length_map, List.length_take]; omega
  have e1 : (foldF a).1 = (300 + 8 * a.1.1, 300 + 8 * a.1.1 + a.1.2) := rfl
  have e2 : (foldF a).2.1 = (20 + a.2.1.1, 20 + a.2.1.1 + Int.tmod a.2.1.2 20) := rfl
  refine ⟨⟨?_, ?_, ?_, by omega, fun g hgm => ?_⟩, hl, ?_, ?_, ?_, hgs⟩
  · rw [e1]; dsimp only; omega
  · rw [e2]; dsimp only; omega
  · rw [e1, e2]; dsimp only; omega
  · have := hgs g hgm; omega
  · rw [e1]; dsimp only; omega
  · rw [e2]; dsimp only; omega
  · rw [e1]; dsimp only; omega

def repF (f : Fan) (n : Nat) : Fan := (f.1, f.2.1, List.replicate n (f.2.2.getD 0 g0))
theorem rep_check {f : Fan} (h : CheckOK f) {n : Nat} (hn : n ≤ 40) (hl : 0 < f.2.2.length) : CheckOK (repF f n) := by
  refine ⟨h.far, h.near, h.lt, by show (List.replicate n _).length ≤ 40; simp; exact hn, fun g hg => ?_⟩
  rw [List.eq_of_mem_replicate hg]
  exact h.g _ (getD_mem hl)
theorem arc_check {f : Fan} (h : CheckOK f) {a : Int} (h1 : 0 ≤ a) (h2 : a ≤ 1000) : CheckOK (arcF f a) := by
  refine ⟨h.far, h.near, h.lt, by show (f.2.2.map _).length ≤ 40; rw [List.length_map]; exact h.n, fun g hg => ?_⟩
  obtain ⟨g', hg', rfl⟩ := List.mem_map.1 (show g ∈ f.2.2.map _ from hg)
  have := h.g g' hg'
  dsimp only; omega

theorem sticks_spec {f : Fan} (h : CheckOK f) {d : Int} (hd : inB 0 360 d = true) : (f.2.2.length = 0 ∧ sticksF f d = (0, 7, ())) ∨
    f.2.2.length ≠ 0 ∧ ((sticksF f d = (0, 7, ()) ∧ stickOK f d 40 = false) ∨ ∃ n : Nat, n ≤ 40 ∧ sticksF f d = ((n : Int) + 1, 0, ()) ∧ stickOK f d n = true ∧ (∀ j, j < n → stickOK f d j = false)) := by
  have e : sticksF f d = if f.2.2.length = 0 then ((0, 7, ()) : Int × Int × Unit) else match (List.range 41).find? (stickOK f d) with
    | some n => ((n : Int) + 1, 0, ())
    | none => (0, 7, ()) := by
    unfold sticksF
    rw [if_neg (by rw [checkF_ok.2 h]; omega), if_neg (by rw [hd]; simp)]
    rfl
  rw [e]
  by_cases h0 : f.2.2.length = 0
  · exact .inl ⟨h0, by rw [if_pos h0]⟩
  refine .inr ⟨h0, ?_⟩
  rw [if_neg h0]
  cases hf : (List.range 41).find? (stickOK f d) with
  | none =>
    rw [List.find?_eq_none] at hf
    have := hf 40 (List.mem_range.2 (by omega))
    exact .inl ⟨rfl, by simpa using this⟩
  | some n =>
    rw [List.find?_range_eq_some] at hf
    obtain ⟨h1, h2, h3⟩ := hf
    have h2 := List.mem_range.1 h2
    exact .inr ⟨n, by omega, rfl, h1, fun j hj => by have := h3 j hj; simpa using this⟩
theorem pleat_spec {f : Fan} (h : CheckOK f) {d : Int} (hd : inB 0 360 d = true) : (pleatF f d = (0, 7, ()) ∧ pleatOK f d 1000 = false) ∨ ∃ n : Nat, n ≤ 1000 ∧ pleatF f d = ((n : Int), 0, ()) ∧ pleatOK f d n = true ∧ (∀ j : Nat, j < n → pleatOK f d j = false) := by
  have e : pleatF f d = match (List.range 1001).find? (fun (a : Nat) => pleatOK f d (a : Int)) with
    | some n => ((n : Int), 0, ())
    | none => (0, 7, ()) := by
    unfold pleatF
    rw [if_neg (by rw [checkF_ok.2 h]; omega), if_neg (by rw [hd]; simp)]
    rfl
  rw [e]
  cases hf : (List.range 1001).find? (fun (a : Nat) => pleatOK f d (a : Int)) with
  | none =>
    rw [List.find?_eq_none] at hf
    have := hf 1000 (List.mem_range.2 (by omega))
    exact .inl ⟨rfl, by simpa using this⟩
  | some n =>
    rw [List.find?_range_eq_some] at hf
    obtain ⟨h1, h2, h3⟩ := hf
    have h2 := List.mem_range.1 h2
    exact .inr ⟨n, by omega, rfl, h1, fun j hj => by have := h3 j hj; simpa using this⟩
def degW (f : Fan) (more : Int) (i : Nat) : Int := degF (lowT (wideF f i more))
theorem widenK_spec {f : Fan} {more : Int} (hd : ∀ i, i < f.2.2.length → 0 ≤ degW f more i) : ∀ k, k < f.2.2.length → ∃ i : Nat, i < k + 1 ∧ widenK f more (k + 1) = ((i : Int), degW f more i) ∧ (∀ j, j < k + 1 → degW f more j ≤ degW f more i) ∧ ∀ j, j < i → degW f more j < degW f more i
  | 0, h => by
    refine ⟨0, by omega, ?_, fun j hj => ?_, fun j hj => absurd hj (Nat.not_lt_zero _)⟩
    · rw [widenK_succ]
      have : degF (lowT (wideF f 0 more)) > (widenK f more 0).2 := by
        have := hd 0 h
        show degW f more 0 > -1
        omega
      rw [if_pos this]
      rfl
    · have : j = 0 := by omega
      subst this; exact Int.le_refl _
  | k + 1, h => by
    obtain ⟨i, h1, h2, h3, h4⟩ := widenK_spec hd k (by omega)
    rw [widenK_succ, h2]
    by_cases hc : degF (lowT (wideF f (k + 1) more)) > ((i : Int), degW f more i).2
    · rw [if_pos hc]
      have hc : degW f more (k + 1) > degW f more i := hc
      refine ⟨k + 1, by omega, rfl, fun j hj => ?_, fun j hj => ?_⟩
      · rcases Nat.lt_succ_iff_lt_or_eq.1 hj with hj | rfl
        · have := h3 j hj; omega
        · exact Int.le_refl _
      · have := h3 j hj; omega
    · rw [if_neg hc]
      have hc : ¬ degW f more (k + 1) > degW f more i := hc
      refine ⟨i, by omega, rfl, fun j hj => ?_, h4⟩
      rcases Nat.lt_succ_iff_lt_or_eq.1 hj with hj | rfl
      · exact h3 j hj
      · omega
theorem wide_check {f : Fan} (h : SmallFan f) {i : Nat} (hi : i < f.2.2.length) {more : Int} (h1 : 0 ≤ more) (h2 : more ≤ 255) : CheckOK (wideF f i more) := by
  refine ⟨h.ok.far, h.ok.near, h.ok.lt, by show (f.2.2.set _ _).length ≤ 40; rw [List.length_set]; have := h.n; omega, fun g hg => ?_⟩
  rcases List.mem_or_eq_of_mem_set (show g ∈ f.2.2.set i _ from hg) with hg | rfl
  · exact h.ok.g g hg
  · have := h.g _ (getD_mem (d := g0) hi)
    unfold wideG
    dsimp only; omega
theorem widen_spec {f : Fan} (h : SmallFan f) {more : Int} (h1 : 0 ≤ more) (h2 : more ≤ 255) : (f.2.2.length = 0 ∧ widenF f more = (0, 0, 7, ())) ∨
    f.2.2.length ≠ 0 ∧ ∃ i : Nat, i < f.2.2.length ∧ widenF f more = ((i : Int), degW f more i, 0, ()) ∧ (∀ j, j < f.2.2.length → degW f more j ≤ degW f more i) ∧ ∀ j, j < i → degW f more j < degW f more i := by
  have e : widenF f more = if f.2.2.length = 0 then ((0, 0, 7, ()) : Int × Int × Int × Unit) else ((widenK f more f.2.2.length).1, (widenK f more f.2.2.length).2, 0, ()) := by
    unfold widenF
    rw [if_neg (by rw [checkF_ok.2 h.ok]; omega), if_neg (by simp only [inB, Bool.and_eq_false_iff, decide_eq_false_iff_not]; omega)]
  rw [e]
  by_cases h0 : f.2.2.length = 0
  · exact .inl ⟨h0, by rw [if_pos h0]⟩
  refine .inr ⟨h0, ?_⟩
  rw [if_neg h0]
  obtain ⟨k, hk⟩ : ∃ k, f.2.2.length = k + 1 := ⟨f.2.2.length - 1, by omega⟩
  obtain ⟨i, a1, a2, a3, a4⟩ := widenK_spec (f := f) (more := more) (fun i hi => by
    have := (wide_check h hi h1 h2).fan.low
    exact (degND_range this.1 this.2).1) k (by omega)
  rw [← hk] at a1 a2 a3
  exact ⟨i, a1, by rw [a2], a3, a4⟩
theorem gen30 {f : Fan} {d : Int} {K : Int × Int × Unit → Prop} (hk : ∀ z, z = sticksF f d → K z) : f30_wp (f, d, ()) () K := hk _ rfl
theorem gen31 {f : Fan} {d : Int} {K : Int × Int × Unit → Prop} (hk : ∀ z, z = pleatF f d → K z) : f31_wp (f, d, ()) () K := hk _ rfl
theorem gen32 {f : Fan} {d : Int} {K : Int × Int × Int × Unit → Prop} (hk : ∀ z, z = widenF f d → K z) : f32_wp (f, d, ()) () K := hk _ rfl
theorem nb (a b : Bool) (h : a = b) : (!(a == b)) = false := by rw [h]; cases b <;> rfl
theorem p6 {x : Folded} {d : Int} {v : Int × Int} {Q : Bool → Prop} (h : f6_wp (x, d, v, ()) () Q) : V6 x d v Q := by
  obtain ⟨⟨hx, ⟨hd1, hd2⟩, hv1, hv2⟩, h⟩ := h
  have hx : FoldOK x := hx
  have hd1 : 0 ≤ d := hd1
  have hd2 : d ≤ 65535 := hd2
  have hv1 : 0 ≤ v.1 ∧ v.1 ≤ 255 := hv1
  have hv2 : 0 ≤ v.2 ∧ v.2 ≤ 255 := hv2
  have h : Q true := h
  rw [V6, wrapS (x := d) (by omega) (by omega), wrapS (x := v.1) (by omega) (by omega), wrapS (x := v.2) (by omega) (by omega)]
  obtain ⟨D, hD⟩ : ∃ D, D = Int.tmod d 361 := ⟨_, rfl⟩
  rw [← hD]
  have hD2 : inB 0 360 D = true := by
    rw [Int.tmod_eq_emod_of_nonneg hd1] at hD
    simp only [inB, Bool.and_eq_true, decide_eq_true_eq]
    have := Int.emod_nonneg d (show (361 : Int) ≠ 0 by omega)
    have := Int.emod_lt_of_pos d (show (0 : Int) < 361 by omega)
    omega
  refine gen21 hx fun f hf => ?_
  have sf : SmallFan f := by rw [hf]; exact fold_small hx
  have ho := sf.ok
  have hn := sf.n
  refine ⟨by omega, gen11 (f := f) (by omega) (gen30 (f := f) (d := D) fun z hz => ?_)⟩
  have zs : (z = (0, 7, ()) ∧ (f.2.2.length = 0 ∨ stickOK f D 40 = false)) ∨ (f.2.2.length ≠ 0 ∧ ∃ n : Nat, n ≤ 40 ∧ z = ((n : Int) + 1, 0, ()) ∧ stickOK f D n = true ∧ ∀ j, j < n → stickOK f D j = false) := by
    rw [hz]
    rcases sticks_spec ho hD2 with ⟨a, b⟩ | ⟨a, ⟨b, c⟩ | ⟨n, b, c, e⟩⟩
    · exact .inl ⟨b, .inl a⟩
    · exact .inl ⟨b, .inr c⟩
    · exact .inr ⟨a, n, b, c, e⟩
  refine ⟨fun b => b = false, ?_, ?_⟩
  · rcases zs with ⟨rfl, _⟩ | ⟨a, n, b, rfl, _⟩
    · exact cndF (cndT (cndF rfl))
    · exact cndT (cnd_not (decide_eq_false (by dsimp only; omega)) (cnd_not (decide_eq_false (by dsimp only; omega)) fun _ => cnd_not (by simpa using a) (cndF rfl)))
  rintro _ rfl
  refine cndF ?_
  refine forUpG (n := 2) (by omega) (fun _ => True) trivial (fun k hk _ I μ hI hw => ?_) (fun _ => ?_)
  · have hI := hI trivial
    rw [← hw] at hI
    refine ⟨by omega, by omega, ?_⟩
    refine ⟨fun m => m < 0 ∨ f.2.2.length = 0 ∨ ∃ n : Nat, m = n ∧ n ≤ 40 ∧ stickOK f D n = (decide (k = 1) && (z.2.1 == 0)), ?_, ?_⟩
    · rcases zs with ⟨rfl, a | a⟩ | ⟨a, n, b, rfl, c, e⟩
      · exact cndT (.inr (.inl a))
      · exact cndT (.inr (.inr ⟨40, rfl, by omega, by rw [a]; simp⟩))
      · refine cndF ?_
        have : k = 0 ∨ k = 1 := by omega
        rcases this with rfl | rfl
        · show IntKind.wrap .i64 ((n : Int) + 1 - 2) < 0 ∨ _ ∨ ∃ n' : Nat, IntKind.wrap .i64 ((n : Int) + 1 - 2) = n' ∧ _
          rw [wrapS (by omega) (by omega)]
          rcases n with _ | n
          · exact .inl (by omega)
          · exact .inr (.inr ⟨n, by push_cast; omega, by omega, by rw [e n (by omega)]; rfl⟩)
        · show IntKind.wrap .i64 ((n : Int) + 1 - 1) < 0 ∨ _ ∨ ∃ n' : Nat, IntKind.wrap .i64 ((n : Int) + 1 - 1) = n' ∧ _
          rw [wrapS (by omega) (by omega)]
          exact .inr (.inr ⟨n, by omega, by omega, by rw [c]; rfl⟩)
    intro m hm
    refine cnd_iff.2 ⟨fun c => hI, fun c hl => cnd_iff.2 ⟨fun c2 => hI, fun c2 => ?_⟩⟩
    have c := of_decide_eq_false c
    have c2 := len0 c2
    rcases hm with hm | hm | ⟨n, rfl, hn2, hs⟩
    · exact absurd hm c
    · exact absurd hm c2
    refine forUp (n := n) (by omega) (fun i => (((f.1, f.2.1), List.replicate i (f.2.2.getD 0 g0)) : (Span × Span) × List Gap)) rfl (fun i hi J ν hJ hw2 => ?_) ?_
    · rw [List.replicate_succ'] at hJ
      rw [hw2]
      exact ⟨Int.le_refl _, by omega, by simp only [List.length_replicate, List.length_cons, List.length_nil]; omega, hJ⟩
    · refine gen28 (g := repF f n) (rep_check ho hn2 (by omega)) ?_
      have hs2 : decide ((opensF (repF f n)).1 ≥ D) = (decide (k = 1) && (z.2.1 == 0)) := hs
      refine cndF (cnd_iff.2 ⟨fun e => ?_, fun e => ?_⟩)
      · have e : (k : Int) = 1 := by simpa using e
        rw [decide_eq_true (show k = 1 by omega), Bool.true_and] at hs2
        exact cnd_not (nb _ _ hs2) hI
      · have e : ¬ (k : Int) = 1 := by simpa using e
        rw [decide_eq_false (show ¬ k = 1 by omega), Bool.false_and] at hs2
        exact cnd_not (nb _ _ hs2) hI
  refine gen11 (f := f) (by omega) (gen31 (f := f) (d := D) fun y hy => ?_)
  have ys : (y = (0, 7, ()) ∧ pleatOK f D 1000 = false) ∨ ∃ n : Nat, n ≤ 1000 ∧ y = ((n : Int), 0, ()) ∧ pleatOK f D n = true ∧ ∀ j : Nat, j < n → pleatOK f D j = false := by
    rw [hy]; exact pleat_spec ho hD2
  refine ⟨fun b => b = false, ?_, ?_⟩
  · rcases ys with ⟨rfl, _⟩ | ⟨n, b, rfl, _⟩
    · exact cndF (cndT (cndF rfl))
    · exact cndT (cnd_not (decide_eq_false (by dsimp only; omega)) (cnd_not (decide_eq_false (by dsimp only; omega)) (cndF rfl)))
  rintro _ rfl
  refine cndF ?_
  refine forUpG (n := 2) (by omega) (fun _ => True) trivial (fun k hk _ I μ hI hw => ?_) (fun _ => ?_)
  · have hI := hI trivial
    rw [← hw] at hI
    refine ⟨by omega, by omega, ?_⟩
    refine ⟨fun m => m < 0 ∨ ∃ n : Nat, m = n ∧ n ≤ 1000 ∧ pleatOK f D n = (decide (k = 1) && (y.2.1 == 0)), ?_, ?_⟩
    · rcases ys with ⟨rfl, a⟩ | ⟨n, b, rfl, c, e⟩
      · exact cndT (.inr ⟨1000, rfl, by omega, by rw [show ((1000 : Nat) : Int) = 1000 from rfl, a]; simp⟩)
      · refine cndF ?_
        have : k = 0 ∨ k = 1 := by omega
        rcases this with rfl | rfl
        · show IntKind.wrap .i64 ((n : Int) - 1) < 0 ∨ ∃ n' : Nat, IntKind.wrap .i64 ((n : Int) - 1) = n' ∧ _
          rw [wrapS (by omega) (by omega)]
          rcases n with _ | n
          · exact .inl (by omega)
          · exact .inr ⟨n, by push_cast; omega, by omega, by rw [e n (by omega)]; rfl⟩
        · show (n : Int) < 0 ∨ ∃ n' : Nat, (n : Int) = n' ∧ _
          exact .inr ⟨n, by omega, by omega, by rw [c]; rfl⟩
    intro m hm
    refine cnd_iff.2 ⟨fun c => hI, fun c => ?_⟩
    have c := of_decide_eq_false c
    rcases hm with hm | ⟨n, rfl, hn2, hs⟩
    · exact absurd hm c
    refine gen11 (f := f) (by omega) ?_
    refine upTo1 (n := f.2.2.length) (by omega) (fun i => (f.2.2.take i).map (fun g => ((((n : Int), (n : Int)), g.2) : Gap)) ++ f.2.2.drop i) (by simp) (fun i hi J ν hJ => ?_)
    have hlen : ((f.2.2.take i).map (fun g => ((((n : Int), (n : Int)), g.2) : Gap)) ++ f.2.2.drop i).length = f.2.2.length := by simp; omega
    intro _
    refine cnd_iff.2 ⟨fun c2 => ?_, fun c2 => ?_⟩
    · have c2 := of_decide_eq_true c2
      rw [hlen] at c2
      have hi2 : i < f.2.2.length := by omega
      obtain ⟨hw2, hJ⟩ := hJ hi2
      have hg : ((f.2.2.take i).map (fun g => ((((n : Int), (n : Int)), g.2) : Gap)) ++ f.2.2.drop i).getD i g0 = f.2.2.getD i g0 := by
        rw [getD_drop (d := g0) hi2, List.getD_eq_getElem?_getD, List.getElem?_append_right (by simp; omega), show i - ((f.2.2.take i).map (fun g => ((((n : Int), (n : Int)), g.2) : Gap))).length = 0 by simp; omega]
        rfl
      have hset : ((f.2.2.take i).map (fun g => ((((n : Int), (n : Int)), g.2) : Gap)) ++ f.2.2.drop i).set i (((n : Int), (n : Int)), (f.2.2.getD i g0).2) = (f.2.2.take (i + 1)).map (fun g => ((((n : Int), (n : Int)), g.2) : Gap)) ++ f.2.2.drop (i + 1) := by
        rw [getD_drop (d := g0) hi2, List.set_append_right _ _ (by simp; omega), show i - ((f.2.2.take i).map (fun g => ((((n : Int), (n : Int)), g.2) : Gap))).length = 0 by simp; omega, take_succ_getD (d := g0) hi2]
        simp
      refine ⟨_, rfl, by omega, by rw [hlen]; omega, ?_⟩
      rw [show Int.toNat (i : Int) = i from rfl, hg, hw2]
      rw [← hset] at hJ
      exact hJ
    · have c2 := of_decide_eq_false c2
      rw [hlen] at c2
      have hi2 : i = f.2.2.length := by omega
      subst hi2
      rw [show (f.2.2.take f.2.2.length).map (fun g => ((((n : Int), (n : Int)), g.2) : Gap)) ++ f.2.2.drop f.2.2.length = f.2.2.map (fun g => ((((n : Int), (n : Int)), g.2) : Gap)) by simp]
      refine gen28 (g := arcF f n) (arc_check ho (by omega) (by omega)) ?_
      have hs2 : decide ((opensF (arcF f n)).1 ≥ D) = (decide (k = 1) && (y.2.1 == 0)) := hs
      refine cndF (cnd_iff.2 ⟨fun e => ?_, fun e => ?_⟩)
      · have e : (k : Int) = 1 := by simpa using e
        rw [decide_eq_true (show k = 1 by omega), Bool.true_and] at hs2
        exact cnd_not (nb _ _ hs2) hI
      · have e : ¬ (k : Int) = 1 := by simpa using e
        rw [decide_eq_false (show ¬ k = 1 by omega), Bool.false_and] at hs2
        exact cnd_not (nb _ _ hs2) hI
  refine gen11 (f := f) (by omega) (gen32 (f := f) (d := v.1) fun w hw0 => ?_)
  intro _
  rcases widen_spec sf hv1.1 hv1.2 with ⟨a, b⟩ | ⟨a, i, b, c, e, e2⟩
  · rw [b] at hw0
    subst hw0
    exact cnd_of (by simpa using a) (cndT (cndT (cndT h)))
  rw [c] at hw0
  have z1 : w.1 = (i : Int) := by rw [hw0]
  have z2 : w.2.1 = degW f v.1 i := by rw [hw0]
  have z3 : w.2.2.1 = 0 := by rw [hw0]
  clear hw0
  refine cnd_not (by simpa using a) (cnd_not (by rw [z3]; rfl) (cnd_not (decide_eq_false (by rw [z1]; omega)) fun _ => cnd_not (decide_eq_false (by rw [z1]; omega)) ?_))
  refine forUpG (n := 2) (by omega) (fun _ => True) trivial (fun k hk _ I μ hI hw => ?_) (fun _ => h)
  have hI := hI trivial
  rw [← hw] at hI
  intro _
  refine ⟨by omega, by omega, by omega, gen11 (f := f) (by omega) ?_⟩
  obtain ⟨j, hj1, hj2, hj3⟩ : ∃ j : Nat, List.getD [w.1, Int.tmod v.2 (f.2.2.length : Int)] (Int.toNat (k : Int)) w.1 = (j : Int) ∧ j < f.2.2.length ∧ (k = 0 → j = i) := by
    have : k = 0 ∨ k = 1 := by omega
    rcases this with rfl | rfl
    · exact ⟨i, z1, b, fun _ => rfl⟩
    · have m1 : 0 ≤ Int.tmod v.2 (f.2.2.length : Int) ∧ Int.tmod v.2 (f.2.2.length : Int) < f.2.2.length := by
        rw [Int.tmod_eq_emod_of_nonneg hv2.1]
        exact ⟨Int.emod_nonneg _ (by omega), Int.emod_lt_of_pos _ (by omega)⟩
      exact ⟨(Int.tmod v.2 (f.2.2.length : Int)).toNat, by show Int.tmod v.2 (f.2.2.length : Int) = _; omega, by omega, fun hh => by omega⟩
  change _ ∧ _
  rw [hj1]
  have hg := sf.g _ (getD_mem (d := g0) hj2)
  have w1 : IntKind.wrap .i64 ((f.2.2.getD (Int.toNat (j : Int)) g0).1.1 + v.1) = (f.2.2.getD j g0).1.1 + v.1 := by rw [show Int.toNat (j : Int) = j from rfl]; exact wrapS (by omega) (by omega)
  have w2 : IntKind.wrap .i64 ((f.2.2.getD (Int.toNat (j : Int)) g0).1.2 + v.1) = (f.2.2.getD j g0).1.2 + v.1 := by rw [show Int.toNat (j : Int) = j from rfl]; exact wrapS (by omega) (by omega)
  rw [w1, w2]
  refine ⟨by omega, by omega, by omega, by omega, _, rfl, by omega, by omega, ?_⟩
  refine gen28 (g := wideF f j v.1) (wide_check sf hj2 hv1.1 hv1.2) ?_
  have rest : cnd (decide (degW f v.1 j > w.2.1)) (true = false) (cnd (degW f v.1 j == w.2.1) (decide ((j : Int) < w.1) = false) (false = false)) := by
    refine cnd_not (decide_eq_false ?_) (cnd_iff.2 ⟨fun e3 => decide_eq_false ?_, fun _ => rfl⟩)
    · have := e j hj2
      rw [z2]; omega
    · have e3 : degW f v.1 j = w.2.1 := by simpa using e3
      rw [z1]
      intro hlt
      have := e2 j (by omega)
      omega
  refine ⟨fun b => b = false, ?_, ?_⟩
  · refine cndF (cnd_iff.2 ⟨fun e0 => cnd_not ?_ rest, fun e0 => rest⟩)
    have e0 : (k : Int) = 0 := by simpa using e0
    have := hj3 (by omega)
    subst this
    show (degW f v.1 j != w.2.1) = false
    rw [z2]; simp
  · rintro _ rfl
    exact cndF hI
end Go.Proofs.Rv
set_option maxRecDepth 100000
set_option maxHeartbeats 2000000
namespace Go.Proofs.Rv
open Go Go.GX Go.Proofs
variable [Inhabited BaseD]
theorem ok6 : CallsOK Try.prog (assoc glT) 6 f6_ct :=
  callsOK_E (env (ct := [(21, f21_ct), (26, f26_ct), (30, f30_ct), (31, f31_ct), (32, f32_ct), (28, f28_ct), (27, f27_ct), (10, f10_ct)]) (ios := []) (hos := []) (lits := []) (AllOK.cons ok21 (AllOK.cons ok26 (AllOK.cons ok30 (AllOK.cons ok31 (AllOK.cons ok32 (AllOK.cons ok28 (AllOK.cons ok27 (AllOK.cons ok10 AllOK.nil)))))))) AllW.nil AllH.nil) f6_an Try.func6 (by kernel_rfl) (by kernel_rfl) f6_ct fun ⟨x, d, v, _⟩ _ Q h => (v6 x d v Q).mp (p6 h)
end Go.Proofs.Rv
