/- Part 8 of the texts behind the proof: RvV5, RvP8, RvV6, RvP9, RvO3, RvM3, RvV7, RvPb, RvM4, RvV8, RvPc, RvO6. -/
import Derived.Test.YtmdonphignifoaaG07
import Derived.Test.YtmdonphignifoaaProg
set_option linter.unusedSimpArgs false
set_option linter.unusedVariables false
set_option linter.unusedSectionVars false
set_option linter.unusedVariables false
set_option maxRecDepth 100000
namespace Go.Proofs.Rv
open Go Go.GX Go.Proofs

def V27 (a : Int) (b : Int) (Q : Int × Int → Prop) : Prop :=
  Q (a, b)
theorem v27 (a : Int) (b : Int) (Q : Int × Int → Prop) : V27 a b Q = vcFunc (S1 [] [] [] []) f27_ct.own f27_ct.fresh no_an Try.f27 (bodyOf Try.f27) f27_ct.A f27_ct.C f27_ct.R (a, b, ()) () Q := by kernel_rfl

def V39 (Q : (Int × Int) × (Int × Int) × List ((Int × Int) × Int × Int) → Prop) : Prop :=
  f27_wp ((900 : Int), (1000 : Int), ()) () fun (r : Int × Int) ↦
    f27_wp ((40 : Int), (50 : Int), ()) () fun (r_1 : Int × Int) ↦
      f27_wp ((200 : Int), (210 : Int), ()) () fun (r_2 : Int × Int) ↦
        f27_wp ((12 : Int), (12 : Int), ()) () fun (r_3 : Int × Int) ↦
          f27_wp ((100 : Int), (100 : Int), ()) () fun (r_4 : Int × Int) ↦
            f27_wp ((4 : Int), (5 : Int), ()) () fun (r_5 : Int × Int) ↦
              Q
                ((Prod.fst r, Prod.snd r), (Prod.fst r_1, Prod.snd r_1),
                  ((Prod.fst r_2, Prod.snd r_2), Prod.fst r_3, Prod.snd r_3) ::
                    ((Prod.fst r_4, Prod.snd r_4), Prod.fst r_5, Prod.snd r_5) :: ([] : List ((Int × Int) × Int × Int)))
theorem v39 (Q : (Int × Int) × (Int × Int) × List ((Int × Int) × Int × Int) → Prop) : V39 Q = vcFunc (S1 [(27, f27_ct)] [] [] [108]) f39_ct.own f39_ct.fresh no_an Try.f39 (bodyOf Try.f39) f39_ct.A f39_ct.C f39_ct.R () () Q := by kernel_rfl

def V29 (b : List Int) (i : Int) (Q : Int → Prop) : Prop :=
  List.length b ≤ (9223372036854775807 : Nat) →
    cnd ((↑(List.length b) : Int) == (0 : Int)) (Q (0 : Int))
      (List.length b ≤ (9223372036854775807 : Nat) →
        (↑(List.length b) : Int) ≠ (0 : Int) ∧
          (0 : Int) ≤ Int.tmod i (↑(List.length b) : Int) ∧
            Int.tmod i (↑(List.length b) : Int) < (↑(List.length b) : Int) ∧
              Q (IntKind.wrap IntKind.i64 (List.getD b (Int.toNat (Int.tmod i (↑(List.length b) : Int))) (0 : Int))))
theorem v29 (b : List Int) (i : Int) (Q : Int → Prop) : V29 b i Q = vcFunc (S1 [] [] [] []) f29_ct.own f29_ct.fresh no_an Try.f29 (bodyOf Try.f29) f29_ct.A f29_ct.C f29_ct.R (b, i, ()) () Q := by kernel_rfl

def V37 (s : Int × Int) (b : Int) (Q : Int → Prop) : Prop :=
  (255 : Int) ≠ (0 : Int) ∧
    Q
      (IntKind.wrap IntKind.i64
        (Prod.fst s +
          IntKind.wrap IntKind.i64 (Int.tdiv (IntKind.wrap IntKind.i64 (b * IntKind.wrap IntKind.i64 (Prod.snd s - Prod.fst s))) (255 : Int))))
theorem v37 (s : Int × Int) (b : Int) (Q : Int → Prop) : V37 s b Q = vcFunc (S1 [] [] [] []) f37_ct.own f37_ct.fresh no_an Try.f37 (bodyOf Try.f37) f37_ct.A f37_ct.C f37_ct.R (s, b, ()) () Q := by kernel_rfl

def V52 (s : Int × Int) (i : Int) (b : List Int) (Q : Int × Int → Prop) : Prop :=
  ∃ (r : Int),
    (f29_wp (b, i, ()) () fun (r' : Int) ↦ r' = r) ∧
      ∃ (r_1 : Int),
        (f37_wp ((Prod.fst s, Prod.snd s), r, ()) () fun (r' : Int) ↦ r' = r_1) ∧
          f27_wp (r_1, r_1, ()) () fun (r : Int × Int) ↦ Q (Prod.fst r, Prod.snd r)
theorem v52 (s : Int × Int) (i : Int) (b : List Int) (Q : Int × Int → Prop) : V52 s i b Q = vcFunc (S1 [(29, f29_ct), (37, f37_ct), (27, f27_ct)] [] [] []) f52_ct.own f52_ct.fresh no_an Try.f52 (bodyOf Try.f52) f52_ct.A f52_ct.C f52_ct.R (s, i, ()) (b, ()) Q := by kernel_rfl

def V24 (f : (Int × Int) × (Int × Int) × List ((Int × Int) × Int × Int)) (b : List Int) (Q : (Int × Int) × (Int × Int) × List ((Int × Int) × Int × Int) → Prop) : Prop :=
  ∃ (r : Int × Int),
    (f52_wp ((Prod.fst (Prod.fst f), Prod.snd (Prod.fst f)), (0 : Int), ()) (b, ()) fun (r' : Int × Int) ↦ r' = r) ∧
      ∃ (r_1 : Int × Int),
        (f52_wp ((Prod.fst (Prod.fst (Prod.snd f)), Prod.snd (Prod.fst (Prod.snd f))), (1 : Int), ()) (b, ()) fun (r' : Int × Int) ↦ r' = r_1) ∧
          ∃ (I : Int → ((Int × Int) × Int × Int) × List ((Int × Int) × Int × Int) → Prop),
            ∃ (μ : Int → ((Int × Int) × Int × Int) × List ((Int × Int) × Int × Int) → Nat),
              I (0 : Int) (((Prod.fst r, Prod.snd r), Prod.fst r_1, Prod.snd r_1), ([] : List ((Int × Int) × Int × Int))) ∧
                ∀ (x : Int) (x_1 : ((Int × Int) × Int × Int) × List ((Int × Int) × Int × Int)),
                  I x x_1 →
                    List.length (Prod.snd (Prod.snd f)) ≤ (9223372036854775807 : Nat) →
                      cnd (decide (x < (↑(List.length (Prod.snd (Prod.snd f))) : Int)))
                        ((0 : Int) ≤ x ∧
                          x < (↑(List.length (Prod.snd (Prod.snd f))) : Int) ∧
                            ∃ (r : Int × Int),
                              (f52_wp
                                  ((Prod.fst
                                        (Prod.fst (List.getD (Prod.snd (Prod.snd f)) (Int.toNat x) (((0 : Int), (0 : Int)), (0 : Int), (0 : Int)))),
                                      Prod.snd
                                        (Prod.fst (List.getD (Prod.snd (Prod.snd f)) (Int.toNat x) (((0 : Int), (0 : Int)), (0 : Int), (0 : Int))))),
                                    IntKind.wrap IntKind.i64 (IntKind.wrap IntKind.i64 ((2 : Int) * x) + (2 : Int)), ())
                                  (b, ()) fun (r' : Int × Int) ↦ r' = r) ∧
                                (0 : Int) ≤ x ∧
                                  x < (↑(List.length (Prod.snd (Prod.snd f))) : Int) ∧
                                    ∃ (r_2 : Int × Int),
                                      (f52_wp
                                          ((Prod.fst
                                                (Prod.snd
                                                  (List.getD (Prod.snd (Prod.snd f)) (Int.toNat x) (((0 : Int), (0 : Int)), (0 : Int), (0 : Int)))),
                                              Prod.snd
                                                (Prod.snd
                                                  (List.getD (Prod.snd (Prod.snd f)) (Int.toNat x) (((0 : Int), (0 : Int)), (0 : Int), (0 : Int))))),
                                            IntKind.wrap IntKind.i64 (IntKind.wrap IntKind.i64 ((2 : Int) * x) + (3 : Int)), ())
                                          (b, ()) fun (r' : Int × Int) ↦ r' = r_2) ∧
                                        (List.length (Prod.snd x_1) +
                                                List.length
                                                  (((Prod.fst r, Prod.snd r), Prod.fst r_2, Prod.snd r_2) :: ([] : List ((Int × Int) × Int × Int)))) *
                                              (32 : Nat) ≤
                                            (140737488355328 : Nat) ∧
                                          I (IntKind.wrap IntKind.i64 (x + (1 : Int)))
                                              (((Prod.fst (Prod.fst (Prod.fst x_1)), Prod.snd (Prod.fst (Prod.fst x_1))),
                                                  Prod.fst (Prod.snd (Prod.fst x_1)), Prod.snd (Prod.snd (Prod.fst x_1))),
                                                Prod.snd x_1 ++
                                                  ((Prod.fst r, Prod.snd r), Prod.fst r_2, Prod.snd r_2) :: ([] : List ((Int × Int) × Int × Int))) ∧
                                            μ (IntKind.wrap IntKind.i64 (x + (1 : Int)))
                                                (((Prod.fst (Prod.fst (Prod.fst x_1)), Prod.snd (Prod.fst (Prod.fst x_1))),
                                                    Prod.fst (Prod.snd (Prod.fst x_1)), Prod.snd (Prod.snd (Prod.fst x_1))),
                                                  Prod.snd x_1 ++
                                                    ((Prod.fst r, Prod.snd r), Prod.fst r_2, Prod.snd r_2) :: ([] : List ((Int × Int) × Int × Int))) <
                                              μ x x_1)
                        (Q
                          ((Prod.fst (Prod.fst (Prod.fst x_1)), Prod.snd (Prod.fst (Prod.fst x_1))),
                            (Prod.fst (Prod.snd (Prod.fst x_1)), Prod.snd (Prod.snd (Prod.fst x_1))), Prod.snd x_1))
theorem v24 (f : (Int × Int) × (Int × Int) × List ((Int × Int) × Int × Int)) (b : List Int) (Q : (Int × Int) × (Int × Int) × List ((Int × Int) × Int × Int) → Prop) : V24 f b Q = vcFunc (S1 [(52, f52_ct)] [] [] []) f24_ct.own f24_ct.fresh f24_an Try.f24 (bodyOf Try.f24) f24_ct.A f24_ct.C f24_ct.R (f, b, ()) () Q := by kernel_rfl

def V21 (a : (Int × Int) × (Int × Int) × List (Int × Int × Int × Int)) (Q : (Int × Int) × (Int × Int) × List ((Int × Int) × Int × Int) → Prop) : Prop :=
  ∃ (r : Int × Int),
    (f27_wp
        (IntKind.wrap IntKind.i64 ((300 : Int) + IntKind.wrap IntKind.i64 ((8 : Int) * IntKind.wrap IntKind.i64 (Prod.fst (Prod.fst a)))),
          IntKind.wrap IntKind.i64
            (IntKind.wrap IntKind.i64 ((300 : Int) + IntKind.wrap IntKind.i64 ((8 : Int) * IntKind.wrap IntKind.i64 (Prod.fst (Prod.fst a)))) +
              IntKind.wrap IntKind.i64 (Prod.snd (Prod.fst a))),
          ())
        () fun (r' : Int × Int) ↦ r' = r) ∧
      (20 : Int) ≠ (0 : Int) ∧
        ∃ (r_1 : Int × Int),
          (f27_wp
              (IntKind.wrap IntKind.i64 ((20 : Int) + IntKind.wrap IntKind.i64 (Prod.fst (Prod.fst (Prod.snd a)))),
                IntKind.wrap IntKind.i64
                  (IntKind.wrap IntKind.i64 ((20 : Int) + IntKind.wrap IntKind.i64 (Prod.fst (Prod.fst (Prod.snd a)))) +
                    Int.tmod (IntKind.wrap IntKind.i64 (Prod.snd (Prod.fst (Prod.snd a)))) (20 : Int)),
                ())
              () fun (r' : Int × Int) ↦ r' = r_1) ∧
            ∃ (I : Int → ((Int × Int) × Int × Int) × List ((Int × Int) × Int × Int) → Prop),
              ∃ (μ : Int → ((Int × Int) × Int × Int) × List ((Int × Int) × Int × Int) → Nat),
                I (0 : Int) (((Prod.fst r, Prod.snd r), Prod.fst r_1, Prod.snd r_1), ([] : List ((Int × Int) × Int × Int))) ∧
                  ∀ (x : Int) (x_1 : ((Int × Int) × Int × Int) × List ((Int × Int) × Int × Int)),
                    I x x_1 →
                      List.length (Prod.snd (Prod.snd a)) ≤ (9223372036854775807 : Nat) →
                        cnd (decide (x < (↑(List.length (Prod.snd (Prod.snd a))) : Int)))
                          (cnd (decide (x < (12 : Int)))
                            ((0 : Int) ≤ x ∧
                              x < (↑(List.length (Prod.snd (Prod.snd a))) : Int) ∧
                                (4 : Int) ≠ (0 : Int) ∧
                                  (30 : Int) ≠ (0 : Int) ∧
                                    ∃ (r : Int × Int),
                                      (f27_wp
                                          (IntKind.wrap IntKind.i64
                                              ((2 : Int) *
                                                IntKind.wrap IntKind.i64
                                                  (Prod.fst
                                                    (List.getD (Prod.snd (Prod.snd a)) (Int.toNat x) ((0 : Int), (0 : Int), (0 : Int), (0 : Int))))),
                                            IntKind.wrap IntKind.i64
                                              (IntKind.wrap IntKind.i64
                                                  ((2 : Int) *
                                                    IntKind.wrap IntKind.i64
                                                      (Prod.fst
                                                        (List.getD (Prod.snd (Prod.snd a)) (Int.toNat x)
                                                          ((0 : Int), (0 : Int), (0 : Int), (0 : Int))))) +
                                                Int.tmod
                                                  (IntKind.wrap IntKind.i64
                                                    (Prod.fst
                                                      (Prod.snd
                                                        (List.getD (Prod.snd (Prod.snd a)) (Int.toNat x)
                                                          ((0 : Int), (0 : Int), (0 : Int), (0 : Int))))))
                                                  (30 : Int)),
                                            ())
                                          () fun (r' : Int × Int) ↦ r' = r) ∧
                                        (6 : Int) ≠ (0 : Int) ∧
                                          ∃ (r_2 : Int × Int),
                                            (f27_wp
                                                (IntKind.wrap IntKind.i64
                                                    (Int.tdiv
                                                      (IntKind.wrap IntKind.i64
                                                        (Prod.fst
                                                          (Prod.snd
                                                            (Prod.snd
                                                              (List.getD (Prod.snd (Prod.snd a)) (Int.toNat x)
                                                                ((0 : Int), (0 : Int), (0 : Int), (0 : Int)))))))
                                                      (4 : Int)),
                                                  IntKind.wrap IntKind.i64
                                                    (IntKind.wrap IntKind.i64
                                                        (Int.tdiv
                                                          (IntKind.wrap IntKind.i64
                                                            (Prod.fst
                                                              (Prod.snd
                                                                (Prod.snd
                                                                  (List.getD (Prod.snd (Prod.snd a)) (Int.toNat x)
                                                                    ((0 : Int), (0 : Int), (0 : Int), (0 : Int)))))))
                                                          (4 : Int)) +
                                                      Int.tmod
                                                        (IntKind.wrap IntKind.i64
                                                          (Prod.snd
                                                            (Prod.snd
                                                              (Prod.snd
                                                                (List.getD (Prod.snd (Prod.snd a)) (Int.toNat x)
                                                                  ((0 : Int), (0 : Int), (0 : Int), (0 : Int)))))))
                                                        (6 : Int)),
                                                  ())
                                                () fun (r' : Int × Int) ↦ r' = r_2) ∧
                                              (List.length (Prod.snd x_1) +
                                                      List.length
                                                        (((Prod.fst r, Prod.snd r), Prod.fst r_2, Prod.snd r_2) ::
                                                          ([] : List ((Int × Int) × Int × Int)))) *
                                                    (32 : Nat) ≤
                                                  (140737488355328 : Nat) ∧
                                                I (IntKind.wrap IntKind.i64 (x + (1 : Int)))
                                                    (((Prod.fst (Prod.fst (Prod.fst x_1)), Prod.snd (Prod.fst (Prod.fst x_1))),
                                                        Prod.fst (Prod.snd (Prod.fst x_1)), Prod.snd (Prod.snd (Prod.fst x_1))),
                                                      Prod.snd x_1 ++
                                                        ((Prod.fst r, Prod.snd r), Prod.fst r_2, Prod.snd r_2) ::
                                                          ([] : List ((Int × Int) × Int × Int))) ∧
                                                  μ (IntKind.wrap IntKind.i64 (x + (1 : Int)))
                                                      (((Prod.fst (Prod.fst (Prod.fst x_1)), Prod.snd (Prod.fst (Prod.fst x_1))),
                                                          Prod.fst (Prod.snd (Prod.fst x_1)), Prod.snd (Prod.snd (Prod.fst x_1))),
                                                        Prod.snd x_1 ++
                                                          ((Prod.fst r, Prod.snd r), Prod.fst r_2, Prod.snd r_2) ::
                                                            ([] : List ((Int × Int) × Int × Int))) <
                                                    μ x x_1)
                            (Q
                              ((Prod.fst (Prod.fst (Prod.fst x_1)), Prod.snd (Prod.fst (Prod.fst x_1))),
                                (Prod.fst (Prod.snd (Prod.fst x_1)), Prod.snd (Prod.snd (Prod.fst x_1))), Prod.snd x_1)))
                          (Q
                            ((Prod.fst (Prod.fst (Prod.fst x_1)), Prod.snd (Prod.fst (Prod.fst x_1))),
                              (Prod.fst (Prod.snd (Prod.fst x_1)), Prod.snd (Prod.snd (Prod.fst x_1))), Prod.snd x_1))
theorem v21 (a : (Int × Int) × (Int × Int) × List (Int × Int × Int × Int)) (Q : (Int × Int) × (Int × Int) × List ((Int × Int) × Int × Int) → Prop) : V21 a Q = vcFunc (S1 [(27, f27_ct)] [] [] []) f21_ct.own f21_ct.fresh f21_an Try.f21 (bodyOf Try.f21) f21_ct.A f21_ct.C f21_ct.R a () Q := by kernel_rfl

end Go.Proofs.Rv
set_option linter.unusedVariables false
set_option maxRecDepth 100000
namespace Go.Proofs.Rv
open Go Go.GX Go.Proofs

theorem upTo1 {σ : Type} {n : Nat} (hn : n ≤ 9223372036854775807) (F : Nat → σ) {s0 : σ} (h0 : s0 = F 0) {P : (Int → σ → Prop) → (Int → σ → Nat) → Int → σ → Prop}
    (hb : ∀ k : Nat, k ≤ n → ∀ (I : Int → σ → Prop) (μ : Int → σ → Nat), (k < n → IntKind.wrap .i64 ((k : Int) + 1) = k + 1 ∧ I (k + 1 : Int) (F (k + 1)) ∧ μ (k + 1 : Int) (F (k + 1)) < μ k (F k)) → P I μ k (F k)) :
    ∃ (I : Int → σ → Prop) (μ : Int → σ → Nat), I 0 s0 ∧ ∀ x s, I x s → P I μ x s := by
  refine ⟨fun x s => ∃ k : Nat, k ≤ n ∧ x = k ∧ s = F k, fun x _ => (n - x).toNat, ⟨0, Nat.zero_le _, rfl, h0⟩, ?_⟩
  rintro x s ⟨k, hk, rfl, rfl⟩
  exact hb k hk _ _ fun h => ⟨wrapS (by omega) (by omega), ⟨k + 1, by omega, by push_cast; rfl, rfl⟩, by omega⟩
theorem p27 {a b : Int} {Q : Span → Prop} (h : f27_wp (a, b, ()) () Q) : V27 a b Q := h
theorem p39 {Q : Fan → Prop} (h : f39_wp () () Q) : V39 Q := h
theorem byteF_ok {b : List Int} (h : ∀ x, x ∈ b → byteB x) {i : Int} (hi : 0 ≤ i) : byteB (byteF b i) ∧ (b.length ≠ 0 → (0 : Int) ≤ Int.tmod i b.length ∧ Int.tmod i b.length < b.length) := by
  have key : b.length ≠ 0 → (0 : Int) ≤ Int.tmod i b.length ∧ Int.tmod i b.length < b.length := fun h0 => by
    have h9 : (0 : Int) < (b.length : Int) := Int.natCast_pos.2 (Nat.pos_of_ne_zero h0)
    rw [Int.tmod_eq_emod_of_nonneg hi]
    exact ⟨Int.emod_nonneg _ (Int.ne_of_gt h9), Int.emod_lt_of_pos _ h9⟩
  refine ⟨?_, key⟩
  unfold byteF
  split
  · exact ⟨by omega, by omega⟩
  · rename_i h0
    obtain ⟨k1, k2⟩ := key h0
    exact h _ (getD_mem (by omega))
theorem p29 {b : List Int} {i : Int} {Q : Int → Prop} (h : f29_wp (b, i, ()) () Q) : V29 b i Q := by
  obtain ⟨⟨hb, h1, h2⟩, h⟩ := h
  have hb : ∀ x, x ∈ b → byteB x := hb
  have h1 : 0 ≤ i := h1
  have h : Q (byteF b i) := h
  obtain ⟨r1, r2⟩ := byteF_ok hb h1
  unfold byteF at h
  intro _
  refine cnd_iff.2 ⟨fun c => ?_, fun c _ => ?_⟩
  · have c : (b.length : Int) = 0 := by simpa using c
    rw [if_pos (by omega)] at h; exact h
  · have c : ¬ b.length = 0 := by
      intro hh
      rw [hh] at c
      simp at c
    rw [if_neg c] at h
    obtain ⟨r3, r4⟩ := r2 c
    have r5 := hb _ (getD_mem (d := 0) (k := (Int.tmod i (b.length : Int)).toNat) (by omega))
    unfold byteB at r5
    rw [wrapS (by omega) (by omega)]
    exact ⟨by omega, r3, r4, h⟩
theorem insF_ok {s : Span} (hs : spanOK s) {b : Int} (hb : byteB b) : s.1 ≤ insF s b ∧ insF s b ≤ s.2 := by
  unfold spanOK at hs
  unfold byteB at hb
  unfold insF
  have h1 := Int.mul_nonneg hb.1 (show 0 ≤ s.2 - s.1 by omega)
  have h2 : b * (s.2 - s.1) ≤ 255 * (s.2 - s.1) := Int.mul_le_mul_of_nonneg_right hb.2 (by omega)
  rw [Int.tdiv_eq_ediv_of_nonneg h1]
  omega
theorem p37 {s : Span} {b : Int} {Q : Int → Prop} (h : f37_wp (s, b, ()) () Q) : V37 s b Q := by
  obtain ⟨⟨hs, hb⟩, h⟩ := h
  have hs : spanOK s := hs
  have hb : byteB b := hb
  have hi := insF_ok hs hb
  have h : Q (insF s b) := h
  unfold insF at h hi
  unfold spanOK at hs
  unfold byteB at hb
  have h1 := mulB hb.1 hb.2 (show 0 ≤ s.2 - s.1 by omega) (show s.2 - s.1 ≤ 1000000 by omega)
  refine ⟨by omega, ?_⟩
  rw [wrapS (x := s.2 - s.1) (by omega) (by omega), wrapS (x := b * (s.2 - s.1)) (by omega) (by omega), wrapS (x := Int.tdiv (b * (s.2 - s.1)) 255) (by omega) (by omega), wrapS (by omega) (by omega)]
  exact h
theorem p52 {s : Span} {i : Int} {b : List Int} {Q : Span → Prop} (h : f52_wp (s, i, ()) (b, ()) Q) : V52 s i b Q := by
  obtain ⟨⟨hs, hb, h1, h2⟩, h⟩ := h
  have h1 : 0 ≤ i := h1
  have h2 : i ≤ 1000 := h2
  exact ⟨_, ⟨⟨hb, h1, by show i ≤ 1000000; omega⟩, rfl⟩, _, ⟨⟨hs, (byteF_ok hb h1).1⟩, rfl⟩, h⟩
theorem CheckOK.sp {f : Fan} (h : CheckOK f) : spanOK f.1 ∧ spanOK f.2.1 ∧ ∀ g, g ∈ f.2.2 → spanOK g.1 ∧ spanOK g.2 := by
  have h1 := h.far
  have h2 := h.near
  refine ⟨by unfold spanOK; omega, by unfold spanOK; omega, fun g hg => ?_⟩
  have := h.g g hg
  unfold spanOK; omega
theorem p24 {f : Fan} {b : List Int} {Q : Fan → Prop} (h : f24_wp (f, b, ()) () Q) : V24 f b Q := by
  obtain ⟨⟨hf, hb⟩, h⟩ := h
  have hf : CheckOK f := hf
  have hb : ∀ x, x ∈ b → byteB x := hb
  have hn := hf.n
  obtain ⟨s1, s2, s3⟩ := hf.sp
  refine ⟨_, ⟨⟨s1, hb, by show (0 : Int) ≤ 0; omega, by show (0 : Int) ≤ 1000; omega⟩, rfl⟩, _, ⟨⟨s2, hb, by show (0 : Int) ≤ 1; omega, by show (1 : Int) ≤ 1000; omega⟩, rfl⟩, ?_⟩
  refine forUpL (fun k => (((ptF b f.1 0, ptF b f.2.1 1), (List.range k).map fun (i : Nat) => (ptF b (f.2.2.getD i g0).1 (2 * i + 2), ptF b (f.2.2.getD i g0).2 (2 * i + 3))) : (Span × Span) × List Gap)) rfl (fun k hk I μ hI hw => ?_) h
  have w1 : IntKind.wrap .i64 (IntKind.wrap .i64 (2 * (k : Int)) + 2) = 2 * k + 2 := by rw [wrapS (x := 2 * (k : Int)) (by omega) (by omega), wrapS (by omega) (by omega)]
  have w2 : IntKind.wrap .i64 (IntKind.wrap .i64 (2 * (k : Int)) + 3) = 2 * k + 3 := by rw [wrapS (x := 2 * (k : Int)) (by omega) (by omega), wrapS (by omega) (by omega)]
  have s4 := s3 _ (getD_mem (d := g0) hk)
  rw [List.range_succ, List.map_append] at hI
  rw [w1, w2, hw]
  refine ⟨by omega, by omega, _, ⟨⟨s4.1, hb, by show (0 : Int) ≤ 2 * k + 2; omega, by show 2 * (k : Int) + 2 ≤ 1000; omega⟩, rfl⟩, by omega, by omega, _, ⟨⟨s4.2, hb, by show (0 : Int) ≤ 2 * k + 3; omega, by show 2 * (k : Int) + 3 ≤ 1000; omega⟩, rfl⟩, ?_, hI⟩
  simp only [List.length_map, List.length_range, List.length_cons, List.length_nil]
  omega
theorem p21 {a : Folded} {Q : Fan → Prop} (h : f21_wp a () Q) : V21 a Q := by
  obtain ⟨⟨hf, hn, hg⟩, h⟩ := h
  have h : Q (foldF a) := h
  unfold byteB at hf hn
  have b0 : ∀ x, byteB x → IntKind.wrap .i64 x = x := fun x hx => by unfold byteB at hx; exact wrapS (by omega) (by omega)
  have t1 := Int.emod_nonneg a.2.1.2 (show (20 : Int) ≠ 0 by omega)
  have t2 := Int.emod_lt_of_pos a.2.1.2 (show (0 : Int) < 20 by omega)
  rw [V21, b0 _ hf.1, b0 _ hf.2, b0 _ hn.1, b0 _ hn.2]
  rw [wrapS (x := 8 * a.1.1) (by omega) (by omega), wrapS (x := 300 + 8 * a.1.1) (by omega) (by omega), wrapS (x := 300 + 8 * a.1.1 + a.1.2) (by omega) (by omega), wrapS (x := 20 + a.2.1.1) (by omega) (by omega),
    wrapS (x := 20 + a.2.1.1 + Int.tmod a.2.1.2 20) (by rw [Int.tmod_eq_emod_of_nonneg (by omega)]; omega) (by rw [Int.tmod_eq_emod_of_nonneg (by omega)]; omega)]
  refine ⟨_, rfl, by omega, _, rfl, ?_⟩
  refine upTo1 (n := min 12 a.2.2.length) (by omega) (fun k => ((((300 + 8 * a.1.1, 300 + 8 * a.1.1 + a.1.2), (20 + a.2.1.1, 20 + a.2.1.1 + Int.tmod a.2.1.2 20)), (a.2.2.take k).map foldG) : (Span × Span) × List Gap)) rfl (fun k hk I μ hI => ?_)
  intro hl
  have fin : k = 12 ∨ k = a.2.2.length → Q (((300 + 8 * a.1.1, 300 + 8 * a.1.1 + a.1.2), (20 + a.2.1.1, 20 + a.2.1.1 + Int.tmod a.2.1.2 20), (a.2.2.take k).map foldG)) := fun hk2 => by
    have e : a.2.2.take k = a.2.2.take 12 := by
      rcases hk2 with rfl | rfl
      · rfl
      · rw [List.take_of_length_le (Nat.le_refl _), List.take_of_length_le (by omega)]
    rw [e]; exact h
  refine cnd_iff.2 ⟨fun c => cnd_iff.2 ⟨fun c2 => ?_, fun c2 => ?_⟩, fun c => ?_⟩
  · have c : (k : Int) < a.2.2.length := of_decide_eq_true c
    have c2 : (k : Int) < 12 := of_decide_eq_true c2
    have hk' : k < a.2.2.length := by omega
    obtain ⟨hw, hI⟩ := hI (by omega)
    rw [take_succ_getD (d := ((0, 0, 0, 0) : Int × Int × Int × Int)) hk', List.map_append] at hI
    have hr := hg _ (getD_mem (d := ((0, 0, 0, 0) : Int × Int × Int × Int)) hk')
    obtain ⟨r, hrd⟩ : ∃ r, r = a.2.2.getD k ((0, 0, 0, 0) : Int × Int × Int × Int) := ⟨_, rfl⟩
    rw [← hrd] at hI hr
    obtain ⟨q1, q2, q3, q4⟩ := hr
    have u1 := b0 _ q1
    have u2 := b0 _ q2
    have u3 := b0 _ q3
    have u4 := b0 _ q4
    unfold byteB at q1 q2 q3 q4
    have v1 := Int.emod_nonneg r.2.1 (show (30 : Int) ≠ 0 by omega)
    have v2 := Int.emod_lt_of_pos r.2.1 (show (0 : Int) < 30 by omega)
    have v3 := Int.emod_nonneg r.2.2.2 (show (6 : Int) ≠ 0 by omega)
    have v4 := Int.emod_lt_of_pos r.2.2.2 (show (0 : Int) < 6 by omega)
    rw [show Int.toNat (k : Int) = k from rfl, ← hrd, u1, u2, u3, u4, hw]
    have y1 : Int.tmod r.2.1 30 = r.2.1 % 30 := Int.tmod_eq_emod_of_nonneg q2.1
    have y2 : Int.tmod r.2.2.2 6 = r.2.2.2 % 6 := Int.tmod_eq_emod_of_nonneg q4.1
    have y3 : Int.tdiv r.2.2.1 4 = r.2.2.1 / 4 := Int.tdiv_eq_ediv_of_nonneg q3.1
    rw [wrapS (x := 2 * r.1) (by omega) (by omega), wrapS (x := 2 * r.1 + Int.tmod r.2.1 30) (by omega) (by omega), wrapS (x := Int.tdiv r.2.2.1 4) (by omega) (by omega), wrapS (x := Int.tdiv r.2.2.1 4 + Int.tmod r.2.2.2 6) (by omega) (by omega)]
    refine ⟨by omega, by omega, by omega, by omega, _, rfl, by omega, _, rfl, ?_, hI⟩
    simp only [List.length_map, List.length_take, List.length_cons, List.length_nil]
    omega
  · have c2 : ¬ (k : Int) < 12 := of_decide_eq_false c2
    exact fin (.inl (by omega))
  · have c : ¬ (k : Int) < a.2.2.length := of_decide_eq_false c
    exact fin (.inr (by omega))
end Go.Proofs.Rv
set_option linter.unusedVariables false
set_option maxRecDepth 100000
namespace Go.Proofs.Rv
open Go Go.GX Go.Proofs

def V10 (Q : Bool → Prop) : Prop :=
  f39_wp () () fun (r : (Int × Int) × (Int × Int) × List ((Int × Int) × Int × Int)) ↦
    f28_wp ((Prod.fst (Prod.fst r), Prod.snd (Prod.fst r)), (Prod.fst (Prod.fst (Prod.snd r)), Prod.snd (Prod.fst (Prod.snd r))), Prod.snd (Prod.snd r))
      () fun (r : (Int × Int) × Int × Unit) ↦
      f39_wp () () fun (r_1 : (Int × Int) × (Int × Int) × List ((Int × Int) × Int × Int)) ↦
        f12_wp
          ((Prod.fst (Prod.fst r_1), Prod.snd (Prod.fst r_1)), (Prod.fst (Prod.fst (Prod.snd r_1)), Prod.snd (Prod.fst (Prod.snd r_1))),
            Prod.snd (Prod.snd r_1))
          () fun (r_2 : List Int × Int × Unit) ↦
          f39_wp () () fun (r_3 : (Int × Int) × (Int × Int) × List ((Int × Int) × Int × Int)) ↦
            f32_wp
              (((Prod.fst (Prod.fst r_3), Prod.snd (Prod.fst r_3)), (Prod.fst (Prod.fst (Prod.snd r_3)), Prod.snd (Prod.fst (Prod.snd r_3))),
                  Prod.snd (Prod.snd r_3)),
                (100 : Int), ())
              () fun (r_4 : Int × Int × Int × Unit) ↦
              f39_wp () () fun (r_5 : (Int × Int) × (Int × Int) × List ((Int × Int) × Int × Int)) ↦
                f27_wp ((10 : Int), (14 : Int), ()) () fun (r_6 : Int × Int) ↦
                  f25_wp
                    (((Prod.fst (Prod.fst r_5), Prod.snd (Prod.fst r_5)), (Prod.fst (Prod.fst (Prod.snd r_5)), Prod.snd (Prod.fst (Prod.snd r_5))),
                        Prod.snd (Prod.snd r_5)),
                      (Prod.fst r_6, Prod.snd r_6), ())
                    () fun (r_7 : List Int × Int × Unit) ↦
                    f39_wp () () fun (r_8 : (Int × Int) × (Int × Int) × List ((Int × Int) × Int × Int)) ↦
                      f30_wp
                        (((Prod.fst (Prod.fst r_8), Prod.snd (Prod.fst r_8)), (Prod.fst (Prod.fst (Prod.snd r_8)), Prod.snd (Prod.fst (Prod.snd r_8))),
                            Prod.snd (Prod.snd r_8)),
                          (45 : Int), ())
                        () fun (r_9 : Int × Int × Unit) ↦
                        f39_wp () () fun (r_10 : (Int × Int) × (Int × Int) × List ((Int × Int) × Int × Int)) ↦
                          f31_wp
                            (((Prod.fst (Prod.fst r_10), Prod.snd (Prod.fst r_10)),
                                (Prod.fst (Prod.fst (Prod.snd r_10)), Prod.snd (Prod.fst (Prod.snd r_10))), Prod.snd (Prod.snd r_10)),
                              (18 : Int), ())
                            () fun (r_11 : Int × Int × Unit) ↦
                            f27_wp ((100 : Int), (120 : Int), ()) () fun (r_12 : Int × Int) ↦
                              f27_wp ((1 : Int), (1 : Int), ()) () fun (r_13 : Int × Int) ↦
                                f27_wp ((30 : Int), (40 : Int), ()) () fun (r_14 : Int × Int) ↦
                                  f27_wp ((1 : Int), (1 : Int), ()) () fun (r_15 : Int × Int) ↦
                                    f17_wp
                                      (((Prod.fst r_12, Prod.snd r_12), (Prod.fst r_13, Prod.snd r_13), (50 : Int)) ::
                                        ((Prod.fst r_14, Prod.snd r_14), (Prod.fst r_15, Prod.snd r_15), (200 : Int)) ::
                                          ([] : List ((Int × Int) × (Int × Int) × Int)))
                                      () fun (r_16 : (Int × Int) × (Int × Int) × Int × Unit) ↦
                                      cnd (Prod.fst (Prod.snd r) != (0 : Int)) (Q false)
                                        (cnd (Prod.fst (Prod.snd r_2) != (0 : Int)) (Q false)
                                          (cnd (Prod.fst (Prod.snd (Prod.snd r_4)) != (0 : Int)) (Q false)
                                            (cnd (Prod.fst (Prod.snd r_7) != (0 : Int)) (Q false)
                                              (cnd (Prod.fst (Prod.snd r_9) != (0 : Int)) (Q false)
                                                (cnd (Prod.fst (Prod.snd r_11) != (0 : Int)) (Q false)
                                                  (cnd (Prod.fst (Prod.snd (Prod.snd r_16)) != (0 : Int)) (Q false)
                                                    (∃ (r_17 : Int × Int),
                                                      (f27_wp ((16 : Int), (19 : Int), ()) () fun (r' : Int × Int) ↦ r' = r_17) ∧
                                                        cnd (Prod.fst (Prod.fst r) == Prod.fst r_17 && (Prod.snd (Prod.fst r) == Prod.snd r_17 && true))
                                                          (∃ (r : Bool),
                                                            (f40_wp (Prod.fst r_2, (1 : Int) :: (3 : Int) :: ([] : List Int), ()) () fun (r' : Bool) ↦
                                                                r' = r) ∧
                                                              cnd r
                                                                (cnd (Prod.fst r_4 == (0 : Int))
                                                                  (cnd (Prod.fst (Prod.snd r_4) == (18 : Int))
                                                                    (∃ (r : Bool),
                                                                      (f40_wp (Prod.fst r_7, (0 : Int) :: ([] : List Int), ()) () fun (r' : Bool) ↦
                                                                          r' = r) ∧
                                                                        cnd r
                                                                          (cnd (Prod.fst r_9 == (5 : Int))
                                                                            (cnd (Prod.fst r_11 == (235 : Int))
                                                                              (cnd
                                                                                (Prod.fst (Prod.fst r_16) == (80 : Int) &&
                                                                                  (Prod.snd (Prod.fst r_16) == (1 : Int) && true))
                                                                                (Q
                                                                                  (Prod.fst (Prod.fst (Prod.snd r_16)) == (650 : Int) &&
                                                                                    (Prod.snd (Prod.fst (Prod.snd r_16)) == (7 : Int) && true)))
                                                                                (Q false))
                                                                              (Q false))
                                                                            (Q false))
                                                                          (Q false))
                                                                    (Q false))
                                                                  (Q false))
                                                                (Q false))
                                                          (Q false))))))))
theorem v10 (Q : Bool → Prop) : V10 Q = vcFunc (S1 [(39, f39_ct), (28, f28_ct), (12, f12_ct), (32, f32_ct), (27, f27_ct), (25, f25_ct), (30, f30_ct), (31, f31_ct), (17, f17_ct), (40, f40_ct), (41, f41_ct)] [] [] []) f10_ct.own f10_ct.fresh no_an Try.f10 (bodyOf Try.f10) f10_ct.A f10_ct.C f10_ct.R () () Q := by kernel_rfl

def V3 (f : (Int × Int) × (Int × Int) × List ((Int × Int) × Int × Int)) (Q : Bool → Prop) : Prop :=
  List.length (Prod.snd (Prod.snd f)) ≤ (9223372036854775807 : Nat) →
    cnd (decide ((↑(List.length (Prod.snd (Prod.snd f))) : Int) > (50 : Int))) (f10_wp () () fun (r : Bool) ↦ Q r)
      (f11_wp
        ((Prod.fst (Prod.fst f), Prod.snd (Prod.fst f)), (Prod.fst (Prod.fst (Prod.snd f)), Prod.snd (Prod.fst (Prod.snd f))), Prod.snd (Prod.snd f)) ()
        fun (r : (Int × Int) × (Int × Int) × List ((Int × Int) × Int × Int)) ↦
        f12_wp
          ((Prod.fst (Prod.fst r), Prod.snd (Prod.fst r)), (Prod.fst (Prod.fst (Prod.snd r)), Prod.snd (Prod.fst (Prod.snd r))), Prod.snd (Prod.snd r))
          () fun (r_1 : List Int × Int × Unit) ↦
          f13_wp
            (((Prod.fst (Prod.fst r), Prod.snd (Prod.fst r)), (Prod.fst (Prod.fst (Prod.snd r)), Prod.snd (Prod.fst (Prod.snd r))),
                Prod.snd (Prod.snd r)),
              ((Prod.fst (Prod.fst f), Prod.snd (Prod.fst f)), (Prod.fst (Prod.fst (Prod.snd f)), Prod.snd (Prod.fst (Prod.snd f))),
                Prod.snd (Prod.snd f)),
              ())
            () fun (r : Bool) ↦
            cnd (!r) (Q false)
              (f14_wp
                ((Prod.fst (Prod.fst f), Prod.snd (Prod.fst f)), (Prod.fst (Prod.fst (Prod.snd f)), Prod.snd (Prod.fst (Prod.snd f))),
                  Prod.snd (Prod.snd f))
                () fun (r : Int) ↦
                cnd (r != (0 : Int))
                  (cnd (Prod.fst (Prod.snd r_1) == r)
                    (List.length (Prod.fst r_1) ≤ (9223372036854775807 : Nat) →
                      cnd ((↑(List.length (Prod.fst r_1)) : Int) == (0 : Int)) (f10_wp () () fun (r : Bool) ↦ Q r) (Q false))
                    (Q false))
                  (cnd (Prod.fst (Prod.snd r_1) != (0 : Int)) (Q false)
                    (List.length (Prod.fst r_1) ≤ (9223372036854775807 : Nat) →
                      List.length (Prod.snd (Prod.snd f)) ≤ (9223372036854775807 : Nat) →
                        cnd ((↑(List.length (Prod.fst r_1)) : Int) != (↑(List.length (Prod.snd (Prod.snd f))) : Int)) (Q false)
                          (∃ (I : Int → Prop),
                            ∃ (μ : Int → Nat),
                              I (0 : Int) ∧
                                ∀ (x : Int),
                                  I x →
                                    List.length (Prod.fst r_1) ≤ (9223372036854775807 : Nat) →
                                      cnd (decide (x < (↑(List.length (Prod.fst r_1)) : Int)))
                                        ((0 : Int) ≤ x ∧
                                          x < (↑(List.length (Prod.fst r_1)) : Int) ∧
                                            (0 : Int) ≤ x ∧
                                              x < (↑(List.length (Prod.snd (Prod.snd f))) : Int) ∧
                                                ∃ (r : Int),
                                                  (f15_wp
                                                      (((Prod.fst (Prod.fst f), Prod.snd (Prod.fst f)),
                                                          (Prod.fst (Prod.fst (Prod.snd f)), Prod.snd (Prod.fst (Prod.snd f))), Prod.snd (Prod.snd f)),
                                                        ((Prod.fst
                                                              (Prod.fst
                                                                (List.getD (Prod.snd (Prod.snd f)) (Int.toNat x)
                                                                  (((0 : Int), (0 : Int)), (0 : Int), (0 : Int)))),
                                                            Prod.snd
                                                              (Prod.fst
                                                                (List.getD (Prod.snd (Prod.snd f)) (Int.toNat x)
                                                                  (((0 : Int), (0 : Int)), (0 : Int), (0 : Int))))),
                                                          Prod.fst
                                                            (Prod.snd
                                                              (List.getD (Prod.snd (Prod.snd f)) (Int.toNat x)
                                                                (((0 : Int), (0 : Int)), (0 : Int), (0 : Int)))),
                                                          Prod.snd
                                                            (Prod.snd
                                                              (List.getD (Prod.snd (Prod.snd f)) (Int.toNat x)
                                                                (((0 : Int), (0 : Int)), (0 : Int), (0 : Int))))),
                                                        ())
                                                      () fun (r' : Int) ↦ r' = r) ∧
                                                    cnd (List.getD (Prod.fst r_1) (Int.toNat x) (0 : Int) != r) (Q false)
                                                      (I (IntKind.wrap IntKind.i64 (x + (1 : Int))) ∧
                                                        μ (IntKind.wrap IntKind.i64 (x + (1 : Int))) < μ x))
                                        (f10_wp () () fun (r : Bool) ↦ Q r))))))
theorem v3 (f : (Int × Int) × (Int × Int) × List ((Int × Int) × Int × Int)) (Q : Bool → Prop) : V3 f Q = vcFunc (S1 [(10, f10_ct), (11, f11_ct), (12, f12_ct), (13, f13_ct), (14, f14_ct), (15, f15_ct)] [] [] []) f3_ct.own f3_ct.fresh f3_an Try.f3 (bodyOf Try.f3) f3_ct.A f3_ct.C f3_ct.R f () Q := by kernel_rfl

def V4 (l : List ((Int × Int) × (Int × Int) × Int)) (Q : Bool → Prop) : Prop :=
  List.length l ≤ (9223372036854775807 : Nat) →
    cnd (decide ((↑(List.length l) : Int) > (20 : Int))) (f10_wp () () fun (r : Bool) ↦ Q r)
      (f16_wp l () fun (r : List ((Int × Int) × (Int × Int) × Int)) ↦
        f17_wp r () fun (r_1 : (Int × Int) × (Int × Int) × Int × Unit) ↦
          f18_wp (r, l, ()) () fun (r : Bool) ↦
            cnd (!r) (Q false)
              (f19_wp l () fun (r : Int) ↦
                ∃ (I : Bool → Prop),
                  cnd (r == (0 : Int)) (List.length l ≤ (9223372036854775807 : Nat) → I ((↑(List.length l) : Int) == (0 : Int))) (I false) ∧
                    ∀ (x : Bool),
                      I x →
                        ∃ (I : Int → Prop),
                          cnd x (I (7 : Int)) (I r) ∧
                            ∀ (x : Int),
                              I x →
                                cnd (x != (0 : Int))
                                  (cnd (Prod.fst (Prod.snd (Prod.snd r_1)) == x)
                                    (cnd (Prod.fst (Prod.fst r_1) == (0 : Int) && (Prod.snd (Prod.fst r_1) == (0 : Int) && true))
                                      (cnd
                                        (Prod.fst (Prod.fst (Prod.snd r_1)) == (0 : Int) && (Prod.snd (Prod.fst (Prod.snd r_1)) == (0 : Int) && true))
                                        (f10_wp () () fun (r : Bool) ↦ Q r) (Q false))
                                      (Q false))
                                    (Q false))
                                  (f20_wp l () fun (r : (Int × Int) × (Int × Int) × Unit) ↦
                                    cnd (Prod.fst (Prod.snd (Prod.snd r_1)) == (0 : Int))
                                      (cnd
                                        (Prod.fst (Prod.fst r_1) == Prod.fst (Prod.fst r) && (Prod.snd (Prod.fst r_1) == Prod.snd (Prod.fst r) && true))
                                        (cnd
                                          (Prod.fst (Prod.fst (Prod.snd r_1)) == Prod.fst (Prod.fst (Prod.snd r)) &&
                                            (Prod.snd (Prod.fst (Prod.snd r_1)) == Prod.snd (Prod.fst (Prod.snd r)) && true))
                                          (f10_wp () () fun (r : Bool) ↦ Q r) (Q false))
                                        (Q false))
                                      (Q false))))
theorem v4 (l : List ((Int × Int) × (Int × Int) × Int)) (Q : Bool → Prop) : V4 l Q = vcFunc (S1 [(10, f10_ct), (16, f16_ct), (17, f17_ct), (18, f18_ct), (19, f19_ct), (20, f20_ct)] [] [] []) f4_ct.own f4_ct.fresh f4_an Try.f4 (bodyOf Try.f4) f4_ct.A f4_ct.C f4_ct.R l () Q := by kernel_rfl

end Go.Proofs.Rv
set_option linter.unusedVariables false
set_option maxRecDepth 100000
namespace Go.Proofs.Rv
open Go Go.GX Go.Proofs

theorem w28 {K : Span × Int × Unit → Prop} (h : K ((16, 19), 0, ())) : f28_wp fan0 () K := by
  have e : (if checkF fan0 = 0 then (opensF fan0, 0, ()) else ((0, 0), checkF fan0, ()) : Span × Int × Unit) = ((16, 19), 0, ()) := by decide +kernel
  show K _
  rw [e]; exact h
theorem w12 {K : List Int × Int × Unit → Prop} (h : K ([1, 3], 0, ())) : f12_wp fan0 () K := by
  have e : (if checkF fan0 = 0 then (fan0.2.2.map (stopF fan0.1 fan0.2.1), 0, ()) else ([], checkF fan0, ()) : List Int × Int × Unit) = ([1, 3], 0, ()) := by decide +kernel
  show K _
  rw [e]; exact h
theorem w32 {K : Int × Int × Int × Unit → Prop} (h : K (0, 18, 0, ())) : f32_wp (fan0, 100, ()) () K := by
  have e : widenF fan0 100 = (0, 18, 0, ()) := by decide +kernel
  show K (widenF fan0 100)
  rw [e]; exact h
theorem w25 {K : List Int × Int × Unit → Prop} (h : K ([0], 0, ())) : f25_wp (fan0, (10, 14), ()) () K := by
  have e : wrongF fan0 (10, 14) = ([0], 0, ()) := by decide +kernel
  refine ⟨fun _ _ _ _ => by show 2 ≤ 12; omega, ?_⟩
  show K (wrongF fan0 (10, 14))
  rw [e]; exact h
theorem w30 {K : Int × Int × Unit → Prop} (h : K (5, 0, ())) : f30_wp (fan0, 45, ()) () K := by
  have e : sticksF fan0 45 = (5, 0, ()) := by decide +kernel
  show K (sticksF fan0 45)
  rw [e]; exact h
theorem w31 {K : Int × Int × Unit → Prop} (h : K (235, 0, ())) : f31_wp (fan0, 18, ()) () K := by
  have e : pleatF fan0 18 = (235, 0, ()) := by decide +kernel
  show K (pleatF fan0 18)
  rw [e]; exact h
theorem w17 {K : Ratio × Ratio × Int × Unit → Prop} (h : K ((80, 1), (650, 7), 0, ())) : f17_wp [((100, 120), (1, 1), 50), ((30, 40), (1, 1), 200)] () K := by
  have e : balanceF [((100, 120), (1, 1), 50), ((30, 40), (1, 1), 200)] = ((80, 1), (650, 7), 0, ()) := by decide +kernel
  show K (balanceF _)
  rw [e]; exact h
theorem p10 {Q : Bool → Prop} (h : f10_wp () () Q) : V10 Q := by
  unfold V10 f39_wp f27_wp
  refine w28 ?_
  refine w12 ?_
  refine w32 ?_
  refine w25 ?_
  refine w30 ?_
  refine w31 ?_
  refine w17 ?_
  refine cndF (cndF (cndF (cndF (cndF (cndF (cndF ⟨_, rfl, cndT ⟨_, rfl, cndT (cndT (cndT ⟨_, rfl, cndT (cndT (cndT (cndT h)))⟩))⟩⟩))))))
theorem cnd_of {c : Bool} {p q : Prop} (hc : c = true) (h : p) : cnd c p q := by rw [hc]; exact h
theorem cnd_not {c : Bool} {p q : Prop} (hc : c = false) (h : q) : cnd c p q := by rw [hc]; exact h
theorem p3 {f : Fan} {Q : Bool → Prop} (h : f3_wp f () Q) : V3 f Q := by
  have h : Q true := h
  intro hl
  refine cnd_iff.2 ⟨fun c => h, fun c => ?_⟩
  have c : ¬ (f.2.2.length : Int) > 50 := of_decide_eq_false c
  refine ⟨by show f.2.2.length ≤ 1000000; omega, ?_⟩
  show cnd (!decide (f = f)) (Q false) (cnd (checkF f != 0) _ _)
  refine cnd_not (by simp) ?_
  refine cnd_iff.2 ⟨fun d => ?_, fun d => ?_⟩
  · have d := bne0.1.1 d
    have e : (if checkF f = 0 then (f.2.2.map (stopF f.1 f.2.1), 0, ()) else ([], checkF f, ()) : List Int × Int × Unit) = ([], checkF f, ()) := if_neg d
    show cnd ((if checkF f = 0 then (f.2.2.map (stopF f.1 f.2.1), 0, ()) else ([], checkF f, ()) : List Int × Int × Unit).2.1 == checkF f) ((if checkF f = 0 then (f.2.2.map (stopF f.1 f.2.1), 0, ()) else ([], checkF f, ()) : List Int × Int × Unit).1.length ≤ _ → cnd (((if checkF f = 0 then (f.2.2.map (stopF f.1 f.2.1), 0, ()) else ([], checkF f, ()) : List Int × Int × Unit).1.length : Int) == 0) _ _) _
    rw [e]
    exact cnd_of (by simp) fun _ => cnd_of rfl h
  · have d := bne0.2.1 d
    have ho := checkF_ok.1 d
    have e : (if checkF f = 0 then (f.2.2.map (stopF f.1 f.2.1), 0, ()) else ([], checkF f, ()) : List Int × Int × Unit) = (f.2.2.map (stopF f.1 f.2.1), 0, ()) := if_pos d
    have key : ∀ z : List Int × Int × Unit, z = (f.2.2.map (stopF f.1 f.2.1), 0, ()) → cnd (z.2.1 != 0) (Q false) (z.1.length ≤ 9223372036854775807 → f.2.2.length ≤ 9223372036854775807 → cnd ((z.1.length : Int) != (f.2.2.length : Int)) (Q false) (∃ (I : Int → Prop) (μ : Int → Nat), I 0 ∧ ∀ x, I x → z.1.length ≤ 9223372036854775807 → cnd (decide (x < (z.1.length : Int))) (0 ≤ x ∧ x < (z.1.length : Int) ∧ 0 ≤ x ∧ x < (f.2.2.length : Int) ∧ ∃ r : Int, (f15_wp (f, f.2.2.getD x.toNat g0, ()) () fun r' => r' = r) ∧ cnd (z.1.getD x.toNat 0 != r) (Q false) (I (IntKind.wrap .i64 (x + 1)) ∧ μ (IntKind.wrap .i64 (x + 1)) < μ x)) (f10_wp () () fun r => Q r))) := by
      rintro z rfl
      refine cndF fun _ _ => ?_
      have hlen : (f.2.2.map (stopF f.1 f.2.1)).length = f.2.2.length := by simp
      refine cnd_not (by simp) ?_
      refine forUpGL (n := (f.2.2.map (stopF f.1 f.2.1)).length) (fun _ => True) trivial (body := fun I μ x => 0 ≤ x ∧ x < ((f.2.2.map (stopF f.1 f.2.1)).length : Int) ∧ 0 ≤ x ∧ x < (f.2.2.length : Int) ∧ ∃ r : Int, (f15_wp (f, f.2.2.getD x.toNat g0, ()) () fun r' => r' = r) ∧ cnd ((f.2.2.map (stopF f.1 f.2.1)).getD x.toNat 0 != r) (Q false) (I (IntKind.wrap .i64 (x + 1)) ∧ μ (IntKind.wrap .i64 (x + 1)) < μ x)) (e := fun _ => f10_wp () () fun r => Q r) (fun k hk _ _ I μ hI hw => ?_) (fun _ => h)
      have hk' : k < f.2.2.length := by omega
      have hg : gapOK (f.2.2.getD k g0) = true := by
        have := ho.g _ (getD_mem (d := g0) hk')
        unfold gapOK
        rw [Bool.and_eq_true, isSpan_iff, isSpan_iff]; omega
      refine ⟨by omega, by omega, by omega, by omega, _, ⟨⟨ho, hg⟩, rfl⟩, ?_⟩
      rw [hw]
      refine cnd_not ?_ (hI trivial)
      show ((f.2.2.map (stopF f.1 f.2.1)).getD k 0 != stopF f.1 f.2.1 (f.2.2.getD k g0)) = false
      rw [getD_lt hk, getD_lt hk']
      simp
    exact key _ e
end Go.Proofs.Rv
set_option maxRecDepth 100000
namespace Go.Proofs.Rv
open Go Go.GX Go.Proofs
variable [Inhabited BaseD]
theorem ok27 : CallsOK Try.prog (assoc glT) 27 f27_ct :=
  callsOK_E (env (ct := []) (ios := []) (hos := []) (lits := []) AllOK.nil AllW.nil AllH.nil) no_an Try.func27 (by kernel_rfl) (by kernel_rfl) f27_ct fun ⟨a, b, _⟩ _ Q h => (v27 a b Q).mp (p27 h)
theorem ok39 : CallsOK Try.prog (assoc glT) 39 f39_ct :=
  callsOK_E (env (ct := [(27, f27_ct)]) (ios := []) (hos := []) (lits := [108]) (AllOK.cons ok27 AllOK.nil) AllW.nil AllH.nil) no_an Try.func39 (by kernel_rfl) (by kernel_rfl) f39_ct fun () _ Q h => (v39  Q).mp (p39 h)
theorem ok29 : CallsOK Try.prog (assoc glT) 29 f29_ct :=
  callsOK_E (env (ct := []) (ios := []) (hos := []) (lits := []) AllOK.nil AllW.nil AllH.nil) no_an Try.func29 (by kernel_rfl) (by kernel_rfl) f29_ct fun ⟨b, i, _⟩ _ Q h => (v29 b i Q).mp (p29 h)
theorem ok37 : CallsOK Try.prog (assoc glT) 37 f37_ct :=
  callsOK_E (env (ct := []) (ios := []) (hos := []) (lits := []) AllOK.nil AllW.nil AllH.nil) no_an Try.func37 (by kernel_rfl) (by kernel_rfl) f37_ct fun ⟨s, b, _⟩ _ Q h => (v37 s b Q).mp (p37 h)
theorem ok52 : CallsOK Try.prog (assoc glT) 52 f52_ct :=
  callsOK_E (env (ct := [(29, f29_ct), (37, f37_ct), (27, f27_ct)]) (ios := []) (hos := []) (lits := []) (AllOK.cons ok29 (AllOK.cons ok37 (AllOK.cons ok27 AllOK.nil))) AllW.nil AllH.nil) no_an Try.func52 (by kernel_rfl) (by kernel_rfl) f52_ct fun ⟨s, i, _⟩ ⟨b, _⟩ Q h => (v52 s i b Q).mp (p52 h)
theorem ok24 : CallsOK Try.prog (assoc glT) 24 f24_ct :=
  callsOK_E (env (ct := [(52, f52_ct)]) (ios := []) (hos := []) (lits := []) (AllOK.cons ok52 AllOK.nil) AllW.nil AllH.nil) f24_an Try.func24 (by kernel_rfl) (by kernel_rfl) f24_ct fun ⟨f, b, _⟩ _ Q h => (v24 f b Q).mp (p24 h)
theorem ok21 : CallsOK Try.prog (assoc glT) 21 f21_ct :=
  callsOK_E (env (ct := [(27, f27_ct)]) (ios := []) (hos := []) (lits := []) (AllOK.cons ok27 AllOK.nil) AllW.nil AllH.nil) f21_an Try.func21 (by kernel_rfl) (by kernel_rfl) f21_ct fun a _ Q h => (v21 a Q).mp (p21 h)
set_option maxHeartbeats 2000000 in
theorem ok10 : CallsOK Try.prog (assoc glT) 10 f10_ct :=
  callsOK_E (env (ct := [(39, f39_ct), (28, f28_ct), (12, f12_ct), (32, f32_ct), (27, f27_ct), (25, f25_ct), (30, f30_ct), (31, f31_ct), (17, f17_ct), (40, f40_ct), (41, f41_ct)]) (ios := []) (hos := []) (lits := []) (AllOK.cons ok39 (AllOK.cons ok28 (AllOK.cons ok12 (AllOK.cons ok32 (AllOK.cons ok27 (AllOK.cons ok25 (AllOK.cons ok30 (AllOK.cons ok31 (AllOK.cons ok17 (AllOK.cons ok40 (AllOK.cons ok41 AllOK.nil))))))))))) AllW.nil AllH.nil) no_an Try.func10 (by kernel_rfl) (by kernel_rfl) f10_ct fun () () Q h => (v10 Q).mp (p10 (Q := Q) h)
end Go.Proofs.Rv
set_option linter.unusedVariables false
set_option maxRecDepth 100000
namespace Go.Proofs.Rv
open Go Go.GX Go.Proofs

def leR (a b : Ratio) : Prop := a.1 * b.2 ≤ b.1 * a.2
theorem leR_trans {a b c : Ratio} (ha : 1 ≤ a.2) (hb : 1 ≤ b.2) (hc : 1 ≤ c.2) (h1 : leR a b) (h2 : leR b c) : leR a c := by
  unfold leR at *
  have e1 := Int.mul_le_mul_of_nonneg_right h1 (show 0 ≤ c.2 by omega)
  have e2 := Int.mul_le_mul_of_nonneg_right h2 (show 0 ≤ a.2 by omega)
  have a1 : a.1 * b.2 * c.2 = a.1 * c.2 * b.2 := by rw [Int.mul_assoc, Int.mul_comm b.2 c.2, ← Int.mul_assoc]
  have a2 : b.1 * a.2 * c.2 = b.1 * c.2 * a.2 := by rw [Int.mul_assoc, Int.mul_comm a.2 c.2, ← Int.mul_assoc]
  have a3 : c.1 * b.2 * a.2 = c.1 * a.2 * b.2 := by rw [Int.mul_assoc, Int.mul_comm b.2 a.2, ← Int.mul_assoc]
  exact Int.le_of_mul_le_mul_right (show a.1 * c.2 * b.2 ≤ c.1 * a.2 * b.2 by omega) (by omega)
inductive Att : List Stick → Ratio → Prop
  | nil : Att [] (0, 0)
  | cons {s : Stick} {t : List Stick} {r : Ratio} {w : Int} : w = s.1.1 ∨ w = s.1.2 → Att t r → Att (s :: t) (r.1 + w * s.2.2, r.2 + w)
end Go.Proofs.Rv
set_option linter.unusedVariables false
set_option maxRecDepth 100000
namespace Go.Proofs.Rv
open Go Go.GX Go.Proofs

end Go.Proofs.Rv
set_option linter.unusedVariables false
set_option maxRecDepth 100000
namespace Go.Proofs.Rv
open Go Go.GX Go.Proofs

theorem gen21 {a : Folded} {K : Fan → Prop} (h : FoldOK a) (hk : ∀ f, f = foldF a → K f) : f21_wp a () K := ⟨h, hk _ rfl⟩
theorem gen11 {f : Fan} {K : Fan → Prop} (h : f.2.2.length ≤ 1000000) (hk : K f) : f11_wp f () K := ⟨h, hk⟩
theorem gen28 {g : Fan} {K : Span × Int × Unit → Prop} (hg : CheckOK g) (hk : K (opensF g, 0, ())) : f28_wp g () K := by
  show K (if checkF g = 0 then (opensF g, 0, ()) else ((0, 0), checkF g, ()))
  rw [if_pos (checkF_ok.2 hg)]; exact hk
theorem len0 {α : Type} {l : List α} : ((l.length : Int) == 0) = false → l.length ≠ 0 := by
  intro h hh
  rw [hh] at h
  simp at h
theorem foldG_ok {r : Int × Int × Int × Int} (h : rowOK r) : (0 ≤ (foldG r).1.1 ∧ (foldG r).1.1 ≤ (foldG r).1.2 ∧ (foldG r).1.2 ≤ 540) ∧ 0 ≤ (foldG r).2.1 ∧ (foldG r).2.1 ≤ (foldG r).2.2 ∧ (foldG r).2.2 ≤ 70 := by
  obtain ⟨q1, q2, q3, q4⟩ := h
  unfold byteB at q1 q2 q3 q4
  have v1 := Int.emod_nonneg r.2.1 (show (30 : Int) ≠ 0 by omega)
  have v2 := Int.emod_lt_of_pos r.2.1 (show (0 : Int) < 30 by omega)
  have v3 := Int.emod_nonneg r.2.2.2 (show (6 : Int) ≠ 0 by omega)
  have v4 := Int.emod_lt_of_pos r.2.2.2 (show (0 : Int) < 6 by omega)
  have y1 : Int.tmod r.2.1 30 = r.2.1 % 30 := Int.tmod_eq_emod_of_nonneg q2.1
  have y2 : Int.tmod r.2.2.2 6 = r.2.2.2 % 6 := Int.tmod_eq_emod_of_nonneg q4.1
  have y3 : Int.tdiv r.2.2.1 4 = r.2.2.1 / 4 := Int.tdiv_eq_ediv_of_nonneg q3.1
  unfold foldG
  dsimp only
  omega

structure SmallFan (f : Fan) : Prop where
  ok : CheckOK f
  n : f.2.2.length ≤ 12
  far : f.1.2 ≤ 2600
  near : f.2.1.2 ≤ 294
  lo : 300 ≤ f.1.1
  g : ∀ g, g ∈ f.2.2 → (0 ≤ g.1.1 ∧ g.1.1 ≤ g.1.2 ∧ g.1.2 ≤ 540) ∧ 0 ≤ g.2.1 ∧ g.2.1 ≤ g.2.2 ∧ g.2.2 ≤ 70
theorem fold_small {a : Folded} (h : FoldOK a) : SmallFan (foldF a) := by
  obtain ⟨hf, hn, hg⟩ := h
  unfold byteB at hf hn
  have t1 := Int.emod_nonneg a.2.1.2 (show (20 : Int) ≠ 0 by omega)
  have t2 := Int.emod_lt_of_pos a.2.1.2 (show (0 : Int) < 20 by omega)
  have t3 : Int.tmod a.2.1.2 20 = a.2.1.2 % 20 := Int.tmod_eq_emod_of_nonneg hn.2.1
  have hgs : ∀ g, g ∈ (foldF a).2.2 → (0 ≤ g.1.1 ∧ g.1.1 ≤ g.1.2 ∧ g.1.2 ≤ 540) ∧ 0 ≤ g.2.1 ∧ g.2.1 ≤ g.2.2 ∧ g.2.2 ≤ 70 := fun g hgm => by
    obtain ⟨r, hr, rfl⟩ := List.mem_map.1 (show g ∈ (a.2.2.take 12).map foldG from hgm)
    exact foldG_ok (hg r (List.mem_of_mem_take hr))
  have hl : (foldF a).2.2.length ≤ 12 := by
    show ((a.2.2.take 12).map foldG).length ≤ 12
    rw [List.length_map, List.length_take]; omega
  have e1 : (foldF a).1 = (300 + 8 * a.1.1, 300 + 8 * a.1.1 + a.1.2) := rfl
  have e2 : (foldF a).2.1 = (20 + a.2.1.1, 20 + a.2.1.1 + Int.tmod a.2.1.2 20) := rfl
  refine ⟨⟨?_, ?_, ?_, by omega, fun g hgm => ?_⟩, hl, ?_, ?_, ?_, hgs⟩
  · rw [e1]; dsimp only; omega
  · rw [e2]; dsimp only; omega
  · rw [e1, e2]; dsimp only; omega
  · have := hgs g hgm; omega
  · rw [e1]; dsimp only; omega
  · rw [e2]; dsimp only; omega
  · rw [e1]; dsimp only; omega

theorem nb (a b : Bool) (h : a = b) : (!(a == b)) = false := by rw [h]; cases b <;> rfl
end Go.Proofs.Rv
set_option linter.unusedVariables false
set_option maxRecDepth 100000
namespace Go.Proofs.Rv
open Go Go.GX Go.Proofs

def fr (t : Turn) : Ratio := (numT t, denT t)
inductive Pw (R : Gap → Gap → Prop) : List Gap → List Gap → Prop
  | nil : Pw R [] []
  | cons {a b : Gap} {l m : List Gap} : R a b → Pw R l m → Pw R (a :: l) (b :: m)
theorem Pw.of_getD {R : Gap → Gap → Prop} : ∀ {l m : List Gap}, l.length = m.length → (∀ i, i < l.length → R (l.getD i g0) (m.getD i g0)) → Pw R l m
  | [], [], _, _ => .nil
  | a :: l, b :: m, h, hr => .cons (hr 0 (Nat.zero_lt_succ _)) (Pw.of_getD (by simpa using h) fun i hi => hr (i + 1) (Nat.succ_lt_succ hi))
  | [], _ :: _, h, _ => by cases h
  | _ :: _, [], h, _ => by cases h
theorem Pw.refl {R : Gap → Gap → Prop} (l : List Gap) (h : ∀ g, g ∈ l → R g g) : Pw R l l := .of_getD rfl fun i hi => h _ (getD_mem hi)
theorem min_mul {a b c : Int} (hc : 0 ≤ c) : min a b * c = min (a * c) (b * c) := by
  rcases Int.le_total a b with h | h
  · rw [Int.min_eq_left h, Int.min_eq_left (Int.mul_le_mul_of_nonneg_right h hc)]
  · rw [Int.min_eq_right h, Int.min_eq_right (Int.mul_le_mul_of_nonneg_right h hc)]
theorem mul4 {a n f m : Int} : a * n * (f * m) = (a * f) * (n * m) := by
  rw [Int.mul_assoc, Int.mul_assoc, ← Int.mul_assoc n f m, Int.mul_comm n f, Int.mul_assoc f n m]
theorem term_le {l1 t1 l2 t2 F1 N1 F2 N2 : Int} (hl0 : 0 ≤ l1) (ht0 : 0 ≤ t1) (hl : l1 ≤ l2) (ht : t1 ≤ t2) (hF : F2 ≤ F1) (hN : N2 ≤ N1) (hF0 : 0 ≤ F2) (hN0 : 0 ≤ N2) :
    min (l1 * N1) (t1 * F1) * (F2 * N2) ≤ min (l2 * N2) (t2 * F2) * (F1 * N1) := by
  rw [min_mul (Int.mul_nonneg hF0 hN0), min_mul (Int.mul_nonneg (by omega) (by omega))]
  refine min_mono ?_ ?_
  · have e1 : l1 * N1 * (F2 * N2) = (l1 * F2) * (N1 * N2) := mul4
    have e2 : l2 * N2 * (F1 * N1) = (l2 * F1) * (N1 * N2) := by rw [mul4, Int.mul_comm N2 N1]
    rw [e1, e2]
    exact Int.mul_le_mul_of_nonneg_right (Int.mul_le_mul hl hF hF0 (by omega)) (Int.mul_nonneg (by omega) hN0)
  · have e1 : t1 * F1 * (F2 * N2) = (t1 * N2) * (F1 * F2) := by rw [Int.mul_comm F2 N2, mul4]
    have e2 : t2 * F2 * (F1 * N1) = (t2 * N1) * (F1 * F2) := by rw [Int.mul_comm F1 N1, mul4, Int.mul_comm F2 F1]
    rw [e1, e2]
    exact Int.mul_le_mul_of_nonneg_right (Int.mul_le_mul ht hN hN0 (by omega)) (Int.mul_nonneg (by omega) hF0)
theorem sumG_cmp {a1 a2 : Span → Int} {F1 N1 F2 N2 : Int} (hF : F2 ≤ F1) (hN : N2 ≤ N1) (hF0 : 0 ≤ F2) (hN0 : 0 ≤ N2) {l m : List Gap} (h : Pw (fun g1 g2 => (0 ≤ a1 g1.1 ∧ 0 ≤ a1 g1.2) ∧ a1 g1.1 ≤ a2 g2.1 ∧ a1 g1.2 ≤ a2 g2.2) l m) :
    sumG a1 F1 N1 l * (F2 * N2) ≤ sumG a2 F2 N2 m * (F1 * N1) := by
  induction h with
  | nil =>
    rw [sumG_nil, sumG_nil]
    simp
  | cons hr _ ih =>
    rw [sumG_cons, sumG_cons, Int.add_mul, Int.add_mul]
    have := term_le hr.1.1 hr.1.2 hr.2.1 hr.2.2 hF hN hF0 hN0
    unfold angG
    omega
theorem fr_low (f : Fan) : fr (lowT f) = (sumG loE f.1.2 f.2.1.2 f.2.2, f.1.2 * f.2.1.2) := Prod.ext (low_num f).1 (low_num f).2
theorem fr_high (f : Fan) : fr (highT f) = (sumG hiE f.1.1 f.2.1.1 f.2.2, f.1.1 * f.2.1.1) := Prod.ext (high_num f).1 (high_num f).2
theorem fr_le {a1 a2 : Span → Int} {F1 N1 F2 N2 : Int} (hF : F2 ≤ F1) (hN : N2 ≤ N1) (hF0 : 0 ≤ F2) (hN0 : 0 ≤ N2) {l m : List Gap} (h : Pw (fun g1 g2 => (0 ≤ a1 g1.1 ∧ 0 ≤ a1 g1.2) ∧ a1 g1.1 ≤ a2 g2.1 ∧ a1 g1.2 ≤ a2 g2.2) l m) : leR (sumG a1 F1 N1 l, F1 * N1) (sumG a2 F2 N2 m, F2 * N2) :=
  sumG_cmp hF hN hF0 hN0 h
theorem low_den {f : Fan} (h : CheckOK f) : 1 ≤ (fr (lowT f)).2 := h.fan.low.2
theorem high_den {f : Fan} (h : CheckOK f) : 1 ≤ (fr (highT f)).2 := h.fan.high.2
theorem deg_le {t u : Turn} (ht : TurnOK t) (hu : TurnOK u) (h : leR (fr t) (fr u)) : degF t ≤ degF u :=
  degND_mono ht.num.1 ht.den.1 hu.num.1 hu.den.1 h
theorem low_high {f : Fan} (h : CheckOK f) : leR (fr (lowT f)) (fr (highT f)) := by
  have h1 := h.far
  have h2 := h.near
  rw [fr_low, fr_high]
  refine fr_le h1.2.1 h2.2.1 (by omega) (by omega) (Pw.refl _ fun g hg => ?_)
  have := h.g g hg
  unfold loE hiE; omega

theorem more_spec {a b : Fan} (ha : CheckOK a) (hb : CheckOK b) : (moreF a b = 1 ∧ ¬ leR (fr (lowT a)) (fr (highT b))) ∨ (moreF a b = 2 ∧ ¬ leR (fr (lowT b)) (fr (highT a))) ∨ moreF a b = 3 := by
  have key : ∀ x y : Int, cmpI3 x y > 0 → y < x := fun x y h => by
    unfold cmpI3 at h
    split at h
    · omega
    · split at h
      · assumption
      · omega
  unfold moreF
  split
  · rename_i hc
    have := key _ _ hc
    exact .inl ⟨rfl, by unfold leR fr; dsimp only; omega⟩
  · split
    · rename_i hc
      have := key _ _ hc
      exact .inr (.inl ⟨rfl, by unfold leR fr; dsimp only; omega⟩)
    · exact .inr (.inr rfl)
theorem leR_total {a b : Ratio} : leR a b ∨ leR b a := by unfold leR; omega

structure Made (f : Fan) (k : Nat) (g : Fan) : Prop where
  ok : CheckOK g
  up : k < 3 → leR (fr (lowT f)) (fr (lowT g)) ∧ leR (fr (highT f)) (fr (highT g))
  down : k = 3 ∨ k = 4 → leR (fr (lowT g)) (fr (lowT f)) ∧ leR (fr (highT g)) (fr (highT f))
  mid : k = 5 → leR (fr (lowT f)) (fr (lowT g)) ∧ leR (fr (highT g)) (fr (highT f))
def MadeP (f : Fan) (k : Nat) (g : Fan) : Prop := Made f k g ∨ (k = 4 ∧ checkF g = 3 ∧ g.1.1 ≤ g.2.1.2 ∧ g.2.2.length ≤ 40)
section
variable {f : Fan} (h : SmallFan f)
include h
theorem made0 {g : Gap} (hg : (0 ≤ g.1.1 ∧ g.1.1 ≤ g.1.2 ∧ g.1.2 ≤ 1000) ∧ 0 ≤ g.2.1 ∧ g.2.1 ≤ g.2.2 ∧ g.2.2 ≤ 500) : MadeP f 0 (f.1, f.2.1, f.2.2 ++ [g]) := by
  have h1 := h.ok.far
  have h2 := h.ok.near
  have hn := h.n
  refine .inl ⟨⟨h.ok.far, h.ok.near, h.ok.lt, by show (f.2.2 ++ [g]).length ≤ 40; simp; omega, fun x hx => ?_⟩, fun _ => ?_, fun hk => by omega, fun hk => by omega⟩
  · rcases List.mem_append.1 (show x ∈ f.2.2 ++ [g] from hx) with hx | hx
    · exact h.ok.g x hx
    · have : x = g := by simpa using hx
      rw [this]; exact hg
  · constructor
    · rw [fr_low, fr_low]
      show sumG loE f.1.2 f.2.1.2 f.2.2 * (f.1.2 * f.2.1.2) ≤ sumG loE f.1.2 f.2.1.2 (f.2.2 ++ [g]) * (f.1.2 * f.2.1.2)
      rw [sumG_append, sumG_cons, sumG_nil]
      refine Int.mul_le_mul_of_nonneg_right ?_ (Int.mul_nonneg (by omega) (by omega))
      have := angG_nonneg (arc := loE) (g := g) (far := f.1.2) (near := f.2.1.2) (by omega) (by omega) (by unfold loE; omega) (by unfold loE; omega)
      omega
    · rw [fr_high, fr_high]
      show sumG hiE f.1.1 f.2.1.1 f.2.2 * (f.1.1 * f.2.1.1) ≤ sumG hiE f.1.1 f.2.1.1 (f.2.2 ++ [g]) * (f.1.1 * f.2.1.1)
      rw [sumG_append, sumG_cons, sumG_nil]
      refine Int.mul_le_mul_of_nonneg_right ?_ (Int.mul_nonneg (by omega) (by omega))
      have := angG_nonneg (arc := hiE) (g := g) (far := f.1.1) (near := f.2.1.1) (by omega) (by omega) (by unfold hiE; omega) (by unfold hiE; omega)
      omega
theorem set_getD {l : List Gap} {i j : Nat} {a : Gap} (hj : j < l.length) : (l.set i a).getD j g0 = if i = j then a else l.getD j g0 := by
  rw [getD_lt (by rw [List.length_set]; exact hj), List.getElem_set, getD_lt hj]

theorem madeS {k : Nat} (hk : k = 1 ∨ k = 2) {j : Nat} (hj : j < f.2.2.length) {g : Gap} (hg : (0 ≤ g.1.1 ∧ g.1.1 ≤ g.1.2 ∧ g.1.2 ≤ 1000) ∧ 0 ≤ g.2.1 ∧ g.2.1 ≤ g.2.2 ∧ g.2.2 ≤ 500)
    (hle : ((f.2.2.getD j g0).1.1 ≤ g.1.1 ∧ (f.2.2.getD j g0).1.2 ≤ g.1.2) ∧ (f.2.2.getD j g0).2.1 ≤ g.2.1 ∧ (f.2.2.getD j g0).2.2 ≤ g.2.2) : MadeP f k (f.1, f.2.1, f.2.2.set j g) := by
  have h1 := h.ok.far
  have h2 := h.ok.near
  have hn := h.n
  refine .inl ⟨⟨h.ok.far, h.ok.near, h.ok.lt, by show (f.2.2.set j g).length ≤ 40; rw [List.length_set]; omega, fun x hx => ?_⟩, fun _ => ?_, fun hk => by omega, fun hk => by omega⟩
  · rcases List.mem_or_eq_of_mem_set (show x ∈ f.2.2.set j g from hx) with hx | rfl
    · exact h.ok.g x hx
    · exact hg
  · constructor
    · rw [fr_low, fr_low]
      refine fr_le (Int.le_refl _) (Int.le_refl _) (by show 0 ≤ f.1.2; omega) (by show 0 ≤ f.2.1.2; omega) (.of_getD (by show f.2.2.length = (f.2.2.set j g).length; rw [List.length_set]) fun i hi => ?_)
      have hx := h.ok.g _ (getD_mem (d := g0) hi)
      show _ ∧ loE (f.2.2.getD i g0).1 ≤ loE ((f.2.2.set j g).getD i g0).1 ∧ loE (f.2.2.getD i g0).2 ≤ loE ((f.2.2.set j g).getD i g0).2
      rw [set_getD h hi]
      split
      · rename_i e
        subst e
        unfold loE; omega
      · unfold loE; omega
    · rw [fr_high, fr_high]
      refine fr_le (Int.le_refl _) (Int.le_refl _) (by show 0 ≤ f.1.1; omega) (by show 0 ≤ f.2.1.1; omega) (.of_getD (by show f.2.2.length = (f.2.2.set j g).length; rw [List.length_set]) fun i hi => ?_)
      have hx := h.ok.g _ (getD_mem (d := g0) hi)
      show _ ∧ hiE (f.2.2.getD i g0).1 ≤ hiE ((f.2.2.set j g).getD i g0).1 ∧ hiE (f.2.2.getD i g0).2 ≤ hiE ((f.2.2.set j g).getD i g0).2
      rw [set_getD h hi]
      split
      · rename_i e
        subst e
        unfold hiE; omega
      · unfold hiE; omega
theorem made3 {n : Int} (hn1 : 0 ≤ n) (hn2 : n ≤ 20) : MadeP f 3 ((f.1.1 + n, f.1.2 + n), f.2.1, f.2.2) := by
  have h1 := h.ok.far
  have h2 := h.ok.near
  have h3 := h.ok.lt
  have h4 := h.far
  refine .inl ⟨⟨by dsimp only; omega, h.ok.near, by dsimp only; omega, h.ok.n, h.ok.g⟩, fun hk => by omega, fun _ => ?_, fun hk => by omega⟩
  constructor
  · rw [fr_low, fr_low]
    refine fr_le (by show f.1.2 ≤ f.1.2 + n; omega) (Int.le_refl _) (by show 0 ≤ f.1.2; omega) (by show 0 ≤ f.2.1.2; omega) (Pw.refl _ fun g hg => ?_)
    have := h.ok.g g hg
    unfold loE; omega
  · rw [fr_high, fr_high]
    refine fr_le (by show f.1.1 ≤ f.1.1 + n; omega) (Int.le_refl _) (by show 0 ≤ f.1.1; omega) (by show 0 ≤ f.2.1.1; omega) (Pw.refl _ fun g hg => ?_)
    have := h.ok.g g hg
    unfold hiE; omega
theorem made4 {n : Int} (hn1 : 0 ≤ n) (hn2 : n ≤ 20) : MadeP f 4 (f.1, (f.2.1.1 + n, f.2.1.2 + n), f.2.2) := by
  have h1 := h.ok.far
  have h2 := h.ok.near
  have h3 := h.ok.lt
  have h4 := h.near
  by_cases hc : f.1.1 ≤ f.2.1.2 + n
  · refine .inr ⟨rfl, ?_, hc, h.ok.n⟩
    unfold checkF
    rw [if_pos (.inr (.inr hc))]
  refine .inl ⟨⟨h.ok.far, by dsimp only; omega, by dsimp only; omega, h.ok.n, h.ok.g⟩, fun hk => by omega, fun _ => ?_, fun hk => by omega⟩
  constructor
  · rw [fr_low, fr_low]
    refine fr_le (Int.le_refl _) (by show f.2.1.2 ≤ f.2.1.2 + n; omega) (by show 0 ≤ f.1.2; omega) (by show 0 ≤ f.2.1.2; omega) (Pw.refl _ fun g hg => ?_)
    have := h.ok.g g hg
    unfold loE; omega
  · rw [fr_high, fr_high]
    refine fr_le (Int.le_refl _) (by show f.2.1.1 ≤ f.2.1.1 + n; omega) (by show 0 ≤ f.1.1; omega) (by show 0 ≤ f.2.1.1; omega) (Pw.refl _ fun g hg => ?_)
    have := h.ok.g g hg
    unfold hiE; omega
end

theorem pt_ok {b : List Int} (hb : ∀ x, x ∈ b → byteB x) {s : Span} (hs : spanOK s) {i : Int} (hi : 0 ≤ i) : s.1 ≤ (ptF b s i).1 ∧ (ptF b s i).1 ≤ s.2 ∧ (ptF b s i).2 = (ptF b s i).1 := by
  have := insF_ok hs (byteF_ok hb hi).1
  exact ⟨this.1, this.2, rfl⟩
theorem true_getD {f : Fan} {b : List Int} {i : Nat} (hi : i < f.2.2.length) : (trueF f b).2.2.getD i g0 = (ptF b (f.2.2.getD i g0).1 (2 * i + 2), ptF b (f.2.2.getD i g0).2 (2 * i + 3)) := by
  have hl : (trueF f b).2.2.length = f.2.2.length := by show ((List.range f.2.2.length).map _).length = _; simp
  rw [getD_lt (by omega)]
  unfold trueF
  simp only [List.getElem_map, List.getElem_range]
theorem true_ok {f : Fan} (h : CheckOK f) {b : List Int} (hb : ∀ x, x ∈ b → byteB x) : CheckOK (trueF f b) ∧ leR (fr (lowT f)) (fr (lowT (trueF f b))) ∧ leR (fr (highT (trueF f b))) (fr (highT f)) := by
  have h1 := h.far
  have h2 := h.near
  have h3 := h.lt
  obtain ⟨s1, s2, s3⟩ := h.sp
  have hl : (trueF f b).2.2.length = f.2.2.length := by show ((List.range f.2.2.length).map _).length = _; simp
  have p1 := pt_ok hb s1 (show (0 : Int) ≤ 0 by omega)
  have p2 := pt_ok hb s2 (show (0 : Int) ≤ 1 by omega)
  have hg : ∀ i, i < f.2.2.length → ((f.2.2.getD i g0).1.1 ≤ ((trueF f b).2.2.getD i g0).1.1 ∧ ((trueF f b).2.2.getD i g0).1.1 ≤ (f.2.2.getD i g0).1.2 ∧ ((trueF f b).2.2.getD i g0).1.2 = ((trueF f b).2.2.getD i g0).1.1) ∧
      (f.2.2.getD i g0).2.1 ≤ ((trueF f b).2.2.getD i g0).2.1 ∧ ((trueF f b).2.2.getD i g0).2.1 ≤ (f.2.2.getD i g0).2.2 ∧ ((trueF f b).2.2.getD i g0).2.2 = ((trueF f b).2.2.getD i g0).2.1 := fun i hi => by
    rw [true_getD hi]
    have := s3 _ (getD_mem (d := g0) hi)
    exact ⟨pt_ok hb this.1 (by omega), pt_ok hb this.2 (by omega)⟩
  have c1 : (trueF f b).1 = ptF b f.1 0 := rfl
  have c2 : (trueF f b).2.1 = ptF b f.2.1 1 := rfl
  refine ⟨⟨by rw [c1]; omega, by rw [c2]; omega, by rw [c1, c2]; omega, by rw [hl]; exact h.n, fun g hgm => ?_⟩, ?_, ?_⟩
  · obtain ⟨i, hi, rfl⟩ := List.mem_iff_getElem.1 hgm
    have := hg i (by omega)
    rw [getD_lt hi] at this
    have := h.g _ (getD_mem (d := g0) (show i < f.2.2.length by omega))
    omega
  · rw [fr_low, fr_low]
    refine fr_le (by rw [c1]; omega) (by rw [c2]; omega) (by rw [c1]; omega) (by rw [c2]; omega) (.of_getD hl.symm fun i hi => ?_)
    have := hg i hi
    have := h.g _ (getD_mem (d := g0) hi)
    unfold loE; omega
  · rw [fr_high, fr_high]
    refine fr_le (by rw [c1]; omega) (by rw [c2]; omega) (by omega) (by omega) (.of_getD hl fun i hi => ?_)
    have := hg i (by omega)
    have := h.g _ (getD_mem (d := g0) (show i < f.2.2.length by omega))
    unfold hiE; omega
theorem made5 {f : Fan} (h : SmallFan f) {b : List Int} (hb : ∀ x, x ∈ b → byteB x) : MadeP f 5 (trueF f b) := by
  obtain ⟨h1, h2, h3⟩ := true_ok h.ok hb
  exact .inl ⟨h1, fun hk => by omega, fun hk => by omega, fun _ => ⟨h2, h3⟩⟩
end Go.Proofs.Rv
set_option linter.unusedVariables false
set_option maxRecDepth 100000
namespace Go.Proofs.Rv
open Go Go.GX Go.Proofs

def V9 (x : (Int × Int) × (Int × Int) × List (Int × Int × Int × Int)) (b : List Int) (v : Int × Int × Int × Int) (Q : Bool → Prop) : Prop :=
  f21_wp ((Prod.fst (Prod.fst x), Prod.snd (Prod.fst x)), (Prod.fst (Prod.fst (Prod.snd x)), Prod.snd (Prod.fst (Prod.snd x))), Prod.snd (Prod.snd x))
    () fun (r : (Int × Int) × (Int × Int) × List ((Int × Int) × Int × Int)) ↦
    f11_wp ((Prod.fst (Prod.fst r), Prod.snd (Prod.fst r)), (Prod.fst (Prod.fst (Prod.snd r)), Prod.snd (Prod.fst (Prod.snd r))), Prod.snd (Prod.snd r))
      () fun (r_1 : (Int × Int) × (Int × Int) × List ((Int × Int) × Int × Int)) ↦
      f28_wp
        ((Prod.fst (Prod.fst r_1), Prod.snd (Prod.fst r_1)), (Prod.fst (Prod.fst (Prod.snd r_1)), Prod.snd (Prod.fst (Prod.snd r_1))),
          Prod.snd (Prod.snd r_1))
        () fun (r_2 : (Int × Int) × Int × Unit) ↦
        cnd (Prod.fst (Prod.snd r_2) != (0 : Int)) (Q false)
          (∃ (I : Int → Prop),
            ∃ (μ : Int → Nat),
              I (0 : Int) ∧
                ∀ (x : Int),
                  I x →
                    cnd (decide (x < (6 : Int)))
                      (f11_wp
                        ((Prod.fst (Prod.fst r), Prod.snd (Prod.fst r)), (Prod.fst (Prod.fst (Prod.snd r)), Prod.snd (Prod.fst (Prod.snd r))),
                          Prod.snd (Prod.snd r))
                        () fun (r_3 : (Int × Int) × (Int × Int) × List ((Int × Int) × Int × Int)) ↦
                        (20 : Int) ≠ (0 : Int) ∧
                          ∃ (I_1 : Bool → Prop),
                            (List.length (Prod.snd (Prod.snd r_3)) ≤ (9223372036854775807 : Nat) →
                                cnd ((↑(List.length (Prod.snd (Prod.snd r_3))) : Int) == (0 : Int))
                                  (cnd (x == (1 : Int)) (I_1 true) (I_1 (x == (2 : Int)))) (I_1 false)) ∧
                              ∀ (x_1 : Bool),
                                I_1 x_1 →
                                  cnd x_1 (I (IntKind.wrap IntKind.i64 (x + (1 : Int))) ∧ μ (IntKind.wrap IntKind.i64 (x + (1 : Int))) < μ x)
                                    (∃ (I_2 : ((Int × Int) × Int × Int) × List ((Int × Int) × Int × Int) → Prop),
                                      cnd (x == (0 : Int))
                                          (∃ (r : Int × Int),
                                            (f27_wp
                                                (IntKind.wrap IntKind.i64 (Prod.fst (Prod.snd (Prod.snd v))),
                                                  IntKind.wrap IntKind.i64 (IntKind.wrap IntKind.i64 (Prod.fst (Prod.snd (Prod.snd v))) + (3 : Int)),
                                                  ())
                                                () fun (r' : Int × Int) ↦ r' = r) ∧
                                              (4 : Int) ≠ (0 : Int) ∧
                                                (4 : Int) ≠ (0 : Int) ∧
                                                  ∃ (r_4 : Int × Int),
                                                    (f27_wp
                                                        (IntKind.wrap IntKind.i64
                                                            (Int.tdiv (IntKind.wrap IntKind.i64 (Prod.snd (Prod.snd (Prod.snd v)))) (4 : Int)),
                                                          IntKind.wrap IntKind.i64
                                                            (IntKind.wrap IntKind.i64
                                                                (Int.tdiv (IntKind.wrap IntKind.i64 (Prod.snd (Prod.snd (Prod.snd v)))) (4 : Int)) +
                                                              (2 : Int)),
                                                          ())
                                                        () fun (r' : Int × Int) ↦ r' = r_4) ∧
                                                      (List.length (Prod.snd (Prod.snd r_3)) +
                                                              List.length
                                                                (((Prod.fst r, Prod.snd r), Prod.fst r_4, Prod.snd r_4) ::
                                                                  ([] : List ((Int × Int) × Int × Int)))) *
                                                            (32 : Nat) ≤
                                                          (140737488355328 : Nat) ∧
                                                        I_2
                                                          (((Prod.fst (Prod.fst r_3), Prod.snd (Prod.fst r_3)), Prod.fst (Prod.fst (Prod.snd r_3)),
                                                              Prod.snd (Prod.fst (Prod.snd r_3))),
                                                            Prod.snd (Prod.snd r_3) ++
                                                              ((Prod.fst r, Prod.snd r), Prod.fst r_4, Prod.snd r_4) ::
                                                                ([] : List ((Int × Int) × Int × Int))))
                                          (cnd (x == (1 : Int))
                                            (List.length (Prod.snd (Prod.snd r_3)) ≤ (9223372036854775807 : Nat) →
                                              (↑(List.length (Prod.snd (Prod.snd r_3))) : Int) ≠ (0 : Int) ∧
                                                (0 : Int) ≤
                                                    Int.tmod (IntKind.wrap IntKind.i64 (Prod.fst v)) (↑(List.length (Prod.snd (Prod.snd r_3))) : Int) ∧
                                                  Int.tmod (IntKind.wrap IntKind.i64 (Prod.fst v)) (↑(List.length (Prod.snd (Prod.snd r_3))) : Int) <
                                                      (↑(List.length (Prod.snd (Prod.snd r_3))) : Int) ∧
                                                    (0 : Int) ≤
                                                        Int.tmod (IntKind.wrap IntKind.i64 (Prod.fst v))
                                                          (↑(List.length (Prod.snd (Prod.snd r_3))) : Int) ∧
                                                      Int.tmod (IntKind.wrap IntKind.i64 (Prod.fst v))
                                                            (↑(List.length (Prod.snd (Prod.snd r_3))) : Int) <
                                                          (↑(List.length (Prod.snd (Prod.snd r_3))) : Int) ∧
                                                        ∃ (r : Int × Int),
                                                          (f27_wp
                                                              (IntKind.wrap IntKind.i64
                                                                  (Prod.fst
                                                                      (Prod.fst
                                                                        (List.getD (Prod.snd (Prod.snd r_3))
                                                                          (Int.toNat
                                                                            (Int.tmod (IntKind.wrap IntKind.i64 (Prod.fst v))
                                                                              (↑(List.length (Prod.snd (Prod.snd r_3))) : Int)))
                                                                          (((0 : Int), (0 : Int)), (0 : Int), (0 : Int)))) +
                                                                    IntKind.wrap IntKind.i64
                                                                      ((1 : Int) +
                                                                        Int.tmod (IntKind.wrap IntKind.i64 (Prod.fst (Prod.snd v))) (20 : Int))),
                                                                IntKind.wrap IntKind.i64
                                                                  (Prod.snd
                                                                      (Prod.fst
                                                                        (List.getD (Prod.snd (Prod.snd r_3))
                                                                          (Int.toNat
                                                                            (Int.tmod (IntKind.wrap IntKind.i64 (Prod.fst v))
                                                                              (↑(List.length (Prod.snd (Prod.snd r_3))) : Int)))
                                                                          (((0 : Int), (0 : Int)), (0 : Int), (0 : Int)))) +
                                                                    IntKind.wrap IntKind.i64
                                                                      ((1 : Int) +
                                                                        Int.tmod (IntKind.wrap IntKind.i64 (Prod.fst (Prod.snd v))) (20 : Int))),
                                                                ())
                                                              () fun (r' : Int × Int) ↦ r' = r) ∧
                                                            (0 : Int) ≤
                                                                Int.tmod (IntKind.wrap IntKind.i64 (Prod.fst v))
                                                                  (↑(List.length (Prod.snd (Prod.snd r_3))) : Int) ∧
                                                              Int.tmod (IntKind.wrap IntKind.i64 (Prod.fst v))
                                                                    (↑(List.length (Prod.snd (Prod.snd r_3))) : Int) <
                                                                  (↑(List.length (Prod.snd (Prod.snd r_3))) : Int) ∧
                                                                I_2
                                                                  (((Prod.fst (Prod.fst r_3), Prod.snd (Prod.fst r_3)),
                                                                      Prod.fst (Prod.fst (Prod.snd r_3)), Prod.snd (Prod.fst (Prod.snd r_3))),
                                                                    List.set (Prod.snd (Prod.snd r_3))
                                                                      (Int.toNat
                                                                        (Int.tmod (IntKind.wrap IntKind.i64 (Prod.fst v))
                                                                          (↑(List.length (Prod.snd (Prod.snd r_3))) : Int)))
                                                                      ((Prod.fst r, Prod.snd r),
                                                                        Prod.fst
                                                                          (Prod.snd
                                                                            (List.getD (Prod.snd (Prod.snd r_3))
                                                                              (Int.toNat
                                                                                (Int.tmod (IntKind.wrap IntKind.i64 (Prod.fst v))
                                                                                  (↑(List.length (Prod.snd (Prod.snd r_3))) : Int)))
                                                                              (((0 : Int), (0 : Int)), (0 : Int), (0 : Int)))),
                                                                        Prod.snd
                                                                          (Prod.snd
                                                                            (List.getD (Prod.snd (Prod.snd r_3))
                                                                              (Int.toNat
                                                                                (Int.tmod (IntKind.wrap IntKind.i64 (Prod.fst v))
                                                                                  (↑(List.length (Prod.snd (Prod.snd r_3))) : Int)))
                                                                              (((0 : Int), (0 : Int)), (0 : Int), (0 : Int)))))))
                                            (cnd (x == (2 : Int))
                                              (List.length (Prod.snd (Prod.snd r_3)) ≤ (9223372036854775807 : Nat) →
                                                (↑(List.length (Prod.snd (Prod.snd r_3))) : Int) ≠ (0 : Int) ∧
                                                  (0 : Int) ≤
                                                      Int.tmod (IntKind.wrap IntKind.i64 (Prod.fst v))
                                                        (↑(List.length (Prod.snd (Prod.snd r_3))) : Int) ∧
                                                    Int.tmod (IntKind.wrap IntKind.i64 (Prod.fst v)) (↑(List.length (Prod.snd (Prod.snd r_3))) : Int) <
                                                        (↑(List.length (Prod.snd (Prod.snd r_3))) : Int) ∧
                                                      (0 : Int) ≤
                                                          Int.tmod (IntKind.wrap IntKind.i64 (Prod.fst v))
                                                            (↑(List.length (Prod.snd (Prod.snd r_3))) : Int) ∧
                                                        Int.tmod (IntKind.wrap IntKind.i64 (Prod.fst v))
                                                              (↑(List.length (Prod.snd (Prod.snd r_3))) : Int) <
                                                            (↑(List.length (Prod.snd (Prod.snd r_3))) : Int) ∧
                                                          ∃ (r : Int × Int),
                                                            (f27_wp
                                                                (IntKind.wrap IntKind.i64
                                                                    (Prod.fst
                                                                        (Prod.snd
                                                                          (List.getD (Prod.snd (Prod.snd r_3))
                                                                            (Int.toNat
                                                                              (Int.tmod (IntKind.wrap IntKind.i64 (Prod.fst v))
                                                                                (↑(List.length (Prod.snd (Prod.snd r_3))) : Int)))
                                                                            (((0 : Int), (0 : Int)), (0 : Int), (0 : Int)))) +
                                                                      IntKind.wrap IntKind.i64
                                                                        ((1 : Int) +
                                                                          Int.tmod (IntKind.wrap IntKind.i64 (Prod.fst (Prod.snd v))) (20 : Int))),
                                                                  IntKind.wrap IntKind.i64
                                                                    (Prod.snd
                                                                        (Prod.snd
                                                                          (List.getD (Prod.snd (Prod.snd r_3))
                                                                            (Int.toNat
                                                                              (Int.tmod (IntKind.wrap IntKind.i64 (Prod.fst v))
                                                                                (↑(List.length (Prod.snd (Prod.snd r_3))) : Int)))
                                                                            (((0 : Int), (0 : Int)), (0 : Int), (0 : Int)))) +
                                                                      IntKind.wrap IntKind.i64
                                                                        ((1 : Int) +
                                                                          Int.tmod (IntKind.wrap IntKind.i64 (Prod.fst (Prod.snd v))) (20 : Int))),
                                                                  ())
                                                                () fun (r' : Int × Int) ↦ r' = r) ∧
                                                              (0 : Int) ≤
                                                                  Int.tmod (IntKind.wrap IntKind.i64 (Prod.fst v))
                                                                    (↑(List.length (Prod.snd (Prod.snd r_3))) : Int) ∧
                                                                Int.tmod (IntKind.wrap IntKind.i64 (Prod.fst v))
                                                                      (↑(List.length (Prod.snd (Prod.snd r_3))) : Int) <
                                                                    (↑(List.length (Prod.snd (Prod.snd r_3))) : Int) ∧
                                                                  I_2
                                                                    (((Prod.fst (Prod.fst r_3), Prod.snd (Prod.fst r_3)),
                                                                        Prod.fst (Prod.fst (Prod.snd r_3)), Prod.snd (Prod.fst (Prod.snd r_3))),
                                                                      List.set (Prod.snd (Prod.snd r_3))
                                                                        (Int.toNat
                                                                          (Int.tmod (IntKind.wrap IntKind.i64 (Prod.fst v))
                                                                            (↑(List.length (Prod.snd (Prod.snd r_3))) : Int)))
                                                                        ((Prod.fst
                                                                              (Prod.fst
                                                                                (List.getD (Prod.snd (Prod.snd r_3))
                                                                                  (Int.toNat
                                                                                    (Int.tmod (IntKind.wrap IntKind.i64 (Prod.fst v))
                                                                                      (↑(List.length (Prod.snd (Prod.snd r_3))) : Int)))
                                                                                  (((0 : Int), (0 : Int)), (0 : Int), (0 : Int)))),
                                                                            Prod.snd
                                                                              (Prod.fst
                                                                                (List.getD (Prod.snd (Prod.snd r_3))
                                                                                  (Int.toNat
                                                                                    (Int.tmod (IntKind.wrap IntKind.i64 (Prod.fst v))
                                                                                      (↑(List.length (Prod.snd (Prod.snd r_3))) : Int)))
                                                                                  (((0 : Int), (0 : Int)), (0 : Int), (0 : Int))))),
                                                                          Prod.fst r, Prod.snd r)))
                                              (cnd (x == (3 : Int))
                                                (f27_wp
                                                  (IntKind.wrap IntKind.i64
                                                      (Prod.fst (Prod.fst r_3) +
                                                        IntKind.wrap IntKind.i64
                                                          ((1 : Int) + Int.tmod (IntKind.wrap IntKind.i64 (Prod.fst (Prod.snd v))) (20 : Int))),
                                                    IntKind.wrap IntKind.i64
                                                      (Prod.snd (Prod.fst r_3) +
                                                        IntKind.wrap IntKind.i64
                                                          ((1 : Int) + Int.tmod (IntKind.wrap IntKind.i64 (Prod.fst (Prod.snd v))) (20 : Int))),
                                                    ())
                                                  () fun (r : Int × Int) ↦
                                                  I_2
                                                    (((Prod.fst r, Prod.snd r), Prod.fst (Prod.fst (Prod.snd r_3)), Prod.snd (Prod.fst (Prod.snd r_3))),
                                                      Prod.snd (Prod.snd r_3)))
                                                (cnd (x == (4 : Int))
                                                  (f27_wp
                                                    (IntKind.wrap IntKind.i64
                                                        (Prod.fst (Prod.fst (Prod.snd r_3)) +
                                                          IntKind.wrap IntKind.i64
                                                            ((1 : Int) + Int.tmod (IntKind.wrap IntKind.i64 (Prod.fst (Prod.snd v))) (20 : Int))),
                                                      IntKind.wrap IntKind.i64
                                                        (Prod.snd (Prod.fst (Prod.snd r_3)) +
                                                          IntKind.wrap IntKind.i64
                                                            ((1 : Int) + Int.tmod (IntKind.wrap IntKind.i64 (Prod.fst (Prod.snd v))) (20 : Int))),
                                                      ())
                                                    () fun (r : Int × Int) ↦
                                                    I_2
                                                      (((Prod.fst (Prod.fst r_3), Prod.snd (Prod.fst r_3)), Prod.fst r, Prod.snd r),
                                                        Prod.snd (Prod.snd r_3)))
                                                  (cnd (x == (5 : Int))
                                                    (f24_wp
                                                      (((Prod.fst (Prod.fst r), Prod.snd (Prod.fst r)),
                                                          (Prod.fst (Prod.fst (Prod.snd r)), Prod.snd (Prod.fst (Prod.snd r))), Prod.snd (Prod.snd r)),
                                                        b, ())
                                                      () fun (r : (Int × Int) × (Int × Int) × List ((Int × Int) × Int × Int)) ↦
                                                      I_2
                                                        (((Prod.fst (Prod.fst r), Prod.snd (Prod.fst r)), Prod.fst (Prod.fst (Prod.snd r)),
                                                            Prod.snd (Prod.fst (Prod.snd r))),
                                                          Prod.snd (Prod.snd r)))
                                                    (I_2
                                                      (((Prod.fst (Prod.fst r_3), Prod.snd (Prod.fst r_3)), Prod.fst (Prod.fst (Prod.snd r_3)),
                                                          Prod.snd (Prod.fst (Prod.snd r_3))),
                                                        Prod.snd (Prod.snd r_3)))))))) ∧
                                        ∀ (x_2 : ((Int × Int) × Int × Int) × List ((Int × Int) × Int × Int)),
                                          I_2 x_2 →
                                            f11_wp
                                              ((Prod.fst (Prod.fst (Prod.fst x_2)), Prod.snd (Prod.fst (Prod.fst x_2))),
                                                (Prod.fst (Prod.snd (Prod.fst x_2)), Prod.snd (Prod.snd (Prod.fst x_2))), Prod.snd x_2)
                                              () fun (r_4 : (Int × Int) × (Int × Int) × List ((Int × Int) × Int × Int)) ↦
                                              f28_wp
                                                ((Prod.fst (Prod.fst r_4), Prod.snd (Prod.fst r_4)),
                                                  (Prod.fst (Prod.fst (Prod.snd r_4)), Prod.snd (Prod.fst (Prod.snd r_4))), Prod.snd (Prod.snd r_4))
                                                () fun (r_5 : (Int × Int) × Int × Unit) ↦
                                                ∃ (r_6 : (Int × Int) × (Int × Int) × List ((Int × Int) × Int × Int)),
                                                  (f11_wp
                                                      ((Prod.fst (Prod.fst (Prod.fst x_2)), Prod.snd (Prod.fst (Prod.fst x_2))),
                                                        (Prod.fst (Prod.snd (Prod.fst x_2)), Prod.snd (Prod.snd (Prod.fst x_2))), Prod.snd x_2)
                                                      () fun (r' : (Int × Int) × (Int × Int) × List ((Int × Int) × Int × Int)) ↦ r' = r_6) ∧
                                                    ∃ (r_7 : (Int × Int) × (Int × Int) × List ((Int × Int) × Int × Int)),
                                                      (f11_wp
                                                          ((Prod.fst (Prod.fst r), Prod.snd (Prod.fst r)),
                                                            (Prod.fst (Prod.fst (Prod.snd r)), Prod.snd (Prod.fst (Prod.snd r))), Prod.snd (Prod.snd r))
                                                          () fun (r' : (Int × Int) × (Int × Int) × List ((Int × Int) × Int × Int)) ↦ r' = r_7) ∧
                                                        ∃ (r : Int × Int × Unit),
                                                          (f38_wp
                                                              (((Prod.fst (Prod.fst r_6), Prod.snd (Prod.fst r_6)),
                                                                  (Prod.fst (Prod.fst (Prod.snd r_6)), Prod.snd (Prod.fst (Prod.snd r_6))),
                                                                  Prod.snd (Prod.snd r_6)),
                                                                ((Prod.fst (Prod.fst r_7), Prod.snd (Prod.fst r_7)),
                                                                  (Prod.fst (Prod.fst (Prod.snd r_7)), Prod.snd (Prod.fst (Prod.snd r_7))),
                                                                  Prod.snd (Prod.snd r_7)),
                                                                ())
                                                              () fun (r' : Int × Int × Unit) ↦ r' = r) ∧
                                                            cnd (Prod.fst (Prod.snd r_5) != (0 : Int))
                                                              (cnd (x == (4 : Int))
                                                                (cnd (Prod.fst (Prod.snd r_5) == (3 : Int))
                                                                  (cnd (Prod.fst (Prod.snd r) == (3 : Int))
                                                                    (cnd
                                                                      (decide (Prod.snd (Prod.snd (Prod.fst x_2)) ≥ Prod.fst (Prod.fst (Prod.fst x_2))))
                                                                      (I (IntKind.wrap IntKind.i64 (x + (1 : Int))) ∧
                                                                        μ (IntKind.wrap IntKind.i64 (x + (1 : Int))) < μ x)
                                                                      (Q false))
                                                                    (Q false))
                                                                  (Q false))
                                                                (Q false))
                                                              (cnd (Prod.fst (Prod.snd r) != (0 : Int))
                                                                (cnd (x == (4 : Int))
                                                                  (cnd (Prod.fst (Prod.snd r_5) == (3 : Int))
                                                                    (cnd (Prod.fst (Prod.snd r) == (3 : Int))
                                                                      (cnd
                                                                        (decide
                                                                          (Prod.snd (Prod.snd (Prod.fst x_2)) ≥ Prod.fst (Prod.fst (Prod.fst x_2))))
                                                                        (I (IntKind.wrap IntKind.i64 (x + (1 : Int))) ∧
                                                                          μ (IntKind.wrap IntKind.i64 (x + (1 : Int))) < μ x)
                                                                        (Q false))
                                                                      (Q false))
                                                                    (Q false))
                                                                  (Q false))
                                                                (cnd (decide (Prod.fst (Prod.fst r_5) > Prod.snd (Prod.fst r_5)))
                                                                  (cnd (x == (4 : Int))
                                                                    (cnd (Prod.fst (Prod.snd r_5) == (3 : Int))
                                                                      (cnd (Prod.fst (Prod.snd r) == (3 : Int))
                                                                        (cnd
                                                                          (decide
                                                                            (Prod.snd (Prod.snd (Prod.fst x_2)) ≥ Prod.fst (Prod.fst (Prod.fst x_2))))
                                                                          (I (IntKind.wrap IntKind.i64 (x + (1 : Int))) ∧
                                                                            μ (IntKind.wrap IntKind.i64 (x + (1 : Int))) < μ x)
                                                                          (Q false))
                                                                        (Q false))
                                                                      (Q false))
                                                                    (Q false))
                                                                  (∃ (I_3 : Bool → Prop),
                                                                    cnd (decide (x < (3 : Int)))
                                                                        (cnd (decide (Prod.fst (Prod.fst r_5) < Prod.fst (Prod.fst r_2))) (I_3 true)
                                                                          (cnd (decide (Prod.snd (Prod.fst r_5) < Prod.snd (Prod.fst r_2))) (I_3 true)
                                                                            (cnd (Prod.fst r == (2 : Int)) (I_3 true)
                                                                              (cnd (x == (3 : Int))
                                                                                (cnd (decide (Prod.fst (Prod.fst r_5) > Prod.fst (Prod.fst r_2)))
                                                                                  (I_3 true)
                                                                                  (cnd (decide (Prod.snd (Prod.fst r_5) > Prod.snd (Prod.fst r_2)))
                                                                                    (I_3 true)
                                                                                    (cnd (Prod.fst r == (1 : Int)) (I_3 true)
                                                                                      (cnd (x == (5 : Int))
                                                                                        (cnd
                                                                                          (decide (Prod.fst (Prod.fst r_5) < Prod.fst (Prod.fst r_2)))
                                                                                          (I_3 true)
                                                                                          (cnd
                                                                                            (decide (Prod.snd (Prod.fst r_5) > Prod.snd (Prod.fst r_2)))
                                                                                            (I_3 true) (I_3 (Prod.fst r != (3 : Int)))))
                                                                                        (I_3 false)))))
                                                                                (cnd (x == (4 : Int))
                                                                                  (cnd (decide (Prod.fst (Prod.fst r_5) > Prod.fst (Prod.fst r_2)))
                                                                                    (I_3 true)
                                                                                    (cnd (decide (Prod.snd (Prod.fst r_5) > Prod.snd (Prod.fst r_2)))
                                                                                      (I_3 true)
                                                                                      (cnd (Prod.fst r == (1 : Int)) (I_3 true)
                                                                                        (cnd (x == (5 : Int))
                                                                                          (cnd
                                                                                            (decide (Prod.fst (Prod.fst r_5) < Prod.fst (Prod.fst r_2)))
                                                                                            (I_3 true)
                                                                                            (cnd
                                                                                              (decide
                                                                                                (Prod.snd (Prod.fst r_5) > Prod.snd (Prod.fst r_2)))
                                                                                              (I_3 true) (I_3 (Prod.fst r != (3 : Int)))))
                                                                                          (I_3 false)))))
                                                                                  (cnd (x == (5 : Int))
                                                                                    (cnd (decide (Prod.fst (Prod.fst r_5) < Prod.fst (Prod.fst r_2)))
                                                                                      (I_3 true)
                                                                                      (cnd (decide (Prod.snd (Prod.fst r_5) > Prod.snd (Prod.fst r_2)))
                                                                                        (I_3 true) (I_3 (Prod.fst r != (3 : Int)))))
                                                                                    (I_3 false)))))))
                                                                        (cnd (x == (3 : Int))
                                                                          (cnd (decide (Prod.fst (Prod.fst r_5) > Prod.fst (Prod.fst r_2))) (I_3 true)
                                                                            (cnd (decide (Prod.snd (Prod.fst r_5) > Prod.snd (Prod.fst r_2))) (I_3 true)
                                                                              (cnd (Prod.fst r == (1 : Int)) (I_3 true)
                                                                                (cnd (x == (5 : Int))
                                                                                  (cnd (decide (Prod.fst (Prod.fst r_5) < Prod.fst (Prod.fst r_2)))
                                                                                    (I_3 true)
                                                                                    (cnd (decide (Prod.snd (Prod.fst r_5) > Prod.snd (Prod.fst r_2)))
                                                                                      (I_3 true) (I_3 (Prod.fst r != (3 : Int)))))
                                                                                  (I_3 false)))))
                                                                          (cnd (x == (4 : Int))
                                                                            (cnd (decide (Prod.fst (Prod.fst r_5) > Prod.fst (Prod.fst r_2))) (I_3 true)
                                                                              (cnd (decide (Prod.snd (Prod.fst r_5) > Prod.snd (Prod.fst r_2)))
                                                                                (I_3 true)
                                                                                (cnd (Prod.fst r == (1 : Int)) (I_3 true)
                                                                                  (cnd (x == (5 : Int))
                                                                                    (cnd (decide (Prod.fst (Prod.fst r_5) < Prod.fst (Prod.fst r_2)))
                                                                                      (I_3 true)
                                                                                      (cnd (decide (Prod.snd (Prod.fst r_5) > Prod.snd (Prod.fst r_2)))
                                                                                        (I_3 true) (I_3 (Prod.fst r != (3 : Int)))))
                                                                                    (I_3 false)))))
                                                                            (cnd (x == (5 : Int))
                                                                              (cnd (decide (Prod.fst (Prod.fst r_5) < Prod.fst (Prod.fst r_2)))
                                                                                (I_3 true)
                                                                                (cnd (decide (Prod.snd (Prod.fst r_5) > Prod.snd (Prod.fst r_2)))
                                                                                  (I_3 true) (I_3 (Prod.fst r != (3 : Int)))))
                                                                              (I_3 false)))) ∧
                                                                      ∀ (x_3 : Bool),
                                                                        I_3 x_3 →
                                                                          cnd x_3 (Q false)
                                                                            (∃ (I_4 : Bool → Prop),
                                                                              cnd (Prod.fst r == (1 : Int))
                                                                                  (cnd (decide (Prod.fst (Prod.fst r_5) < Prod.snd (Prod.fst r_2)))
                                                                                    (I_4 true)
                                                                                    (cnd (Prod.fst r == (2 : Int))
                                                                                      (cnd (decide (Prod.fst (Prod.fst r_2) < Prod.snd (Prod.fst r_5)))
                                                                                        (I_4 true)
                                                                                        (cnd (Prod.fst r != (1 : Int))
                                                                                          (cnd (Prod.fst r != (2 : Int)) (I_4 (Prod.fst r != (3 : Int)))
                                                                                            (I_4 false))
                                                                                          (I_4 false)))
                                                                                      (cnd (Prod.fst r != (1 : Int))
                                                                                        (cnd (Prod.fst r != (2 : Int)) (I_4 (Prod.fst r != (3 : Int)))
                                                                                          (I_4 false))
                                                                                        (I_4 false))))
                                                                                  (cnd (Prod.fst r == (2 : Int))
                                                                                    (cnd (decide (Prod.fst (Prod.fst r_2) < Prod.snd (Prod.fst r_5)))
                                                                                      (I_4 true)
                                                                                      (cnd (Prod.fst r != (1 : Int))
                                                                                        (cnd (Prod.fst r != (2 : Int)) (I_4 (Prod.fst r != (3 : Int)))
                                                                                          (I_4 false))
                                                                                        (I_4 false)))
                                                                                    (cnd (Prod.fst r != (1 : Int))
                                                                                      (cnd (Prod.fst r != (2 : Int)) (I_4 (Prod.fst r != (3 : Int)))
                                                                                        (I_4 false))
                                                                                      (I_4 false))) ∧
                                                                                ∀ (x_4 : Bool),
                                                                                  I_4 x_4 →
                                                                                    cnd x_4 (Q false)
                                                                                      (I (IntKind.wrap IntKind.i64 (x + (1 : Int))) ∧
                                                                                        μ (IntKind.wrap IntKind.i64 (x + (1 : Int))) < μ x)))))))
                      (f10_wp () () fun (r : Bool) ↦ Q r))
theorem v9 (x : (Int × Int) × (Int × Int) × List (Int × Int × Int × Int)) (b : List Int) (v : Int × Int × Int × Int) (Q : Bool → Prop) : V9 x b v Q = vcFunc (S1 [(21, f21_ct), (26, f26_ct), (28, f28_ct), (27, f27_ct), (24, f24_ct), (38, f38_ct), (10, f10_ct)] [] [] []) f9_ct.own f9_ct.fresh f9_an Try.f9 (bodyOf Try.f9) f9_ct.A f9_ct.C f9_ct.R (x, b, v, ()) () Q := by kernel_rfl

end Go.Proofs.Rv
set_option linter.unusedVariables false
set_option maxRecDepth 100000
namespace Go.Proofs.Rv
open Go Go.GX Go.Proofs

theorem gen28z {g : Fan} {K : Span × Int × Unit → Prop} (hg : CheckOK g) (hk : ∀ z : Span × Int × Unit, z.1.1 = degF (lowT g) → z.1.2 = degF (highT g) → z.2.1 = 0 → K z) : f28_wp g () K :=
  gen28 hg (hk _ rfl rfl rfl)
theorem gen28e {g : Fan} {K : Span × Int × Unit → Prop} (hc : checkF g = 3) (hk : K ((0, 0), 3, ())) : f28_wp g () K := by
  show K (if checkF g = 0 then (opensF g, 0, ()) else ((0, 0), checkF g, ()))
  rw [hc, if_neg (by omega)]; exact hk
theorem p9 {x : Folded} {b : List Int} {v : Int × Int × Int × Int} {Q : Bool → Prop} (h : f9_wp (x, b, v, ()) () Q) : V9 x b v Q := by
  obtain ⟨⟨hx, hb, hv0, hv1, hv2, hv3⟩, h⟩ := h
  have hx : FoldOK x := hx
  have hb : ∀ y, y ∈ b → byteB y := hb
  have hv0 : 0 ≤ v.1 ∧ v.1 ≤ 255 := hv0
  have hv1 : 0 ≤ v.2.1 ∧ v.2.1 ≤ 255 := hv1
  have hv2 : 0 ≤ v.2.2.1 ∧ v.2.2.1 ≤ 255 := hv2
  have hv3 : 0 ≤ v.2.2.2 ∧ v.2.2.2 ≤ 255 := hv3
  have h : Q true := h
  have t1 : Int.tmod v.2.1 20 = v.2.1 % 20 := Int.tmod_eq_emod_of_nonneg hv1.1
  have t2 := Int.emod_nonneg v.2.1 (show (20 : Int) ≠ 0 by omega)
  have t3 := Int.emod_lt_of_pos v.2.1 (show (0 : Int) < 20 by omega)
  have t4 : Int.tdiv v.2.2.2 4 = v.2.2.2 / 4 := Int.tdiv_eq_ediv_of_nonneg hv3.1
  rw [V9, wrapS (x := v.1) (by omega) (by omega), wrapS (x := v.2.1) (by omega) (by omega), wrapS (x := v.2.2.1) (by omega) (by omega), wrapS (x := v.2.2.2) (by omega) (by omega), wrapS (x := v.2.2.1 + 3) (by omega) (by omega), wrapS (x := Int.tdiv v.2.2.2 4) (by omega) (by omega), wrapS (x := Int.tdiv v.2.2.2 4 + 2) (by omega) (by omega), wrapS (x := 1 + Int.tmod v.2.1 20) (by omega) (by omega)]
  obtain ⟨n, hn⟩ : ∃ n, n = 1 + Int.tmod v.2.1 20 := ⟨_, rfl⟩
  rw [← hn]
  have hn1 : 0 ≤ n ∧ n ≤ 20 := by omega
  refine gen21 hx fun f hf => ?_
  have sf : SmallFan f := by rw [hf]; exact fold_small hx
  have ho := sf.ok
  have hfn := sf.n
  refine gen11 (f := f) (by omega) (gen28z (g := f) ho fun s s1 s2 s3 => ?_)
  refine cnd_not (by rw [s3]; rfl) ?_
  refine forUpG (n := 6) (by omega) (fun _ => True) trivial (fun k hk _ I μ hI hw => ?_) (fun _ => h)
  have hI := hI trivial
  rw [← hw] at hI
  refine gen11 (f := f) (by omega) ⟨by omega, ?_⟩
  refine ⟨fun c => c = true ∨ ((k = 1 ∨ k = 2) → f.2.2.length ≠ 0), fun _ => ?_, ?_⟩
  · refine cnd_iff.2 ⟨fun c => cnd_iff.2 ⟨fun c2 => .inl rfl, fun c2 => ?_⟩, fun c => .inr fun _ => len0 c⟩
    have c2 : ¬ (k : Int) = 1 := by simpa using c2
    by_cases hk2 : (k : Int) = 2
    · exact .inl (by rw [hk2]; rfl)
    · exact .inr fun hh => by omega
  intro c hc
  refine cnd_iff.2 ⟨fun c1 => hI, fun c1 => ?_⟩
  have hne : (k = 1 ∨ k = 2) → f.2.2.length ≠ 0 := hc.resolve_left (by rw [c1]; simp)
  have hj : f.2.2.length ≠ 0 → ∃ j : Nat, Int.tmod v.1 (f.2.2.length : Int) = (j : Int) ∧ j < f.2.2.length := fun h0 => by
    have m1 : 0 ≤ Int.tmod v.1 (f.2.2.length : Int) ∧ Int.tmod v.1 (f.2.2.length : Int) < f.2.2.length := by
      rw [Int.tmod_eq_emod_of_nonneg hv0.1]
      exact ⟨Int.emod_nonneg _ (by omega), Int.emod_lt_of_pos _ (by omega)⟩
    exact ⟨(Int.tmod v.1 (f.2.2.length : Int)).toNat, by omega, by omega⟩
  have hfar := sf.far
  have hnear := sf.near
  have hfo := ho.far
  have hno := ho.near
  refine ⟨fun p => MadeP f k (p.1.1, p.1.2, p.2), ?_, ?_⟩
  · have : k = 0 ∨ k = 1 ∨ k = 2 ∨ k = 3 ∨ k = 4 ∨ k = 5 := by omega
    rcases this with rfl | rfl | rfl | rfl | rfl | rfl
    · refine cndT ⟨_, rfl, by omega, by omega, _, rfl, ?_, ?_⟩
      · simp only [List.length_cons, List.length_nil]; omega
      · exact made0 sf (g := ((v.2.2.1, v.2.2.1 + 3), (Int.tdiv v.2.2.2 4, Int.tdiv v.2.2.2 4 + 2))) (by dsimp only; omega)
    · obtain ⟨j, hj1, hj2⟩ := hj (hne (.inl rfl))
      have hg := sf.g _ (getD_mem (d := g0) hj2)
      refine cndF (cndT ?_)
      change _ → _ ∧ _
      rw [hj1]
      have w1 : IntKind.wrap .i64 ((f.2.2.getD (Int.toNat (j : Int)) g0).1.1 + n) = (f.2.2.getD j g0).1.1 + n := by rw [show Int.toNat (j : Int) = j from rfl]; exact wrapS (by omega) (by omega)
      have w2 : IntKind.wrap .i64 ((f.2.2.getD (Int.toNat (j : Int)) g0).1.2 + n) = (f.2.2.getD j g0).1.2 + n := by rw [show Int.toNat (j : Int) = j from rfl]; exact wrapS (by omega) (by omega)
      rw [w1, w2]
      exact fun _ => ⟨by omega, by omega, by omega, by omega, by omega, _, rfl, by omega, by omega, madeS sf (.inl rfl) hj2 (g := (((f.2.2.getD j g0).1.1 + n, (f.2.2.getD j g0).1.2 + n), (f.2.2.getD j g0).2)) (by dsimp only; omega) (by dsimp only; omega)⟩
    · obtain ⟨j, hj1, hj2⟩ := hj (hne (.inr rfl))
      have hg := sf.g _ (getD_mem (d := g0) hj2)
      refine cndF (cndF (cndT ?_))
      change _ → _ ∧ _
      rw [hj1]
      have w1 : IntKind.wrap .i64 ((f.2.2.getD (Int.toNat (j : Int)) g0).2.1 + n) = (f.2.2.getD j g0).2.1 + n := by rw [show Int.toNat (j : Int) = j from rfl]; exact wrapS (by omega) (by omega)
      have w2 : IntKind.wrap .i64 ((f.2.2.getD (Int.toNat (j : Int)) g0).2.2 + n) = (f.2.2.getD j g0).2.2 + n := by rw [show Int.toNat (j : Int) = j from rfl]; exact wrapS (by omega) (by omega)
      rw [w1, w2]
      exact fun _ => ⟨by omega, by omega, by omega, by omega, by omega, _, rfl, by omega, by omega, madeS sf (.inr rfl) hj2 (g := ((f.2.2.getD j g0).1, ((f.2.2.getD j g0).2.1 + n, (f.2.2.getD j g0).2.2 + n))) (by dsimp only; omega) (by dsimp only; omega)⟩
    · refine cndF (cndF (cndF (cndT ?_)))
      rw [wrapS (x := f.1.1 + n) (by omega) (by omega), wrapS (x := f.1.2 + n) (by omega) (by omega)]
      exact made3 sf hn1.1 hn1.2
    · refine cndF (cndF (cndF (cndF (cndT ?_))))
      rw [wrapS (x := f.2.1.1 + n) (by omega) (by omega), wrapS (x := f.2.1.2 + n) (by omega) (by omega)]
      exact made4 sf hn1.1 hn1.2
    · refine cndF (cndF (cndF (cndF (cndF (cndT ?_)))))
      exact ⟨⟨ho, hb⟩, made5 sf hb⟩
  intro p hp
  obtain ⟨g, rfl⟩ : ∃ g : Fan, p = ((g.1, g.2.1), g.2.2) := ⟨(p.1.1, p.1.2, p.2), rfl⟩
  have hp : MadeP f k g := hp
  rcases hp with hp | ⟨rfl, hc, hle, hl⟩
  rotate_left
  · refine gen11 (f := g) (by omega) (gen28e (g := g) hc ?_)
    refine ⟨g, ⟨by show g.2.2.length ≤ 1000000; omega, rfl⟩, f, ⟨by show f.2.2.length ≤ 1000000; omega, rfl⟩, (0, 3, ()), ?_, ?_⟩
    · show (if checkF g ≠ 0 then ((0, checkF g, ()) : Int × Int × Unit) else if checkF f ≠ 0 then (0, checkF f, ()) else (moreF g f, 0, ())) = (0, 3, ())
      rw [hc]; rfl
    · exact cndT (cndT (cndT (cndT (cnd_of (decide_eq_true hle) hI))))
  have hgo := hp.ok
  have hgl := hgo.n
  refine gen11 (f := g) (by omega) (gen28z (g := g) hgo fun z z1 z2 z3 => ?_)
  obtain ⟨w, hw0⟩ : ∃ w : Int × Int × Unit, w = (moreF g f, 0, ()) := ⟨_, rfl⟩
  refine ⟨g, ⟨by show g.2.2.length ≤ 1000000; omega, rfl⟩, f, ⟨by show f.2.2.length ≤ 1000000; omega, rfl⟩, w, ?_, ?_⟩
  · show (if checkF g ≠ 0 then ((0, checkF g, ()) : Int × Int × Unit) else if checkF f ≠ 0 then (0, checkF f, ()) else (moreF g f, 0, ())) = w
    rw [if_neg (by rw [checkF_ok.2 hgo]; omega), if_neg (by rw [checkF_ok.2 ho]; omega), hw0]
  have w1 : w.1 = moreF g f := by rw [hw0]
  have w2 : w.2.1 = 0 := by rw [hw0]
  clear hw0
  have tf := hgo.fan
  have ff := ho.fan
  have lg := lowT_ok tf
  have hgT := highT_ok tf
  have lf := lowT_ok ff
  have hfT := highT_ok ff
  have d1 := low_den hgo
  have d2 := high_den hgo
  have d3 := low_den ho
  have d4 := high_den ho
  have lhg := low_high hgo
  have lhf := low_high ho
  have ord : z.1.1 ≤ z.1.2 := by rw [z1, z2]; exact deg_le lg hgT lhg
  have hm := more_spec hgo ho
  rw [← w1] at hm
  have hm2 : (w.1 = 1 ∧ s.1.2 ≤ z.1.1) ∨ (w.1 = 2 ∧ z.1.2 ≤ s.1.1) ∨ w.1 = 3 := by
    rcases hm with ⟨e, hn⟩ | ⟨e, hn⟩ | e
    · refine .inl ⟨e, ?_⟩
      rw [s2, z1]; exact deg_le hfT lg (leR_total.resolve_left hn)
    · refine .inr (.inl ⟨e, ?_⟩)
      rw [s1, z2]; exact deg_le hgT lf (leR_total.resolve_left hn)
    · exact .inr (.inr e)
  refine cnd_not (by rw [z3]; rfl) (cnd_not (by rw [w2]; rfl) (cnd_not (decide_eq_false (by omega)) ?_))
  refine ⟨fun c => c = false, ?_, ?_⟩
  · have up : k < 3 → decide (z.1.1 < s.1.1) = false ∧ decide (z.1.2 < s.1.2) = false ∧ (w.1 == 2) = false := fun hk3 => by
      obtain ⟨u1, u2⟩ := hp.up hk3
      refine ⟨decide_eq_false ?_, decide_eq_false ?_, beq_eq_false_iff_ne.2 fun e => ?_⟩
      · have := deg_le lf lg u1
        rw [s1, z1]; omega
      · have := deg_le hfT hgT u2
        rw [s2, z2]; omega
      · rcases hm with ⟨e2, hn⟩ | ⟨e2, hn⟩ | e2
        · rw [e] at e2; cases e2
        · exact hn (leR_trans d3 d1 d2 u1 lhg)
        · rw [e] at e2; cases e2
    have down : k = 3 ∨ k = 4 → decide (z.1.1 > s.1.1) = false ∧ decide (z.1.2 > s.1.2) = false ∧ (w.1 == 1) = false := fun hk3 => by
      obtain ⟨u1, u2⟩ := hp.down hk3
      refine ⟨decide_eq_false ?_, decide_eq_false ?_, beq_eq_false_iff_ne.2 fun e => ?_⟩
      · have := deg_le lg lf u1
        rw [s1, z1]; omega
      · have := deg_le hgT hfT u2
        rw [s2, z2]; omega
      · rcases hm with ⟨e2, hn⟩ | ⟨e2, hn⟩ | e2
        · exact hn (leR_trans d1 d3 d4 u1 lhf)
        · rw [e] at e2; cases e2
        · rw [e] at e2; cases e2
    have mid : k = 5 → decide (z.1.1 < s.1.1) = false ∧ decide (z.1.2 > s.1.2) = false ∧ (w.1 != 3) = false := fun hk3 => by
      obtain ⟨u1, u2⟩ := hp.mid hk3
      refine ⟨decide_eq_false ?_, decide_eq_false ?_, ?_⟩
      · have := deg_le lf lg u1
        rw [s1, z1]; omega
      · have := deg_le hgT hfT u2
        rw [s2, z2]; omega
      · rcases hm with ⟨e2, hn⟩ | ⟨e2, hn⟩ | e2
        · exact absurd (leR_trans d1 d2 d4 lhg u2) hn
        · exact absurd (leR_trans d3 d1 d2 u1 lhg) hn
        · rw [e2]; rfl
    clear hm hm2 z1 z2 s1 s2 w1
    have : k = 0 ∨ k = 1 ∨ k = 2 ∨ k = 3 ∨ k = 4 ∨ k = 5 := by omega
    rcases this with rfl | rfl | rfl | rfl | rfl | rfl
    · obtain ⟨a1, a2, a3⟩ := up (by omega)
      exact cndT (cnd_not a1 (cnd_not a2 (cnd_not a3 (cndF (cndF (cndF rfl))))))
    · obtain ⟨a1, a2, a3⟩ := up (by omega)
      exact cndT (cnd_not a1 (cnd_not a2 (cnd_not a3 (cndF (cndF (cndF rfl))))))
    · obtain ⟨a1, a2, a3⟩ := up (by omega)
      exact cndT (cnd_not a1 (cnd_not a2 (cnd_not a3 (cndF (cndF (cndF rfl))))))
    · obtain ⟨a1, a2, a3⟩ := down (.inl rfl)
      exact cndF (cndT (cnd_not a1 (cnd_not a2 (cnd_not a3 (cndF rfl)))))
    · obtain ⟨a1, a2, a3⟩ := down (.inr rfl)
      exact cndF (cndF (cndT (cnd_not a1 (cnd_not a2 (cnd_not a3 (cndF rfl))))))
    · obtain ⟨a1, a2, a3⟩ := mid rfl
      exact cndF (cndF (cndF (cndT (cnd_not a1 (cnd_not a2 a3)))))
  rintro _ rfl
  refine cndF ⟨fun c => c = false, ?_, ?_⟩
  · rcases hm2 with ⟨e, hle⟩ | ⟨e, hle⟩ | e
    · rw [e]
      exact cndT (cnd_not (decide_eq_false (by omega)) (cndF (cndF rfl)))
    · rw [e]
      exact cndF (cndT (cnd_not (decide_eq_false (by omega)) (cndT (cndF rfl))))
    · rw [e]
      exact cndF (cndF (cndT (cndT rfl)))
  · rintro _ rfl
    exact cndF hI
end Go.Proofs.Rv
set_option maxRecDepth 100000
set_option maxHeartbeats 2000000
namespace Go.Proofs.Rv
open Go Go.GX Go.Proofs
variable [Inhabited BaseD]
theorem ok9 : CallsOK Try.prog (assoc glT) 9 f9_ct :=
  callsOK_E (env (ct := [(21, f21_ct), (26, f26_ct), (28, f28_ct), (27, f27_ct), (24, f24_ct), (38, f38_ct), (10, f10_ct)]) (ios := []) (hos := []) (lits := []) (AllOK.cons ok21 (AllOK.cons ok26 (AllOK.cons ok28 (AllOK.cons ok27 (AllOK.cons ok24 (AllOK.cons ok38 (AllOK.cons ok10 AllOK.nil))))))) AllW.nil AllH.nil) f9_an Try.func9 (by kernel_rfl) (by kernel_rfl) f9_ct fun ⟨x, b, v, _⟩ _ Q h => (v9 x b v Q).mp (p9 h)
end Go.Proofs.Rv
