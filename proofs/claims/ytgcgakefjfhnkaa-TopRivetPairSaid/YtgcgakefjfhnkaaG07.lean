/- Part 7 of the texts behind the proof: RtV6, RtP4, RtO2, RtO3, RtP8, RtP9, RtO4. -/
import Derived.Test.YtgcgakefjfhnkaaG06
import Derived.Test.YtgcgakefjfhnkaaProg
set_option linter.unusedSimpArgs false
set_option linter.unusedVariables false
set_option linter.unusedSectionVars false
set_option linter.unusedVariables false
set_option maxRecDepth 100000
namespace Go.Proofs.Rt
open Go Go.GX Go.Proofs

def V27 (Q : Bool → Prop) : Prop :=
  ∃ (r : Int × List Int),
    (f24_wp ((100 : Int), (20 : Int) :: ([] : List Int), ()) () fun (r' : Int × List Int) ↦ r' = r) ∧
      ∃ (r_1 : Int × List Int),
        (f24_wp ((103 : Int), (22 : Int) :: ([] : List Int), ()) () fun (r' : Int × List Int) ↦ r' = r_1) ∧
          ∃ (r_2 : Bool × Bool × Int × Unit),
            (f23_wp ((Prod.fst r, Prod.snd r), (Prod.fst r_1, Prod.snd r_1), ((1 : Int), (0 : Int), (5 : Int), (4 : Int)), ()) ()
                fun (r' : Bool × Bool × Int × Unit) ↦ r' = r_2) ∧
              ∃ (r : Int × List Int),
                (f24_wp ((100 : Int), (20 : Int) :: ([] : List Int), ()) () fun (r' : Int × List Int) ↦ r' = r) ∧
                  ∃ (r_3 : Int × List Int),
                    (f24_wp ((104 : Int), (24 : Int) :: ([] : List Int), ()) () fun (r' : Int × List Int) ↦ r' = r_3) ∧
                      ∃ (r_4 : Bool × Bool × Int × Unit),
                        (f23_wp ((Prod.fst r, Prod.snd r), (Prod.fst r_3, Prod.snd r_3), ((1 : Int), (0 : Int), (5 : Int), (4 : Int)), ()) ()
                            fun (r' : Bool × Bool × Int × Unit) ↦ r' = r_4) ∧
                          cnd (Prod.fst (Prod.snd (Prod.snd r_2)) == (0 : Int))
                            (cnd (Prod.fst (Prod.snd (Prod.snd r_4)) == (0 : Int))
                              (cnd (Prod.fst r_2)
                                (cnd (Prod.fst (Prod.snd r_2)) (cnd (!Prod.fst r_4) (Q (Prod.fst (Prod.snd r_4))) (Q false)) (Q false)) (Q false))
                              (Q false))
                            (Q false)
theorem v27 (Q : Bool → Prop) : V27 Q = vcFunc (S1 [(24, f24_ct), (23, f23_ct)] [] [] []) f27_ct.own f27_ct.fresh no_an Try.f27 (bodyOf Try.f27) f27_ct.A f27_ct.C f27_ct.R () () Q := by kernel_rfl

def V7 (a : Int) (b : Int) (s : Int) (u : Int) (pl : Int) (Q : Bool → Prop) : Prop :=
  ∃ (r : Int × List Int),
    (f24_wp (a, (5 : Int) :: ([] : List Int), ()) () fun (r' : Int × List Int) ↦ r' = r) ∧
      ∃ (r_1 : Int × List Int),
        (f24_wp (b, (5 : Int) :: ([] : List Int), ()) () fun (r' : Int × List Int) ↦ r' = r_1) ∧
          ∃ (r_2 : Bool × Bool × Int × Unit),
            (f23_wp ((Prod.fst r, Prod.snd r), (Prod.fst r_1, Prod.snd r_1), (s, (0 : Int), u, (0 : Int)), ()) () fun (r' : Bool × Bool × Int × Unit) ↦
                r' = r_2) ∧
              f9_wp (IntKind.wrap IntKind.i64 (a - s), IntKind.wrap IntKind.i64 (a + s), ()) () fun (r : Int × Int) ↦
                f9_wp ((3 : Int), (4 : Int), ()) () fun (r_3 : Int × Int) ↦
                  f9_wp (IntKind.wrap IntKind.i64 (b - s), IntKind.wrap IntKind.i64 (b + s), ()) () fun (r_4 : Int × Int) ↦
                    f9_wp ((3 : Int), (4 : Int), ()) () fun (r_5 : Int × Int) ↦
                      f25_wp
                        (((Prod.fst r, Prod.snd r), (Prod.fst r_3, Prod.snd r_3), (0 : Int)) ::
                          ((Prod.fst r_4, Prod.snd r_4), (Prod.fst r_5, Prod.snd r_5), pl) :: ([] : List ((Int × Int) × (Int × Int) × Int)))
                        () fun (r_6 : (Int × Int) × (Int × Int) × Int × Unit) ↦
                        f26_wp
                          (((Prod.fst r, Prod.snd r), (Prod.fst r_3, Prod.snd r_3), (0 : Int)) ::
                            ((Prod.fst r_4, Prod.snd r_4), (Prod.fst r_5, Prod.snd r_5), pl) :: ([] : List ((Int × Int) × (Int × Int) × Int)))
                          () fun (r_7 : (Int × Int) × (Int × Int) × Int × Unit) ↦
                          f26_wp
                            (((Prod.fst r, Prod.snd r), (Prod.fst r_3, Prod.snd r_3), pl) ::
                              ((Prod.fst r_4, Prod.snd r_4), (Prod.fst r_5, Prod.snd r_5), pl) :: ([] : List ((Int × Int) × (Int × Int) × Int)))
                            () fun (r : (Int × Int) × (Int × Int) × Int × Unit) ↦
                            cnd (Prod.fst (Prod.snd (Prod.snd r_2)) != (0 : Int)) (Q false)
                              (cnd (Prod.fst (Prod.snd (Prod.snd r_6)) != (0 : Int)) (Q false)
                                (cnd (Prod.fst (Prod.snd (Prod.snd r_7)) != (0 : Int)) (Q false)
                                  (cnd (Prod.fst (Prod.snd (Prod.snd r)) != (0 : Int)) (Q false)
                                    (∃ (r_8 : Int × Int),
                                      (f9_wp
                                          (IntKind.wrap IntKind.i64 (IntKind.wrap IntKind.i64 (a + b) - IntKind.wrap IntKind.i64 ((2 : Int) * s)),
                                            IntKind.wrap IntKind.i64 (IntKind.wrap IntKind.i64 (a + b) + IntKind.wrap IntKind.i64 ((2 : Int) * s)), ())
                                          () fun (r' : Int × Int) ↦ r' = r_8) ∧
                                        cnd (!(Prod.fst (Prod.fst r_6) == Prod.fst r_8 && (Prod.snd (Prod.fst r_6) == Prod.snd r_8 && true))) (Q false)
                                          (∃ (r_9 : Int × Int),
                                            (f9_wp ((6 : Int), (8 : Int), ()) () fun (r' : Int × Int) ↦ r' = r_9) ∧
                                              cnd
                                                (!(Prod.fst (Prod.fst (Prod.snd r_6)) == Prod.fst r_9 &&
                                                    (Prod.snd (Prod.fst (Prod.snd r_6)) == Prod.snd r_9 && true)))
                                                (Q false)
                                                (cnd (!(Prod.fst (Prod.fst r) == pl && (Prod.snd (Prod.fst r) == (1 : Int) && true))) (Q false)
                                                  (cnd
                                                    (!(Prod.fst (Prod.fst (Prod.snd r)) == Prod.fst (Prod.fst r) &&
                                                        (Prod.snd (Prod.fst (Prod.snd r)) == Prod.snd (Prod.fst r) && true)))
                                                    (Q false)
                                                    (∃ (I : Int → Prop),
                                                      ∃ (μ : Int → Nat),
                                                        I (0 : Int) ∧
                                                          ∀ (x : Int),
                                                            I x →
                                                              ∃ (I_1 : Bool → Prop),
                                                                cnd (decide (x < (2 : Int))) (I_1 (Prod.fst r_2)) (I_1 false) ∧
                                                                  ∀ (x_1 : Bool),
                                                                    I_1 x_1 →
                                                                      cnd x_1
                                                                        ((0 : Int) ≤ x ∧
                                                                          x < (↑(2 : Nat) : Int) ∧
                                                                            cnd (decide (x = (↑(0 : Nat) : Int)))
                                                                              (cnd (decide (Prod.snd (Prod.fst r_7) < (1 : Int))) (Q false)
                                                                                (cnd (decide (Prod.snd (Prod.fst r_7) > Prod.snd (Prod.fst r_6)))
                                                                                  (Q false)
                                                                                  (cnd (decide (Prod.fst (Prod.fst r_7) < (0 : Int))) (Q false)
                                                                                    (cnd
                                                                                      (decide
                                                                                        (Prod.fst (Prod.fst r_7) >
                                                                                          IntKind.wrap IntKind.i64 (pl * Prod.snd (Prod.fst r_7))))
                                                                                      (Q false)
                                                                                      (cnd
                                                                                        (decide
                                                                                          (IntKind.wrap IntKind.i64
                                                                                              (mxI
                                                                                                  (IntKind.wrap IntKind.i64
                                                                                                    (IntKind.wrap IntKind.i64
                                                                                                        ((2 : Int) * Prod.fst (Prod.fst r_7)) -
                                                                                                      IntKind.wrap IntKind.i64
                                                                                                        (pl * Prod.snd (Prod.fst r_7))))
                                                                                                  (IntKind.wrap IntKind.i64
                                                                                                    (IntKind.wrap IntKind.i64
                                                                                                        (pl * Prod.snd (Prod.fst r_7)) -
                                                                                                      IntKind.wrap IntKind.i64
                                                                                                        ((2 : Int) * Prod.fst (Prod.fst r_7)))) *
                                                                                                Prod.fst (Prod.fst r_6)) >
                                                                                            IntKind.wrap IntKind.i64
                                                                                              (IntKind.wrap IntKind.i64 (pl * u) *
                                                                                                Prod.snd (Prod.fst r_7))))
                                                                                        (Q false)
                                                                                        (I (IntKind.wrap IntKind.i64 (x + (1 : Int))) ∧
                                                                                          μ (IntKind.wrap IntKind.i64 (x + (1 : Int))) < μ x))))))
                                                                              (cnd (decide (x = (↑((0 : Nat) + (1 : Nat)) : Int)))
                                                                                (cnd (decide (Prod.snd (Prod.fst (Prod.snd r_7)) < (1 : Int))) (Q false)
                                                                                  (cnd
                                                                                    (decide
                                                                                      (Prod.snd (Prod.fst (Prod.snd r_7)) > Prod.snd (Prod.fst r_6)))
                                                                                    (Q false)
                                                                                    (cnd (decide (Prod.fst (Prod.fst (Prod.snd r_7)) < (0 : Int)))
                                                                                      (Q false)
                                                                                      (cnd
                                                                                        (decide
                                                                                          (Prod.fst (Prod.fst (Prod.snd r_7)) >
                                                                                            IntKind.wrap IntKind.i64
                                                                                              (pl * Prod.snd (Prod.fst (Prod.snd r_7)))))
                                                                                        (Q false)
                                                                                        (cnd
                                                                                          (decide
                                                                                            (IntKind.wrap IntKind.i64
                                                                                                (mxI
                                                                                                    (IntKind.wrap IntKind.i64
                                                                                                      (IntKind.wrap IntKind.i64
                                                                                                          ((2 : Int) *
                                                                                                            Prod.fst (Prod.fst (Prod.snd r_7))) -
                                                                                                        IntKind.wrap IntKind.i64
                                                                                                          (pl * Prod.snd (Prod.fst (Prod.snd r_7)))))
                                                                                                    (IntKind.wrap IntKind.i64
                                                                                                      (IntKind.wrap IntKind.i64
                                                                                                          (pl * Prod.snd (Prod.fst (Prod.snd r_7))) -
                                                                                                        IntKind.wrap IntKind.i64
                                                                                                          ((2 : Int) *
                                                                                                            Prod.fst (Prod.fst (Prod.snd r_7))))) *
                                                                                                  Prod.fst (Prod.fst r_6)) >
                                                                                              IntKind.wrap IntKind.i64
                                                                                                (IntKind.wrap IntKind.i64 (pl * u) *
                                                                                                  Prod.snd (Prod.fst (Prod.snd r_7)))))
                                                                                          (Q false)
                                                                                          (I (IntKind.wrap IntKind.i64 (x + (1 : Int))) ∧
                                                                                            μ (IntKind.wrap IntKind.i64 (x + (1 : Int))) < μ x))))))
                                                                                False))
                                                                        (cnd
                                                                          (Prod.fst r_2 ==
                                                                            decide
                                                                              (IntKind.wrap IntKind.i64
                                                                                  (mxI (IntKind.wrap IntKind.i64 (a - b))
                                                                                      (IntKind.wrap IntKind.i64 (b - a)) +
                                                                                    IntKind.wrap IntKind.i64 ((2 : Int) * s)) ≤
                                                                                u))
                                                                          (f27_wp () () fun (r : Bool) ↦ Q r) (Q false))))))))))
theorem v7 (a : Int) (b : Int) (s : Int) (u : Int) (pl : Int) (Q : Bool → Prop) : V7 a b s u pl Q = vcFunc (S1 [(24, f24_ct), (23, f23_ct), (9, f9_ct), (25, f25_ct), (26, f26_ct), (27, f27_ct)] [] [] []) f7_ct.own f7_ct.fresh f7_an Try.f7 (bodyOf Try.f7) f7_ct.A f7_ct.C f7_ct.R (a, b, s, u, pl, ()) () Q := by kernel_rfl

def V3 (v : Int × Int × Int × Int) (pl : Int) (Q : Bool → Prop) : Prop :=
  (64 : Int) ≠ (0 : Int) ∧
    (64 : Int) ≠ (0 : Int) ∧
      (8 : Int) ≠ (0 : Int) ∧
        f7_wp
          (IntKind.wrap IntKind.i64 ((1000 : Int) + Int.tmod (IntKind.wrap IntKind.i64 (Prod.fst v)) (64 : Int)),
            IntKind.wrap IntKind.i64 ((1000 : Int) + Int.tmod (IntKind.wrap IntKind.i64 (Prod.fst (Prod.snd v))) (64 : Int)),
            Int.tmod (IntKind.wrap IntKind.i64 (Prod.fst (Prod.snd (Prod.snd v)))) (8 : Int),
            IntKind.wrap IntKind.i64 (Prod.snd (Prod.snd (Prod.snd v))), IntKind.wrap IntKind.i64 ((2 : Int) * IntKind.wrap IntKind.i64 pl), ())
          () fun (r : Bool) ↦ Q r
theorem v3 (v : Int × Int × Int × Int) (pl : Int) (Q : Bool → Prop) : V3 v pl Q = vcFunc (S1 [(7, f7_ct)] [] [] []) f3_ct.own f3_ct.fresh no_an Try.f3 (bodyOf Try.f3) f3_ct.A f3_ct.C f3_ct.R (v, pl, ()) () Q := by kernel_rfl

end Go.Proofs.Rt
set_option linter.unusedVariables false
set_option maxRecDepth 100000
namespace Go.Proofs.Rt
open Go Go.GX Go.Proofs

theorem mxI_max' (a b : Int) : mxI a b = max a b := by unfold mxI; omega
theorem cnd_of {c : Bool} {p q : Prop} (hc : c = true) (h : p) : cnd c p q := by rw [hc]; exact h
theorem cnd_not {c : Bool} {p q : Prop} (hc : c = false) (h : q) : cnd c p q := by rw [hc]; exact h
theorem p9 {a b : Int} {Q : Span → Prop} (h : f9_wp (a, b, ()) () Q) : V9 a b Q := h
theorem p24 {w : Int} {c : List Int} {Q : Guard → Prop} (h : f24_wp (w, c, ()) () Q) : V24 w c Q := by
  obtain ⟨h1, h⟩ := h
  have h1 : c.length ≤ 1000000 := h1
  refine ⟨by simp only [List.length_nil]; omega, ?_⟩
  rw [List.nil_append]; exact h
theorem p78 {a b : Int} {Q : Int → Prop} (h : f78_wp (a, b, ()) () Q) : V78 a b Q := by
  obtain ⟨⟨h1, h2⟩, h⟩ := h
  unfold inR at h1 h2
  rw [V78, wrapS (x := a - b) (by dsimp only at *; omega) (by dsimp only at *; omega), wrapS (x := b - a) (by dsimp only at *; omega) (by dsimp only at *; omega), mxI_max']
  exact h
theorem p109 {n lo hi : Int} {Q : Bool → Prop} (h : f109_wp n (lo, hi, ()) Q) : V109 n lo hi Q := by
  have h : Q (!inB lo hi n) := h
  refine cnd_iff.2 ⟨fun c => ?_, fun c => ?_⟩
  · have c := of_decide_eq_true c
    have : (!inB lo hi n) = true := by simp only [inB, Bool.not_eq_true', Bool.and_eq_false_iff, decide_eq_false_iff_not]; omega
    rw [this] at h; exact h
  · have c := of_decide_eq_false c
    have : (!inB lo hi n) = decide (n > hi) := by
      rw [Bool.eq_iff_iff]
      simp only [inB, Bool.not_eq_true', Bool.and_eq_false_iff, decide_eq_false_iff_not, decide_eq_true_eq]; omega
    rw [this] at h; exact h
theorem any_not2 {α : Type} (p : α → Bool) (xs : List α) : (!(xs.any fun x => !p x)) = xs.all p := by
  induction xs with
  | nil => rfl
  | cons x r ih => rw [List.any_cons, List.all_cons, ← ih, Bool.not_or, Bool.not_not]
theorem p75 {lo hi : Int} {xs : List Int} {Q : Bool → Prop} (h : f75_wp (lo, hi, xs, ()) () Q) : V75 lo hi xs Q := by
  have h : Q (xs.all (inB lo hi)) := h
  refine ⟨fun n => !inB lo hi n, fun x _ R hR => hR, ?_⟩
  show Q (!(xs.any fun n => !inB lo hi n))
  rw [any_not2]; exact h
theorem p110 {xs : List Guard} {f : Guard → (Bool → Prop) → Prop} {Q : Int → Prop} (h : f110_wp (xs, f, ()) () Q) : V110 xs f Q := by
  obtain ⟨p, hs, h⟩ := h
  exact idx_loop hs h
theorem p77 {xs : List Guard} {f : Guard → (Bool → Prop) → Prop} {Q : Bool → Prop} (h : f77_wp (xs, f, ()) () Q) : V77 xs f Q := by
  obtain ⟨p, hs, h⟩ := h
  refine ⟨p, hs, ?_⟩
  show Q (decide (idxF p xs ≥ 0))
  rw [idxF_ge]; exact h
theorem p74 {x : Guard} {l : List Guard} {Q : Bool → Prop} (h : f74_wp x (l, ()) Q) : V74 x l Q := by
  obtain ⟨hl, h⟩ := h
  have hl : 0 < l.length := hl
  have h : Q (!inB 1 4 x.2.length || ((x.2.length : Int) != ((l.getD 0 gd0).2.length : Int))) := h
  refine ⟨inB 1 4 x.2.length, ?_, cnd_iff.2 ⟨fun c => ?_, fun c => ⟨Int.le_refl _, by omega, ?_⟩⟩⟩
  · show [(x.2.length : Int)].all (inB 1 4) = inB 1 4 x.2.length
    simp
  · rw [c] at h; exact h
  · rw [c] at h; exact h
theorem p76 {x : Guard} {Q : Bool → Prop} (h : f76_wp x () Q) : V76 x Q := by
  have h : Q (!inB 1 10000 x.1 || !x.2.all (inB 0 500)) := h
  show cnd (!([x.1].all (inB 1 10000))) (Q true) (Q (!(x.2.all (inB 0 500))))
  have e : [x.1].all (inB 1 10000) = inB 1 10000 x.1 := by simp
  rw [e]
  refine cnd_iff.2 ⟨fun c => ?_, fun c => ?_⟩
  · rw [c] at h; exact h
  · rw [c] at h; exact h
theorem p45 {g : Gauge} {l : List Guard} {Q : Int → Prop} (h : f45_wp (g, l, ()) () Q) : V45 g l Q := by
  obtain ⟨⟨h1, h2, h3, h4⟩, h⟩ := h
  have h1 : 0 < l.length := h1
  have h2 : l.any (otherF l) = false := h2
  have h3 : l.any noneF = false := h3
  have h4 : (inB 0 100 g.1 && inB 0 100 g.2.1 && inB 0 10000 g.2.2.1 && inB 0 500 g.2.2.2) = true := h4
  simp only [Bool.and_eq_true] at h4
  obtain ⟨⟨⟨k1, k2⟩, k3⟩, k4⟩ := h4
  refine ⟨otherF l, fun x _ R hR => ⟨h1, hR⟩, cnd_not h2 ⟨noneF, fun x _ R hR => hR, cnd_not h3 ?_⟩⟩
  show cnd (!([g.1, g.2.1].all (inB 0 100))) _ (cnd (!([g.2.2.1].all (inB 0 10000))) _ (cnd (!([g.2.2.2].all (inB 0 500))) _ _))
  have e1 : (!([g.1, g.2.1].all (inB 0 100))) = false := by simp [k1, k2]
  have e2 : (!([g.2.2.1].all (inB 0 10000))) = false := by simp [k3]
  have e3 : (!([g.2.2.2].all (inB 0 500))) = false := by simp [k4]
  exact cnd_not e1 (cnd_not e2 (cnd_not e3 h))
theorem none_rng {x : Guard} (h : noneF x = false) : inR 1 10000 x.1 ∧ ∀ c, c ∈ x.2 → inR 0 500 c := by
  unfold noneF at h
  rw [Bool.or_eq_false_iff, Bool.not_eq_false', Bool.not_eq_false'] at h
  refine ⟨by have := h.1; simp only [inB, Bool.and_eq_true, decide_eq_true_eq] at this; exact this, fun c hc => ?_⟩
  have := List.all_eq_true.1 h.2 c hc
  simp only [inB, Bool.and_eq_true, decide_eq_true_eq] at this
  exact this
theorem far_rng {a b m : Int} (ha : inR 0 m a) (hb : inR 0 m b) : 0 ≤ farF a b ∧ farF a b ≤ m := by
  unfold inR at ha hb
  unfold farF
  omega
theorem p46 {g : Gauge} {a b : Guard} {t : Int} {Q : Bool → Prop} (h : f46_wp (g, a, b, t, ()) () Q) : V46 g a b t Q := by
  obtain ⟨⟨h4, ha, hb, hl, ht1, ht2⟩, h⟩ := h
  have h4 : (inB 0 100 g.1 && inB 0 100 g.2.1 && inB 0 10000 g.2.2.1 && inB 0 500 g.2.2.2) = true := h4
  have ha : noneF a = false := ha
  have hb : noneF b = false := hb
  have hl : a.2.length = b.2.length := hl
  have ht1 : -2 ≤ t := ht1
  have ht2 : t ≤ 2 := ht2
  have h : Q (alikeF a b g t) := h
  simp only [Bool.and_eq_true, inB, decide_eq_true_eq] at h4
  obtain ⟨⟨⟨k1, k2⟩, k3⟩, k4⟩ := h4
  obtain ⟨a1, a2⟩ := none_rng ha
  obtain ⟨b1, b2⟩ := none_rng hb
  unfold inR at a1 b1
  have f1 := far_rng (m := 10000) (a := a.1) (b := b.1) ⟨by omega, by omega⟩ ⟨by omega, by omega⟩
  have tt : t = -2 ∨ t = -1 ∨ t = 0 ∨ t = 1 ∨ t = 2 := by omega
  have m1 : -200 ≤ t * g.1 ∧ t * g.1 ≤ 200 := by rcases tt with rfl | rfl | rfl | rfl | rfl <;> omega
  have m2 : -200 ≤ t * g.2.1 ∧ t * g.2.1 ≤ 200 := by rcases tt with rfl | rfl | rfl | rfl | rfl <;> omega
  unfold alikeF at h
  refine ⟨_, ⟨⟨by show inR 0 1000000 a.1; unfold inR; omega, by show inR 0 1000000 b.1; unfold inR; omega⟩, rfl⟩, ?_⟩
  change cnd (decide (IntKind.wrap .i64 (farF a.1 b.1 + IntKind.wrap .i64 (t * g.1)) > g.2.2.1)) _ _
  rw [wrapS (x := t * g.1) (by omega) (by omega), wrapS (x := farF a.1 b.1 + t * g.1) (by omega) (by omega), wrapS (x := t * g.2.1) (by omega) (by omega)]
  refine cnd_iff.2 ⟨fun c => ?_, fun c hl2 => ?_⟩
  · have c := of_decide_eq_true c
    rw [decide_eq_false (by omega : ¬ farF a.1 b.1 + t * g.1 ≤ g.2.2.1), Bool.false_and] at h; exact h
  have c := of_decide_eq_false c
  rw [decide_eq_true (by omega : farF a.1 b.1 + t * g.1 ≤ g.2.2.1), Bool.true_and] at h
  refine forUpG hl2 (fun k => ∀ j, j < k → farF (a.2.getD j 0) (b.2.getD j 0) + t * g.2.1 ≤ g.2.2.2) (fun j hj => absurd hj (Nat.not_lt_zero _)) (fun k hk hg I μ hI hw => ?_) (fun hg => ?_)
  · have f2 := far_rng (m := 500) (a2 _ (getD_mem (d := 0) hk)) (b2 _ (getD_mem (d := 0) (show k < b.2.length by omega)))
    have r1 := a2 _ (getD_mem (d := 0) hk)
    have r2 := b2 _ (getD_mem (d := 0) (show k < b.2.length by omega))
    unfold inR at r1 r2
    refine ⟨by omega, by omega, by omega, by omega, _, ⟨⟨by show inR 0 1000000 (a.2.getD k 0); unfold inR; omega, by show inR 0 1000000 (b.2.getD k 0); unfold inR; omega⟩, rfl⟩, ?_⟩
    change cnd (decide (IntKind.wrap .i64 (farF (a.2.getD k 0) (b.2.getD k 0) + t * g.2.1) > g.2.2.2)) _ _
    rw [wrapS (x := farF (a.2.getD k 0) (b.2.getD k 0) + t * g.2.1) (by omega) (by omega), hw]
    refine cnd_iff.2 ⟨fun c2 => ?_, fun c2 => hI fun j hj => ?_⟩
    · have c2 := of_decide_eq_true c2
      have : ((List.range a.2.length).all fun i => decide (farF (a.2.getD i 0) (b.2.getD i 0) + t * g.2.1 ≤ g.2.2.2)) = false := by
        cases hh : ((List.range a.2.length).all fun i => decide (farF (a.2.getD i 0) (b.2.getD i 0) + t * g.2.1 ≤ g.2.2.2)) with
        | false => rfl
        | true =>
          have := of_decide_eq_true (List.all_eq_true.1 hh k (List.mem_range.2 hk))
          omega
      rw [this] at h; exact h
    · have c2 := of_decide_eq_false c2
      rcases Nat.lt_succ_iff_lt_or_eq.1 hj with h5 | rfl
      · exact hg j h5
      · omega
  · rw [List.all_eq_true.2 fun i hi => decide_eq_true (hg i (List.mem_range.1 hi))] at h; exact h
theorem p23 {a b : Guard} {g : Gauge} {Q : Bool × Bool × Int × Unit → Prop} (h : f23_wp (a, b, g, ()) () Q) : V23 a b g Q := by
  obtain ⟨hg, h⟩ := h
  have hg : goodG g [a, b] := hg
  obtain ⟨g1, g2, g3, g4⟩ := hg
  have n1 : noneF a = false ∧ noneF b = false := by simpa using g3
  have o1 : a.2.length = b.2.length := by
    have : otherF [a, b] b = false := by
      rw [List.any_cons, List.any_cons, Bool.or_eq_false_iff, Bool.or_eq_false_iff] at g2
      exact g2.2.1
    unfold otherF at this
    rw [Bool.or_eq_false_iff] at this
    have := this.2
    have e : ((b.2.length : Int) != (a.2.length : Int)) = false := this
    simp at e
    omega
  refine ⟨⟨g1, g2, g3, g4⟩, cndF ⟨_, ⟨⟨g4, n1.1, n1.2, o1, by show inR (-2) 2 2; unfold inR; omega⟩, rfl⟩, _, ⟨⟨g4, n1.1, n1.2, o1, by show inR (-2) 2 (-2); unfold inR; omega⟩, rfl⟩, h⟩⟩
theorem p27 {Q : Bool → Prop} (h : f27_wp () () Q) : V27 Q := by
  have h : Q true := h
  have r1 : goodG (1, 0, 5, 4) [(100, [20]), (103, [22])] := by
    refine ⟨by decide, by decide, by decide, by decide⟩
  have r2 : goodG (1, 0, 5, 4) [(100, [20]), (104, [24])] := by
    refine ⟨by decide, by decide, by decide, by decide⟩
  refine ⟨(100, [20]), ⟨by show 1 ≤ 1000000; omega, rfl⟩, (103, [22]), ⟨by show 1 ≤ 1000000; omega, rfl⟩, (true, true, 0, ()), ⟨r1, by decide⟩, (100, [20]), ⟨by show 1 ≤ 1000000; omega, rfl⟩, (104, [24]), ⟨by show 1 ≤ 1000000; omega, rfl⟩, (false, true, 0, ()), ⟨r2, by decide⟩, ?_⟩
  exact cndT (cndT (cndT (cndT (cndT h))))
theorem low_mul {r : Ratio} : ∃ g : Int, r.1 = g * (lowF r).1 ∧ r.2 = g * (lowF r).2 ∧ (1 ≤ r.2 → 1 ≤ g) := by
  refine ⟨(Int.gcd r.1 r.2 : Int), ?_, ?_, fun h => ?_⟩
  · exact (Int.mul_ediv_cancel' (Int.gcd_dvd_left _ _)).symm
  · exact (Int.mul_ediv_cancel' (Int.gcd_dvd_right _ _)).symm
  · have := Int.gcd_pos_of_ne_zero_right r.1 (show r.2 ≠ 0 by omega)
    omega
theorem low_good {r : Ratio} (h : goodR r) : goodR (lowF r) := by
  obtain ⟨g, h1, h2, h3⟩ := low_mul (r := r)
  unfold goodR at h ⊢
  have h3 := h3 h.2.1
  obtain ⟨y, hy⟩ : ∃ y, y = lowF r := ⟨_, rfl⟩
  rw [← hy] at h1 h2 ⊢
  rw [h1, h2] at h
  have y2 : 1 ≤ y.2 := by
    rcases Int.lt_or_le y.2 1 with hh | hh
    · have := Int.mul_le_mul_of_nonneg_left (show y.2 ≤ 0 by omega) (show 0 ≤ g by omega)
      omega
    · exact hh
  have y1 : 0 ≤ y.1 := by
    rcases Int.lt_or_le y.1 0 with hh | hh
    · have := Int.mul_le_mul_of_nonneg_left (show y.1 ≤ -1 by omega) (show 0 ≤ g by omega)
      omega
    · exact hh
  have b1 := Int.mul_le_mul_of_nonneg_right (show 1 ≤ g by omega) y1
  have b2 := Int.mul_le_mul_of_nonneg_right (show 1 ≤ g by omega) (show 0 ≤ y.2 by omega)
  omega

end Go.Proofs.Rt
set_option maxRecDepth 100000
set_option maxHeartbeats 2000000
set_option maxHeartbeats 2000000
namespace Go.Proofs.Rt
open Go Go.GX Go.Proofs
variable [Inhabited BaseD]
theorem ok49 : CallsOK Try.prog (assoc glT) 49 f49_ct :=
  callsOK_E (env (ct := [(80, f80_ct), (81, f81_ct)]) (ios := []) (hos := []) (lits := []) (AllOK.cons ok80 (AllOK.cons ok81 AllOK.nil)) AllW.nil AllH.nil) no_an Try.func49 (by kernel_rfl) (by kernel_rfl) f49_ct fun s _ Q h => (v49 s Q).mp (p49 h)
theorem ok48 : CallsOK Try.prog (assoc glT) 48 f48_ct :=
  callsOK_E (env (ct := [(49, f49_ct)]) (ios := []) (hos := []) (lits := []) (AllOK.cons ok49 AllOK.nil) AllW.nil AllH.nil) no_an Try.func48 (by kernel_rfl) (by kernel_rfl) f48_ct fun s _ Q h => (v48 s Q).mp (p48 h)
theorem ok50 : CallsOK Try.prog (assoc glT) 50 f50_ct :=
  callsOK_E (env (ct := []) (ios := []) (hos := []) (lits := []) AllOK.nil AllW.nil AllH.nil) no_an Try.func50 (by kernel_rfl) (by kernel_rfl) f50_ct fun ⟨a, b, _⟩ _ Q h => (v50 a b Q).mp (p50 h)
theorem ok25 : CallsOK Try.prog (assoc glT) 25 f25_ct :=
  callsOK_E (env (ct := [(47, f47_ct), (48, f48_ct), (50, f50_ct)]) (ios := []) (hos := []) (lits := []) (AllOK.cons ok47 (AllOK.cons ok48 (AllOK.cons ok50 AllOK.nil))) AllW.nil AllH.nil) f25_an Try.func25 (by kernel_rfl) (by kernel_rfl) f25_ct fun l _ Q h => (v25 l Q).mp (p25 h)
theorem ok54 : CallsOK Try.prog (assoc glT) 54 f54_ct :=
  callsOK_E (env (ct := []) (ios := []) (hos := []) (lits := []) AllOK.nil AllW.nil AllH.nil) f54_an Try.func54 (by kernel_rfl) (by kernel_rfl) f54_ct fun ⟨l, first, p, q, _⟩ _ Q h => (v54 l first p q Q).mp (p54 h)
theorem ok57 : CallsOK Try.prog (assoc glT) 57 f57_ct :=
  callsOK_E (env (ct := []) (ios := []) (hos := []) (lits := []) AllOK.nil AllW.nil AllH.nil) f57_an Try.func57 (by kernel_rfl) (by kernel_rfl) f57_ct fun ⟨num, den, _⟩ _ Q h => (v57 num den Q).mp (p57 h)
theorem ok53 : CallsOK Try.prog (assoc glT) 53 f53_ct :=
  callsOK_E (env (ct := []) (ios := []) (hos := []) (lits := []) AllOK.nil AllW.nil AllH.nil) no_an Try.func53 (by kernel_rfl) (by kernel_rfl) f53_ct fun ab _ Q h => (v53 ab Q).mp (p53 h)
theorem ok26 : CallsOK Try.prog (assoc glT) 26 f26_ct :=
  callsOK_E (env (ct := [(25, f25_ct), (52, f52_ct), (51, f51_ct), (53, f53_ct), (54, f54_ct), (55, f55_ct), (56, f56_ct), (57, f57_ct)]) (ios := []) (hos := []) (lits := []) (AllOK.cons ok25 (AllOK.cons ok52 (AllOK.cons ok51 (AllOK.cons ok53 (AllOK.cons ok54 (AllOK.cons ok55 (AllOK.cons ok56 (AllOK.cons ok57 AllOK.nil)))))))) AllW.nil AllH.nil) f26_an Try.func26 (by kernel_rfl) (by kernel_rfl) f26_ct fun l _ Q h => (v26 l Q).mp (p26 h)
end Go.Proofs.Rt
set_option maxRecDepth 100000
set_option maxHeartbeats 2000000
set_option maxHeartbeats 2000000
namespace Go.Proofs.Rt
open Go Go.GX Go.Proofs
variable [Inhabited BaseD]
theorem ok9 : CallsOK Try.prog (assoc glT) 9 f9_ct :=
  callsOK_E (env (ct := []) (ios := []) (hos := []) (lits := []) AllOK.nil AllW.nil AllH.nil) no_an Try.func9 (by kernel_rfl) (by kernel_rfl) f9_ct fun ⟨a, b, _⟩ _ Q h => (v9 a b Q).mp (p9 h)
theorem ok24 : CallsOK Try.prog (assoc glT) 24 f24_ct :=
  callsOK_E (env (ct := []) (ios := []) (hos := []) (lits := []) AllOK.nil AllW.nil AllH.nil) no_an Try.func24 (by kernel_rfl) (by kernel_rfl) f24_ct fun ⟨w, c, _⟩ _ Q h => (v24 w c Q).mp (p24 h)
theorem ok78 : CallsOK Try.prog (assoc glT) 78 f78_ct :=
  callsOK_E (env (ct := []) (ios := []) (hos := []) (lits := []) AllOK.nil AllW.nil AllH.nil) no_an Try.func78 (by kernel_rfl) (by kernel_rfl) f78_ct fun ⟨a, b, _⟩ _ Q h => (v78 a b Q).mp (p78 h)
theorem ok109 : CallsOK Try.prog (assoc glT) 109 f109_ct :=
  callsOK_E (env (ct := []) (ios := []) (hos := []) (lits := []) AllOK.nil AllW.nil AllH.nil) no_an Try.func109 (by kernel_rfl) (by kernel_rfl) f109_ct fun n ⟨lo, hi, _⟩ Q h => (v109 n lo hi Q).mp (p109 h)
theorem ok75 : CallsOK Try.prog (assoc glT) 75 f75_ct :=
  callsOK_E (env (ct := [(65, f65_ct), (109, f109_ct)]) (ios := []) (hos := []) (lits := []) (AllOK.cons ok65 (AllOK.cons ok109 AllOK.nil)) AllW.nil AllH.nil) no_an Try.func75 (by kernel_rfl) (by kernel_rfl) f75_ct fun ⟨lo, hi, xs, _⟩ _ Q h => (v75 lo hi xs Q).mp (p75 h)
theorem ok110 : CallsOK Try.prog (assoc glT) 110 f110_ct :=
  callsOK_E (env (ct := []) (ios := []) (hos := []) (lits := []) AllOK.nil AllW.nil AllH.nil) idx_an Try.func110 (by kernel_rfl) (by kernel_rfl) f110_ct fun ⟨xs, f, _⟩ _ Q h => (v110 xs f Q).mp (p110 h)
theorem ok77 : CallsOK Try.prog (assoc glT) 77 f77_ct :=
  callsOK_E (env (ct := [(110, f110_ct)]) (ios := []) (hos := []) (lits := []) (AllOK.cons ok110 AllOK.nil) AllW.nil AllH.nil) no_an Try.func77 (by kernel_rfl) (by kernel_rfl) f77_ct fun ⟨xs, f, _⟩ _ Q h => (v77 xs f Q).mp (p77 h)
theorem ok74 : CallsOK Try.prog (assoc glT) 74 f74_ct :=
  callsOK_E (env (ct := [(75, f75_ct)]) (ios := []) (hos := []) (lits := []) (AllOK.cons ok75 AllOK.nil) AllW.nil AllH.nil) no_an Try.func74 (by kernel_rfl) (by kernel_rfl) f74_ct fun x ⟨l, _⟩ Q h => (v74 x l Q).mp (p74 h)
theorem ok76 : CallsOK Try.prog (assoc glT) 76 f76_ct :=
  callsOK_E (env (ct := [(75, f75_ct)]) (ios := []) (hos := []) (lits := []) (AllOK.cons ok75 AllOK.nil) AllW.nil AllH.nil) no_an Try.func76 (by kernel_rfl) (by kernel_rfl) f76_ct fun x _ Q h => (v76 x Q).mp (p76 h)
theorem ok45 : CallsOK Try.prog (assoc glT) 45 f45_ct :=
  callsOK_E (env (ct := [(77, f77_ct), (74, f74_ct), (76, f76_ct), (75, f75_ct)]) (ios := []) (hos := []) (lits := []) (AllOK.cons ok77 (AllOK.cons ok74 (AllOK.cons ok76 (AllOK.cons ok75 AllOK.nil)))) AllW.nil AllH.nil) no_an Try.func45 (by kernel_rfl) (by kernel_rfl) f45_ct fun ⟨g, l, _⟩ _ Q h => (v45 g l Q).mp (p45 h)
theorem ok46 : CallsOK Try.prog (assoc glT) 46 f46_ct :=
  callsOK_E (env (ct := [(78, f78_ct)]) (ios := []) (hos := []) (lits := []) (AllOK.cons ok78 AllOK.nil) AllW.nil AllH.nil) f46_an Try.func46 (by kernel_rfl) (by kernel_rfl) f46_ct fun ⟨g, a, b, t, _⟩ _ Q h => (v46 g a b t Q).mp (p46 h)
theorem ok23 : CallsOK Try.prog (assoc glT) 23 f23_ct :=
  callsOK_E (env (ct := [(45, f45_ct), (46, f46_ct)]) (ios := []) (hos := []) (lits := []) (AllOK.cons ok45 (AllOK.cons ok46 AllOK.nil)) AllW.nil AllH.nil) no_an Try.func23 (by kernel_rfl) (by kernel_rfl) f23_ct fun ⟨a, b, g, _⟩ _ Q h => (v23 a b g Q).mp (p23 h)
end Go.Proofs.Rt
set_option linter.unusedVariables false
set_option maxRecDepth 100000
namespace Go.Proofs.Rt
open Go Go.GX Go.Proofs

def sk2 (a b s p q : Int) : List Stick := [((a - s, a + s), (3, 4), p), ((b - s, b + s), (3, 4), q)]
structure PR (a b s u pl : Int) : Prop where
  a : 1000 ≤ a ∧ a ≤ 1063
  b : 1000 ≤ b ∧ b ≤ 1063
  s : 0 ≤ s ∧ s ≤ 7
  u : 0 ≤ u ∧ u ≤ 255
  p : 0 ≤ pl ∧ pl ≤ 510
theorem sk2_ok {a b s u pl p q : Int} (h : PR a b s u pl) (hp : 0 ≤ p ∧ p ≤ 510) (hq : 0 ≤ q ∧ q ≤ 510) : SticksOK (sk2 a b s p q) := by
  obtain ⟨h1, h2, h3, h4, h5⟩ := h
  refine ⟨by show 2 ≤ 12; omega, fun x hx => ?_⟩
  rcases List.mem_cons.1 hx with rfl | hx
  · dsimp only; omega
  · rcases List.mem_cons.1 hx with rfl | hx
    · dsimp only; omega
    · exact absurd hx List.not_mem_nil
theorem att2 {a b s p q : Int} {r : Ratio} (hr : Att (sk2 a b s p q) r) : ∃ w1 w2 : Int, (w1 = a - s ∨ w1 = a + s) ∧ (w2 = b - s ∨ w2 = b + s) ∧ r.1 = w2 * q + w1 * p ∧ r.2 = w1 + w2 := by
  unfold sk2 at hr
  cases hr with
  | cons hw hr =>
    rename_i w1
    cases hr with
    | cons hw2 hr =>
      rename_i w2
      cases hr
      exact ⟨w1, w2, hw, hw2, by dsimp only; omega, by dsimp only; omega⟩
structure Fine (a b s u pl : Int) (y : Ratio) : Prop where
  d : 1 ≤ y.2 ∧ y.2 ≤ a + b + 2 * s
  n : 0 ≤ y.1 ∧ y.1 ≤ pl * y.2
  o : farF a b + 2 * s ≤ u → (2 * y.1 - pl * y.2) * (a + b - 2 * s) ≤ pl * u * y.2 ∧ (pl * y.2 - 2 * y.1) * (a + b - 2 * s) ≤ pl * u * y.2
theorem fine_of {a b s u pl : Int} (h : PR a b s u pl) {r : Ratio} (hr : Att (sk2 a b s 0 pl) r) : Fine a b s u pl (lowF r) := by
  have gd := low_good (att_good (sk2_ok h (by omega) h.p) (by show 2 ≠ 0; omega) hr)
  have gr := att_good (sk2_ok h (by omega) h.p) (by show 2 ≠ 0; omega) hr
  obtain ⟨g, h1, h2, h3⟩ := low_mul (r := r)
  have h3 := h3 gr.2.1
  obtain ⟨w1, w2, k1, k2, e1, e2⟩ := att2 hr
  obtain ⟨y, hy⟩ : ∃ y, y = lowF r := ⟨_, rfl⟩
  rw [← hy] at gd h1 h2 ⊢
  obtain ⟨⟨g1, g2⟩, g3, g4⟩ := gd
  obtain ⟨q1, q2, q3, q4, q5⟩ := h
  have m1 := Int.mul_le_mul_of_nonneg_right (show 1 ≤ g by omega) (show 0 ≤ y.2 by omega)
  have E1 : g * y.1 = w2 * pl := by rw [← h1, e1]; omega
  have E2 : g * y.2 = w1 + w2 := by rw [← h2, e2]
  have E3 : g * (pl * y.2) = pl * w1 + w2 * pl := by
    rw [Int.mul_left_comm, E2, Int.mul_add, Int.mul_comm pl w2]
  have n1 : 0 ≤ pl * w1 := Int.mul_nonneg (by omega) (by omega)
  have key : ∀ d z : Int, g * d = pl * z → z ≤ u → d * (a + b - 2 * s) ≤ pl * u * y.2 := by
    intro d z hd hz
    refine Int.le_of_mul_le_mul_left (a := g) ?_ (by omega)
    rw [← Int.mul_assoc, hd, Int.mul_left_comm g (pl * u) y.2, E2, Int.mul_assoc, Int.mul_assoc]
    refine Int.mul_le_mul_of_nonneg_left ?_ (by omega)
    have t1 := Int.mul_le_mul_of_nonneg_right hz (show 0 ≤ a + b - 2 * s by omega)
    have t2 := Int.mul_le_mul_of_nonneg_left (show a + b - 2 * s ≤ w1 + w2 by omega) (show 0 ≤ u by omega)
    omega
  refine ⟨⟨g3, by omega⟩, ⟨g1, Int.le_of_mul_le_mul_left (a := g) (by rw [E1, E3]; omega) (by omega)⟩, fun hs => ⟨key _ (w2 - w1) ?_ (by unfold farF at hs; omega), key _ (w1 - w2) ?_ (by unfold farF at hs; omega)⟩⟩
  · rw [Int.mul_sub, Int.mul_left_comm, E1, E3, Int.mul_sub, Int.mul_comm pl w2]; omega
  · rw [Int.mul_sub, Int.mul_left_comm g 2, E1, E3, Int.mul_sub, Int.mul_comm pl w2]; omega
theorem bal2 {a b s u pl : Int} (h : PR a b s u pl) : ∃ y z : Ratio, balanceF (sk2 a b s 0 pl) = (y, z, 0, ()) ∧ Fine a b s u pl y ∧ Fine a b s u pl z := by
  have ok := sk2_ok (p := 0) (q := pl) h (by omega) h.p
  have l0 : (sk2 a b s 0 pl).length ≠ 0 := by show 2 ≠ 0; omega
  refine ⟨_, _, ?_, fine_of h (bal_att ok l0).1, fine_of h (bal_att ok l0).2⟩
  unfold balanceF
  rw [if_neg (by rw [closedE_ok.2 ok]; simp), if_neg l0]
theorem same2 {a b s u pl : Int} (h : PR a b s u pl) {r : Ratio} (hr : Att (sk2 a b s pl pl) r) : lowF r = (pl, 1) := by
  have gr := att_good (sk2_ok h h.p h.p) (by show 2 ≠ 0; omega) hr
  obtain ⟨w1, w2, k1, k2, e1, e2⟩ := att2 hr
  have : lowF r = lowF (pl, 1) := low_eq gr.2.1 (by show (1 : Int) ≤ 1; omega) (by
    show r.1 * 1 = pl * r.2
    rw [e1, e2, Int.mul_one, Int.mul_add, Int.mul_comm pl w1, Int.mul_comm pl w2]; omega)
  rw [this]
  unfold lowF
  simp
theorem bal3 {a b s u pl : Int} (h : PR a b s u pl) : balanceF (sk2 a b s pl pl) = ((pl, 1), (pl, 1), 0, ()) := by
  have ok := sk2_ok (p := pl) (q := pl) h h.p h.p
  have l0 : (sk2 a b s pl pl).length ≠ 0 := by show 2 ≠ 0; omega
  unfold balanceF
  rw [if_neg (by rw [closedE_ok.2 ok]; simp), if_neg l0, same2 h (bal_att ok l0).1, same2 h (bal_att ok l0).2]
theorem clo2 {a b s u pl : Int} (h : PR a b s u pl) : closedF (sk2 a b s 0 pl) = ((a + b - 2 * s, a + b + 2 * s), (6, 8), 0, ()) := by
  have ok := sk2_ok (p := 0) (q := pl) h (by omega) h.p
  unfold closedF
  rw [if_neg (by rw [closedE_ok.2 ok]; simp)]
  have e1 : sumW (sk2 a b s 0 pl) (sk2 a b s 0 pl).length = (a + b - 2 * s, a + b + 2 * s) := by
    show ((0 + (a - s) + (b - s), 0 + (a + s) + (b + s)) : Int × Int) = _
    exact Prod.ext (by dsimp only; omega) (by dsimp only; omega)
  rw [e1]
  rfl

theorem fine_row {a b s u pl : Int} (h : PR a b s u pl) {y : Ratio} (f : Fine a b s u pl y) {c : Prop} {Q : Bool → Prop} (hs : farF a b + 2 * s ≤ u) (hc : c) :
    cnd (decide (y.2 < 1)) (Q false) (cnd (decide (y.2 > a + b + 2 * s)) (Q false) (cnd (decide (y.1 < 0)) (Q false) (cnd (decide (y.1 > IntKind.wrap .i64 (pl * y.2))) (Q false)
      (cnd (decide (IntKind.wrap .i64 (mxI (IntKind.wrap .i64 (IntKind.wrap .i64 (2 * y.1) - IntKind.wrap .i64 (pl * y.2))) (IntKind.wrap .i64 (IntKind.wrap .i64 (pl * y.2) - IntKind.wrap .i64 (2 * y.1))) * (a + b - 2 * s)) > IntKind.wrap .i64 (IntKind.wrap .i64 (pl * u) * y.2))) (Q false) c)))) := by
  obtain ⟨⟨d1, d2⟩, ⟨n1, n2⟩, o⟩ := f
  obtain ⟨o1, o2⟩ := o hs
  obtain ⟨q1, q2, q3, q4, q5⟩ := h
  have b1 : pl * y.2 ≤ 510 * 3000 := Int.mul_le_mul (by omega) (by omega) (by omega) (by omega)
  have b2 : pl * u ≤ 510 * 255 := Int.mul_le_mul (by omega) (by omega) (by omega) (by omega)
  have b3 : 0 ≤ pl * u := Int.mul_nonneg (by omega) (by omega)
  have b4 : pl * u * y.2 ≤ 510 * 255 * 3000 := Int.mul_le_mul b2 (by omega) (by omega) (by omega)
  have b5 : 0 ≤ pl * u * y.2 := Int.mul_nonneg b3 (by omega)
  rw [wrapS (x := 2 * y.1) (by omega) (by omega), wrapS (x := pl * y.2) (by omega) (by omega), wrapS (x := 2 * y.1 - pl * y.2) (by omega) (by omega), wrapS (x := pl * y.2 - 2 * y.1) (by omega) (by omega), wrapS (x := pl * u) (by omega) (by omega), wrapS (x := pl * u * y.2) (by omega) (by omega)]
  have m0 : 0 ≤ mxI (2 * y.1 - pl * y.2) (pl * y.2 - 2 * y.1) := by unfold mxI; omega
  have m1 : 0 ≤ mxI (2 * y.1 - pl * y.2) (pl * y.2 - 2 * y.1) * (a + b - 2 * s) := Int.mul_nonneg m0 (by omega)
  have m2 : mxI (2 * y.1 - pl * y.2) (pl * y.2 - 2 * y.1) * (a + b - 2 * s) ≤ pl * u * y.2 := by
    rcases (show mxI (2 * y.1 - pl * y.2) (pl * y.2 - 2 * y.1) = 2 * y.1 - pl * y.2 ∨ mxI (2 * y.1 - pl * y.2) (pl * y.2 - 2 * y.1) = pl * y.2 - 2 * y.1 by unfold mxI; omega) with e | e <;> rw [e] <;> assumption
  rw [wrapS (x := mxI (2 * y.1 - pl * y.2) (pl * y.2 - 2 * y.1) * (a + b - 2 * s)) (by omega) (by omega)]
  exact cnd_not (decide_eq_false (by omega)) (cnd_not (decide_eq_false (by omega)) (cnd_not (decide_eq_false (by omega)) (cnd_not (decide_eq_false (by omega)) (cnd_not (decide_eq_false (by omega)) hc))))
end Go.Proofs.Rt
set_option linter.unusedVariables false
set_option maxRecDepth 100000
namespace Go.Proofs.Rt
open Go Go.GX Go.Proofs

theorem good2 {a b s u pl : Int} (h : PR a b s u pl) : goodG (s, 0, u, 0) [(a, [5]), (b, [5])] := by
  obtain ⟨q1, q2, q3, q4, q5⟩ := h
  refine ⟨by show 0 < 2; omega, rfl, ?_, ?_⟩
  · have e1 : noneF (a, [5]) = false := by
      show (!(decide (1 ≤ a) && decide (a ≤ 10000)) || false) = false
      rw [decide_eq_true (show 1 ≤ a by omega), decide_eq_true (show a ≤ 10000 by omega)]; rfl
    have e2 : noneF (b, [5]) = false := by
      show (!(decide (1 ≤ b) && decide (b ≤ 10000)) || false) = false
      rw [decide_eq_true (show 1 ≤ b by omega), decide_eq_true (show b ≤ 10000 by omega)]; rfl
    rw [List.any_cons, List.any_cons, e1, e2]; rfl
  · unfold gaugeB inB
    simp only [Bool.and_eq_true, decide_eq_true_eq]
    omega
theorem alike2 {a b s u : Int} : alikeF (a, [5]) (b, [5]) (s, 0, u, 0) 2 = decide (farF a b + 2 * s ≤ u) := by
  show (decide (farF a b + 2 * s ≤ u) && true) = _
  rw [Bool.and_true]
theorem p7 {a b s u pl : Int} {Q : Bool → Prop} (h : f7_wp (a, b, s, u, pl, ()) () Q) : V7 a b s u pl Q := by
  obtain ⟨⟨h1, h2, h3, h4, h5⟩, h⟩ := h
  have h : Q true := h
  have hp : PR a b s u pl := ⟨⟨h1.1, by have := h1.2; dsimp only at this; omega⟩, ⟨h2.1, by have := h2.2; dsimp only at this; omega⟩, h3, h4, h5⟩
  obtain ⟨y, z, eb, fy, fz⟩ := bal2 hp
  have ec := clo2 hp
  have e3 := bal3 hp
  have ⟨q1, q2, q3, q4, q5⟩ := hp
  have al := alike2 (a := a) (b := b) (s := s) (u := u)
  refine ⟨(a, [5]), ⟨by show 1 ≤ 1000000; omega, rfl⟩, (b, [5]), ⟨by show 1 ≤ 1000000; omega, rfl⟩, (decide (farF a b + 2 * s ≤ u), alikeF (a, [5]) (b, [5]) (s, 0, u, 0) (-2), 0, ()), ⟨good2 hp, by rw [← al]⟩, ?_⟩
  rw [wrapS (x := a - s) (by omega) (by omega), wrapS (x := a + s) (by omega) (by omega), wrapS (x := b - s) (by omega) (by omega), wrapS (x := b + s) (by omega) (by omega),
    wrapS (x := a + b) (by omega) (by omega), wrapS (x := 2 * s) (by omega) (by omega), wrapS (x := a + b - 2 * s) (by omega) (by omega), wrapS (x := a + b + 2 * s) (by omega) (by omega),
    wrapS (x := a - b) (by omega) (by omega), wrapS (x := b - a) (by omega) (by omega)]
  simp only [f9_wp, f25_wp, f26_wp]
  unfold sk2 at ec eb e3
  rw [ec, eb, e3]
  refine cndF (cndF (cndF (cndF ⟨(a + b - 2 * s, a + b + 2 * s), rfl, ?_⟩)))
  refine cnd_not (by simp) ⟨(6, 8), rfl, cnd_not (by simp) (cnd_not (by simp) (cnd_not (by simp) ?_))⟩
  refine ⟨fun x => ∃ k : Nat, k ≤ 2 ∧ x = k, fun x => (2 - x).toNat, ⟨0, by omega, rfl⟩, ?_⟩
  rintro x ⟨k, hk, rfl⟩
  refine ⟨fun c => c = true → k < 2 ∧ farF a b + 2 * s ≤ u, cnd_iff.2 ⟨fun c c2 => ?_, fun c c2 => by cases c2⟩, fun c hc => cnd_iff.2 ⟨fun hb => ?_, fun hb => ?_⟩⟩
  · have c := of_decide_eq_true c
    exact ⟨by omega, of_decide_eq_true c2⟩
  · obtain ⟨c1, c2⟩ := hc hb
    have w : IntKind.wrap .i64 ((k : Int) + 1) = k + 1 := wrapS (by omega) (by omega)
    have nx : (∃ j : Nat, j ≤ 2 ∧ IntKind.wrap .i64 ((k : Int) + 1) = j) ∧ (2 - IntKind.wrap .i64 ((k : Int) + 1)).toNat < (2 - (k : Int)).toNat := by
      rw [w]; exact ⟨⟨k + 1, by omega, by omega⟩, by omega⟩
    refine ⟨by omega, by omega, cnd_iff.2 ⟨fun c => fine_row hp fy c2 nx, fun c => cnd_iff.2 ⟨fun c => fine_row hp fz c2 nx, fun c' => ?_⟩⟩⟩
    have c := of_decide_eq_false c
    have c' := of_decide_eq_false c'
    omega
  · refine cnd_of ?_ h
    rw [wrapS (x := mxI (a - b) (b - a) + 2 * s) (by unfold mxI; omega) (by unfold mxI; omega), mxI_max']
    show (decide (farF a b + 2 * s ≤ u) == decide (farF a b + 2 * s ≤ u)) = true
    simp
theorem p3 {v : Int × Int × Int × Int} {pl : Int} {Q : Bool → Prop} (h : f3_wp (v, pl, ()) () Q) : V3 v pl Q := by
  obtain ⟨⟨⟨h1, h2, h3, h4⟩, h5⟩, h⟩ := h
  have h : Q true := h
  dsimp only at h1 h2 h3 h4 h5
  unfold byteB at h1 h2 h3 h4 h5
  refine ⟨by omega, by omega, by omega, ?_⟩
  have t1 := Int.tmod_nonneg 64 h1.1
  have t2 := Int.tmod_nonneg 64 h2.1
  have t3 := Int.tmod_nonneg 8 h3.1
  have u1 := Int.tmod_lt_of_pos v.1 (show (0 : Int) < 64 by omega)
  have u2 := Int.tmod_lt_of_pos v.2.1 (show (0 : Int) < 64 by omega)
  have u3 := Int.tmod_lt_of_pos v.2.2.1 (show (0 : Int) < 8 by omega)
  rw [wrapS (x := v.1) (by omega) (by omega), wrapS (x := v.2.1) (by omega) (by omega), wrapS (x := v.2.2.1) (by omega) (by omega), wrapS (x := v.2.2.2) (by omega) (by omega), wrapS (x := pl) (by omega) (by omega),
    wrapS (x := 1000 + v.1.tmod 64) (by omega) (by omega), wrapS (x := 1000 + v.2.1.tmod 64) (by omega) (by omega), wrapS (x := 2 * pl) (by omega) (by omega)]
  exact ⟨⟨⟨by dsimp only; omega, by dsimp only; omega⟩, ⟨by dsimp only; omega, by dsimp only; omega⟩, ⟨by dsimp only; omega, by dsimp only; omega⟩, ⟨by dsimp only; omega, by dsimp only; omega⟩, ⟨by dsimp only; omega, by dsimp only; omega⟩⟩, h⟩
end Go.Proofs.Rt
set_option maxRecDepth 100000
set_option maxHeartbeats 2000000
set_option maxHeartbeats 2000000
namespace Go.Proofs.Rt
open Go Go.GX Go.Proofs
variable [Inhabited BaseD]
theorem ok27 : CallsOK Try.prog (assoc glT) 27 f27_ct :=
  callsOK_E (env (ct := [(24, f24_ct), (23, f23_ct)]) (ios := []) (hos := []) (lits := []) (AllOK.cons ok24 (AllOK.cons ok23 AllOK.nil)) AllW.nil AllH.nil) no_an Try.func27 (by kernel_rfl) (by kernel_rfl) f27_ct fun () _ Q h => (v27  Q).mp (p27 h)
theorem ok7 : CallsOK Try.prog (assoc glT) 7 f7_ct :=
  callsOK_E (env (ct := [(24, f24_ct), (23, f23_ct), (9, f9_ct), (25, f25_ct), (26, f26_ct), (27, f27_ct)]) (ios := []) (hos := []) (lits := []) (AllOK.cons ok24 (AllOK.cons ok23 (AllOK.cons ok9 (AllOK.cons ok25 (AllOK.cons ok26 (AllOK.cons ok27 AllOK.nil)))))) AllW.nil AllH.nil) f7_an Try.func7 (by kernel_rfl) (by kernel_rfl) f7_ct fun ⟨a, b, s, u, pl, _⟩ _ Q h => (v7 a b s u pl Q).mp (p7 h)
theorem ok3 : CallsOK Try.prog (assoc glT) 3 f3_ct :=
  callsOK_E (env (ct := [(7, f7_ct)]) (ios := []) (hos := []) (lits := []) (AllOK.cons ok7 AllOK.nil) AllW.nil AllH.nil) no_an Try.func3 (by kernel_rfl) (by kernel_rfl) f3_ct fun ⟨v, pl, _⟩ _ Q h => (v3 v pl Q).mp (p3 h)
end Go.Proofs.Rt
