/- Part 8 of the texts behind the proof: RzO2, RzV5, RzP8, RzV6, RzP9, RzO3, RzPb, RzV9, RzPx, RzV10, RzPy, RzO4, RzM3, RzM4, RzM6, RzC6, RzM7, RzV13, RzVs, RzPq, RzO6. -/
import Derived.Test.YtmdonphignifoaaGreatG07
import Derived.Test.YtmdonphignifoaaGreatProg
set_option linter.unusedSimpArgs false
set_option linter.unusedVariables false
set_option linter.unusedSectionVars false
set_option maxRecDepth 100000
set_option maxHeartbeats 2000000
namespace Go.Proofs.Rz
open Go Go.GX Go.Proofs
variable [Inhabited BaseD]
theorem ok61 : CallsOK Tryz.prog (assoc glT) 61 f61_ct :=
  callsOK_E (env (ct := []) (ios := []) (hos := []) (lits := []) AllOK.nil AllW.nil AllH.nil) f61_an Tryz.func61 (by kernel_rfl) (by kernel_rfl) f61_ct fun ⟨f, s, _⟩ _ Q h => (v61 f s Q).mp (p61 h)
theorem ok17 : CallsOK Tryz.prog (assoc glT) 17 f17_ct :=
  callsOK_E (env (ct := [(12, f12_ct), (50, f50_ct), (51, f51_ct), (45, f45_ct)]) (ios := []) (hos := []) (lits := []) (AllOK.cons ok12 (AllOK.cons ok50 (AllOK.cons ok51 (AllOK.cons ok45 AllOK.nil)))) AllW.nil AllH.nil) f17_an Tryz.func17 (by kernel_rfl) (by kernel_rfl) f17_ct fun ⟨f, more, _⟩ _ Q h => (v17 f more Q).mp (p17 h)
theorem ok54 : CallsOK Tryz.prog (assoc glT) 54 f54_ct :=
  callsOK_E (env (ct := [(55, f55_ct), (56, f56_ct)]) (ios := []) (hos := []) (lits := []) (AllOK.cons ok55 (AllOK.cons ok56 AllOK.nil)) AllW.nil AllH.nil) no_an Tryz.func54 (by kernel_rfl) (by kernel_rfl) f54_ct fun i ⟨f, _⟩ Q h => (v54 i f Q).mp (p54 h)
theorem ok58 : CallsOK Tryz.prog (assoc glT) 58 f58_ct :=
  callsOK_E (env (ct := [(59, f59_ct)]) (ios := []) (hos := []) (lits := []) (AllOK.cons ok59 AllOK.nil) AllW.nil AllH.nil) no_an Tryz.func58 (by kernel_rfl) (by kernel_rfl) f58_ct fun ik ⟨g, _⟩ Q h => (v58 ik g Q).mp (p58 h)
theorem ok62 : CallsOK Tryz.prog (assoc glT) 62 f62_ct :=
  callsOK_E (env (ct := [(63, f63_ct)]) (ios := []) (hos := []) (lits := []) (AllOK.cons ok63 AllOK.nil) AllW.nil AllH.nil) no_an Tryz.func62 (by kernel_rfl) (by kernel_rfl) f62_ct fun i ⟨set, _⟩ Q h => (v62 i set Q).mp (p62 h)
theorem ok60 : CallsOK Tryz.prog (assoc glT) 60 f60_ct :=
  callsOK_E (env (ct := [(61, f61_ct), (62, f62_ct), (45, f45_ct)]) (ios := []) (hos := []) (lits := []) (AllOK.cons ok61 (AllOK.cons ok62 (AllOK.cons ok45 AllOK.nil))) AllW.nil AllH.nil) no_an Tryz.func60 (by kernel_rfl) (by kernel_rfl) f60_ct fun set ⟨f, seen, _⟩ Q h => (v60 set f seen Q).mp (p60 h)
theorem ok66 : CallsOK Tryz.prog (assoc glT) 66 f66_ct :=
  callsOK_E (env (ct := []) (ios := []) (hos := []) (lits := []) AllOK.nil AllW.nil AllH.nil) no_an Tryz.func66 (by kernel_rfl) (by kernel_rfl) f66_ct fun k ⟨i, _⟩ Q h => (v66 k i Q).mp (p66 h)
theorem ok21 : CallsOK Tryz.prog (assoc glT) 21 f21_ct :=
  callsOK_E (env (ct := [(12, f12_ct), (53, f53_ct), (45, f45_ct), (54, f54_ct), (58, f58_ct), (60, f60_ct), (65, f65_ct), (66, f66_ct), (67, f67_ct)]) (ios := [(57, f57_ct)]) (hos := [(64, f64_ct)]) (lits := [1200,1300,2500,2303,8003112]) (AllOK.cons ok12 (AllOK.cons ok53 (AllOK.cons ok45 (AllOK.cons ok54 (AllOK.cons ok58 (AllOK.cons ok60 (AllOK.cons ok65 (AllOK.cons ok66 (AllOK.cons ok67 AllOK.nil))))))))) (AllW.cons ok57 AllW.nil) (AllH.cons ok64 AllH.nil)) f21_an Tryz.func21 (by kernel_rfl) (by kernel_rfl) f21_ct fun ⟨f, seen, _⟩ _ Q h => (v21 f seen Q).mp (p21 h)
theorem ok24 : CallsOK Tryz.prog (assoc glT) 24 f24_ct :=
  callsOK_E (env (ct := [(12, f12_ct), (53, f53_ct), (70, f70_ct), (45, f45_ct)]) (ios := []) (hos := []) (lits := []) (AllOK.cons ok12 (AllOK.cons ok53 (AllOK.cons ok70 (AllOK.cons ok45 AllOK.nil)))) AllW.nil AllH.nil) f24_an Tryz.func24 (by kernel_rfl) (by kernel_rfl) f24_ct fun ⟨f, d, _⟩ _ Q h => (v24 f d Q).mp (p24 h)
theorem ok71 : CallsOK Tryz.prog (assoc glT) 71 f71_ct :=
  callsOK_E (env (ct := [(51, f51_ct), (45, f45_ct)]) (ios := []) (hos := []) (lits := []) (AllOK.cons ok51 (AllOK.cons ok45 AllOK.nil)) AllW.nil AllH.nil) f71_an Tryz.func71 (by kernel_rfl) (by kernel_rfl) f71_ct fun a ⟨f, d, _⟩ Q h => (v71 a f d Q).mp (p71 h)
theorem ok26 : CallsOK Tryz.prog (assoc glT) 26 f26_ct :=
  callsOK_E (env (ct := [(12, f12_ct), (53, f53_ct), (71, f71_ct)]) (ios := []) (hos := []) (lits := []) (AllOK.cons ok12 (AllOK.cons ok53 (AllOK.cons ok71 AllOK.nil))) AllW.nil AllH.nil) f26_an Tryz.func26 (by kernel_rfl) (by kernel_rfl) f26_ct fun ⟨f, d, _⟩ _ Q h => (v26 f d Q).mp (p26 h)
theorem ok101 : CallsOK Tryz.prog (assoc glT) 101 f101_ct :=
  callsOK_E (env (ct := [(43, f43_ct), (50, f50_ct)]) (ios := []) (hos := []) (lits := []) (AllOK.cons ok43 (AllOK.cons ok50 AllOK.nil)) AllW.nil AllH.nil) no_an Tryz.func101 (by kernel_rfl) (by kernel_rfl) f101_ct fun s _ Q h => (v101 s Q).mp (p101 h)
theorem ok100 : CallsOK Tryz.prog (assoc glT) 100 f100_ct :=
  callsOK_E (env (ct := [(101, f101_ct)]) (ios := []) (hos := []) (lits := []) (AllOK.cons ok101 AllOK.nil) AllW.nil AllH.nil) no_an Tryz.func100 (by kernel_rfl) (by kernel_rfl) f100_ct fun s _ Q h => (v100 s Q).mp (p100 h)
theorem ok102 : CallsOK Tryz.prog (assoc glT) 102 f102_ct :=
  callsOK_E (env (ct := []) (ios := []) (hos := []) (lits := []) AllOK.nil AllW.nil AllH.nil) no_an Tryz.func102 (by kernel_rfl) (by kernel_rfl) f102_ct fun ⟨a, b, _⟩ _ Q h => (v102 a b Q).mp (p102 h)
theorem ok77 : CallsOK Tryz.prog (assoc glT) 77 f77_ct :=
  callsOK_E (env (ct := [(99, f99_ct), (100, f100_ct), (102, f102_ct)]) (ios := []) (hos := []) (lits := []) (AllOK.cons ok99 (AllOK.cons ok100 (AllOK.cons ok102 AllOK.nil))) AllW.nil AllH.nil) f77_an Tryz.func77 (by kernel_rfl) (by kernel_rfl) f77_ct fun l _ Q h => (v77 l Q).mp (p77 h)
theorem ok81 : CallsOK Tryz.prog (assoc glT) 81 f81_ct :=
  callsOK_E (env (ct := []) (ios := []) (hos := []) (lits := []) AllOK.nil AllW.nil AllH.nil) f81_an Tryz.func81 (by kernel_rfl) (by kernel_rfl) f81_ct fun ⟨l, first, p, q, _⟩ _ Q h => (v81 l first p q Q).mp (p81 h)
theorem ok84 : CallsOK Tryz.prog (assoc glT) 84 f84_ct :=
  callsOK_E (env (ct := []) (ios := []) (hos := []) (lits := []) AllOK.nil AllW.nil AllH.nil) f84_an Tryz.func84 (by kernel_rfl) (by kernel_rfl) f84_ct fun ⟨num, den, _⟩ _ Q h => (v84 num den Q).mp (p84 h)
theorem ok80 : CallsOK Tryz.prog (assoc glT) 80 f80_ct :=
  callsOK_E (env (ct := []) (ios := []) (hos := []) (lits := []) AllOK.nil AllW.nil AllH.nil) no_an Tryz.func80 (by kernel_rfl) (by kernel_rfl) f80_ct fun ab _ Q h => (v80 ab Q).mp (p80 h)
theorem ok40 : CallsOK Tryz.prog (assoc glT) 40 f40_ct :=
  callsOK_E (env (ct := [(77, f77_ct), (79, f79_ct), (78, f78_ct), (80, f80_ct), (81, f81_ct), (82, f82_ct), (83, f83_ct), (84, f84_ct)]) (ios := []) (hos := []) (lits := []) (AllOK.cons ok77 (AllOK.cons ok79 (AllOK.cons ok78 (AllOK.cons ok80 (AllOK.cons ok81 (AllOK.cons ok82 (AllOK.cons ok83 (AllOK.cons ok84 AllOK.nil)))))))) AllW.nil AllH.nil) f40_an Tryz.func40 (by kernel_rfl) (by kernel_rfl) f40_ct fun l _ Q h => (v40 l Q).mp (p40 h)
theorem ok18 : CallsOK Tryz.prog (assoc glT) 18 f18_ct :=
  callsOK_E (env (ct := []) (ios := []) (hos := []) (lits := []) AllOK.nil AllW.nil AllH.nil) no_an Tryz.func18 (by kernel_rfl) (by kernel_rfl) f18_ct fun ⟨n, lo, hi, _⟩ _ Q h => (v18 n lo hi Q).mp (p18 h)
theorem ok46 : CallsOK Tryz.prog (assoc glT) 46 f46_ct :=
  callsOK_E (env (ct := [(18, f18_ct)]) (ios := []) (hos := []) (lits := []) (AllOK.cons ok18 AllOK.nil) AllW.nil AllH.nil) no_an Tryz.func46 (by kernel_rfl) (by kernel_rfl) f46_ct fun ⟨s, lo, hi, _⟩ _ Q h => (v46 s lo hi Q).mp (p46 h)
theorem ok14 : CallsOK Tryz.prog (assoc glT) 14 f14_ct :=
  callsOK_E (env (ct := [(46, f46_ct)]) (ios := []) (hos := []) (lits := []) (AllOK.cons ok46 AllOK.nil) AllW.nil AllH.nil) f14_an Tryz.func14 (by kernel_rfl) (by kernel_rfl) f14_ct fun f _ Q h => (v14 f Q).mp (p14 h)
theorem ok11 : CallsOK Tryz.prog (assoc glT) 11 f11_ct :=
  callsOK_E (env (ct := []) (ios := []) (hos := []) (lits := []) AllOK.nil AllW.nil AllH.nil) no_an Tryz.func11 (by kernel_rfl) (by kernel_rfl) f11_ct fun f _ Q h => (v11 f Q).mp (p11 h)
theorem ok15 : CallsOK Tryz.prog (assoc glT) 15 f15_ct :=
  callsOK_E (env (ct := []) (ios := []) (hos := []) (lits := []) AllOK.nil AllW.nil AllH.nil) f15_an Tryz.func15 (by kernel_rfl) (by kernel_rfl) f15_ct fun ⟨a, b, _⟩ _ Q h => (v15 a b Q).mp (p15 h)
theorem ok41 : CallsOK Tryz.prog (assoc glT) 41 f41_ct :=
  callsOK_E (env (ct := []) (ios := []) (hos := []) (lits := []) AllOK.nil AllW.nil AllH.nil) cmp_an Tryz.func41 (by kernel_rfl) (by kernel_rfl) f41_ct fun ⟨a, b, _⟩ _ Q h => (v41 a b Q).mp (p41 h)
theorem ok23 : CallsOK Tryz.prog (assoc glT) 23 f23_ct :=
  callsOK_E (env (ct := []) (ios := []) (hos := []) (lits := []) AllOK.nil AllW.nil AllH.nil) cmp_an Tryz.func23 (by kernel_rfl) (by kernel_rfl) f23_ct fun ⟨a, b, _⟩ _ Q h => (v23 a b Q).mp (p23 h)
end Go.Proofs.Rz
set_option linter.unusedVariables false
set_option maxRecDepth 100000
namespace Go.Proofs.Rz
open Go Go.GX Go.Proofs

def V34 (a : Int) (b : Int) (Q : Int × Int → Prop) : Prop :=
  Q (a, b)
theorem v34 (a : Int) (b : Int) (Q : Int × Int → Prop) : V34 a b Q = vcFunc (S1 [] [] [] []) f34_ct.own f34_ct.fresh no_an Tryz.f34 (bodyOf Tryz.f34) f34_ct.A f34_ct.C f34_ct.R (a, b, ()) () Q := by kernel_rfl

def V39 (Q : (Int × Int) × (Int × Int) × List ((Int × Int) × Int × Int) → Prop) : Prop :=
  f34_wp ((900 : Int), (1000 : Int), ()) () fun (r : Int × Int) ↦
    f34_wp ((40 : Int), (50 : Int), ()) () fun (r_1 : Int × Int) ↦
      f34_wp ((200 : Int), (210 : Int), ()) () fun (r_2 : Int × Int) ↦
        f34_wp ((12 : Int), (12 : Int), ()) () fun (r_3 : Int × Int) ↦
          f34_wp ((100 : Int), (100 : Int), ()) () fun (r_4 : Int × Int) ↦
            f34_wp ((4 : Int), (5 : Int), ()) () fun (r_5 : Int × Int) ↦
              Q
                ((Prod.fst r, Prod.snd r), (Prod.fst r_1, Prod.snd r_1),
                  ((Prod.fst r_2, Prod.snd r_2), Prod.fst r_3, Prod.snd r_3) ::
                    ((Prod.fst r_4, Prod.snd r_4), Prod.fst r_5, Prod.snd r_5) :: ([] : List ((Int × Int) × Int × Int)))
theorem v39 (Q : (Int × Int) × (Int × Int) × List ((Int × Int) × Int × Int) → Prop) : V39 Q = vcFunc (S1 [(34, f34_ct)] [] [] [108]) f39_ct.own f39_ct.fresh no_an Tryz.f39 (bodyOf Tryz.f39) f39_ct.A f39_ct.C f39_ct.R () () Q := by kernel_rfl

def V32 (n : Int) (d : Int) (Q : Int → Prop) : Prop :=
  IntKind.wrap IntKind.i64 ((355 : Int) * d) ≠ (0 : Int) ∧
    Q
      (mnI (360 : Int)
        (IntKind.wrap IntKind.i64 (Int.tdiv (IntKind.wrap IntKind.i64 ((20340 : Int) * n)) (IntKind.wrap IntKind.i64 ((355 : Int) * d)))))
end Go.Proofs.Rz
set_option linter.unusedVariables false
set_option maxRecDepth 100000
namespace Go.Proofs.Rz
open Go Go.GX Go.Proofs

theorem p34 {a b : Int} {Q : Span → Prop} (h : f34_wp (a, b, ()) () Q) : V34 a b Q := h
theorem p39 {Q : Fan → Prop} (h : f39_wp () () Q) : V39 Q := h
theorem sumG_take_succ (arc : Span → Int) (far near : Int) {gs : List Gap} {k : Nat} (hk : k < gs.length) : sumG arc far near (gs.take (k + 1)) = sumG arc far near (gs.take k) + angG arc far near (gs.getD k g0) := by
  rw [take_succ_getD (d := g0) hk, sumG_append, sumG_cons, sumG_nil]; omega
theorem p32 {n d : Int} {Q : Int → Prop} (h : f32_wp (n, d, ()) () Q) : V32 n d Q := by
  obtain ⟨⟨h1, h2, h3, h4⟩, h⟩ := h
  have h1 : 0 ≤ n := h1
  have h2 : n ≤ 400000000000 := h2
  have h3 : 1 ≤ d := h3
  have h4 : d ≤ 400000000000 := h4
  have h : Q (degND n d) := h
  have e : Int.tdiv (20340 * n) (355 * d) = Int.tdiv (4068 * n) (71 * d) := by
    rw [show (20340 : Int) * n = 5 * (4068 * n) by omega, show (355 : Int) * d = 5 * (71 * d) by omega]
    exact Int.mul_tdiv_mul_of_pos (4068 * n) (71 * d) (by omega)
  have hr : 0 ≤ Int.tdiv (4068 * n) (71 * d) ∧ Int.tdiv (4068 * n) (71 * d) ≤ 4068 * n := by
    rw [Int.tdiv_eq_ediv_of_nonneg (by omega)]
    exact ⟨Int.ediv_nonneg (by omega) (by omega), Int.ediv_le_self _ (by omega)⟩
  rw [V32, wrapS (x := 355 * d) (by omega) (by omega), wrapS (x := 20340 * n) (by omega) (by omega), e, wrapS (by omega) (by omega), mnI_min]
  exact ⟨by omega, h⟩
end Go.Proofs.Rz
set_option linter.unusedVariables false
set_option maxRecDepth 100000
namespace Go.Proofs.Rz
open Go Go.GX Go.Proofs

def V10 (Q : Bool → Prop) : Prop :=
  f39_wp () () fun (r : (Int × Int) × (Int × Int) × List ((Int × Int) × Int × Int)) ↦
    f13_wp ((Prod.fst (Prod.fst r), Prod.snd (Prod.fst r)), (Prod.fst (Prod.fst (Prod.snd r)), Prod.snd (Prod.fst (Prod.snd r))), Prod.snd (Prod.snd r))
      () fun (r : (Int × Int) × Int × Unit) ↦
      f39_wp () () fun (r_1 : (Int × Int) × (Int × Int) × List ((Int × Int) × Int × Int)) ↦
        f30_wp
          ((Prod.fst (Prod.fst r_1), Prod.snd (Prod.fst r_1)), (Prod.fst (Prod.fst (Prod.snd r_1)), Prod.snd (Prod.fst (Prod.snd r_1))),
            Prod.snd (Prod.snd r_1))
          () fun (r_2 : List Int × Int × Unit) ↦
          f39_wp () () fun (r_3 : (Int × Int) × (Int × Int) × List ((Int × Int) × Int × Int)) ↦
            f17_wp
              (((Prod.fst (Prod.fst r_3), Prod.snd (Prod.fst r_3)), (Prod.fst (Prod.fst (Prod.snd r_3)), Prod.snd (Prod.fst (Prod.snd r_3))),
                  Prod.snd (Prod.snd r_3)),
                (100 : Int), ())
              () fun (r_4 : Int × Int × Int × Unit) ↦
              f39_wp () () fun (r_5 : (Int × Int) × (Int × Int) × List ((Int × Int) × Int × Int)) ↦
                f34_wp ((10 : Int), (14 : Int), ()) () fun (r_6 : Int × Int) ↦
                  f21_wp
                    (((Prod.fst (Prod.fst r_5), Prod.snd (Prod.fst r_5)), (Prod.fst (Prod.fst (Prod.snd r_5)), Prod.snd (Prod.fst (Prod.snd r_5))),
                        Prod.snd (Prod.snd r_5)),
                      (Prod.fst r_6, Prod.snd r_6), ())
                    () fun (r_7 : List Int × Int × Unit) ↦
                    f39_wp () () fun (r_8 : (Int × Int) × (Int × Int) × List ((Int × Int) × Int × Int)) ↦
                      f24_wp
                        (((Prod.fst (Prod.fst r_8), Prod.snd (Prod.fst r_8)), (Prod.fst (Prod.fst (Prod.snd r_8)), Prod.snd (Prod.fst (Prod.snd r_8))),
                            Prod.snd (Prod.snd r_8)),
                          (45 : Int), ())
                        () fun (r_9 : Int × Int × Unit) ↦
                        f39_wp () () fun (r_10 : (Int × Int) × (Int × Int) × List ((Int × Int) × Int × Int)) ↦
                          f26_wp
                            (((Prod.fst (Prod.fst r_10), Prod.snd (Prod.fst r_10)),
                                (Prod.fst (Prod.fst (Prod.snd r_10)), Prod.snd (Prod.fst (Prod.snd r_10))), Prod.snd (Prod.snd r_10)),
                              (18 : Int), ())
                            () fun (r_11 : Int × Int × Unit) ↦
                            f34_wp ((100 : Int), (120 : Int), ()) () fun (r_12 : Int × Int) ↦
                              f34_wp ((1 : Int), (1 : Int), ()) () fun (r_13 : Int × Int) ↦
                                f34_wp ((30 : Int), (40 : Int), ()) () fun (r_14 : Int × Int) ↦
                                  f34_wp ((1 : Int), (1 : Int), ()) () fun (r_15 : Int × Int) ↦
                                    f40_wp
                                      (((Prod.fst r_12, Prod.snd r_12), (Prod.fst r_13, Prod.snd r_13), (50 : Int)) ::
                                        ((Prod.fst r_14, Prod.snd r_14), (Prod.fst r_15, Prod.snd r_15), (200 : Int)) ::
                                          ([] : List ((Int × Int) × (Int × Int) × Int)))
                                      () fun (r_16 : (Int × Int) × (Int × Int) × Int × Unit) ↦
                                      cnd (Prod.fst (Prod.snd r) != (0 : Int)) (Q false)
                                        (cnd (Prod.fst (Prod.snd r_2) != (0 : Int)) (Q false)
                                          (cnd (Prod.fst (Prod.snd (Prod.snd r_4)) != (0 : Int)) (Q false)
                                            (cnd (Prod.fst (Prod.snd r_7) != (0 : Int)) (Q false)
                                              (cnd (Prod.fst (Prod.snd r_9) != (0 : Int)) (Q false)
                                                (cnd (Prod.fst (Prod.snd r_11) != (0 : Int)) (Q false)
                                                  (cnd (Prod.fst (Prod.snd (Prod.snd r_16)) != (0 : Int)) (Q false)
                                                    (∃ (r_17 : Int × Int),
                                                      (f34_wp ((16 : Int), (19 : Int), ()) () fun (r' : Int × Int) ↦ r' = r_17) ∧
                                                        cnd (Prod.fst (Prod.fst r) == Prod.fst r_17 && (Prod.snd (Prod.fst r) == Prod.snd r_17 && true))
                                                          (∃ (r : Bool),
                                                            (f41_wp (Prod.fst r_2, (1 : Int) :: (3 : Int) :: ([] : List Int), ()) () fun (r' : Bool) ↦
                                                                r' = r) ∧
                                                              cnd r
                                                                (cnd (Prod.fst r_4 == (0 : Int))
                                                                  (cnd (Prod.fst (Prod.snd r_4) == (18 : Int))
                                                                    (∃ (r : Bool),
                                                                      (f41_wp (Prod.fst r_7, (0 : Int) :: ([] : List Int), ()) () fun (r' : Bool) ↦
                                                                          r' = r) ∧
                                                                        cnd r
                                                                          (cnd (Prod.fst r_9 == (5 : Int))
                                                                            (cnd (Prod.fst r_11 == (235 : Int))
                                                                              (cnd
                                                                                (Prod.fst (Prod.fst r_16) == (80 : Int) &&
                                                                                  (Prod.snd (Prod.fst r_16) == (1 : Int) && true))
                                                                                (Q
                                                                                  (Prod.fst (Prod.fst (Prod.snd r_16)) == (650 : Int) &&
                                                                                    (Prod.snd (Prod.fst (Prod.snd r_16)) == (7 : Int) && true)))
                                                                                (Q false))
                                                                              (Q false))
                                                                            (Q false))
                                                                          (Q false))
                                                                    (Q false))
                                                                  (Q false))
                                                                (Q false))
                                                          (Q false))))))))
theorem v10 (Q : Bool → Prop) : V10 Q = vcFunc (S1 [(39, f39_ct), (13, f13_ct), (30, f30_ct), (17, f17_ct), (34, f34_ct), (21, f21_ct), (24, f24_ct), (26, f26_ct), (40, f40_ct), (41, f41_ct), (23, f23_ct)] [] [] []) f10_ct.own f10_ct.fresh no_an Tryz.f10 (bodyOf Tryz.f10) f10_ct.A f10_ct.C f10_ct.R () () Q := by kernel_rfl

end Go.Proofs.Rz
set_option linter.unusedVariables false
set_option maxRecDepth 100000
namespace Go.Proofs.Rz
open Go Go.GX Go.Proofs

theorem w28 {K : Span × Int × Unit → Prop} (h : K ((16, 19), 0, ())) : f13_wp fan0 () K := by
  have e : (if checkF fan0 = 0 then (opensF fan0, 0, ()) else ((0, 0), checkF fan0, ()) : Span × Int × Unit) = ((16, 19), 0, ()) := by decide +kernel
  show K _
  rw [e]; exact h
theorem w12 {K : List Int × Int × Unit → Prop} (h : K ([1, 3], 0, ())) : f30_wp fan0 () K := by
  have e : (if checkF fan0 = 0 then (fan0.2.2.map (stopF fan0.1 fan0.2.1), 0, ()) else ([], checkF fan0, ()) : List Int × Int × Unit) = ([1, 3], 0, ()) := by decide +kernel
  show K _
  rw [e]; exact h
theorem w32 {K : Int × Int × Int × Unit → Prop} (h : K (0, 18, 0, ())) : f17_wp (fan0, 100, ()) () K := by
  have e : widenF fan0 100 = (0, 18, 0, ()) := by decide +kernel
  show K (widenF fan0 100)
  rw [e]; exact h
theorem w25 {K : List Int × Int × Unit → Prop} (h : K ([0], 0, ())) : f21_wp (fan0, (10, 14), ()) () K := by
  have e : wrongF fan0 (10, 14) = ([0], 0, ()) := by decide +kernel
  refine ⟨fun _ _ _ _ => by show 2 ≤ 12; omega, ?_⟩
  show K (wrongF fan0 (10, 14))
  rw [e]; exact h
theorem w30 {K : Int × Int × Unit → Prop} (h : K (5, 0, ())) : f24_wp (fan0, 45, ()) () K := by
  have e : sticksF fan0 45 = (5, 0, ()) := by decide +kernel
  show K (sticksF fan0 45)
  rw [e]; exact h
theorem w31 {K : Int × Int × Unit → Prop} (h : K (235, 0, ())) : f26_wp (fan0, 18, ()) () K := by
  have e : pleatF fan0 18 = (235, 0, ()) := by decide +kernel
  show K (pleatF fan0 18)
  rw [e]; exact h
theorem w17 {K : Ratio × Ratio × Int × Unit → Prop} (h : K ((80, 1), (650, 7), 0, ())) : f40_wp [((100, 120), (1, 1), 50), ((30, 40), (1, 1), 200)] () K := by
  have e : balanceF [((100, 120), (1, 1), 50), ((30, 40), (1, 1), 200)] = ((80, 1), (650, 7), 0, ()) := by decide +kernel
  show K (balanceF _)
  rw [e]; exact h
theorem p10 {Q : Bool → Prop} (h : f10_wp () () Q) : V10 Q := by
  unfold V10 f39_wp f34_wp
  refine w28 ?_
  refine w12 ?_
  refine w32 ?_
  refine w25 ?_
  refine w30 ?_
  refine w31 ?_
  refine w17 ?_
  refine cndF (cndF (cndF (cndF (cndF (cndF (cndF ⟨_, rfl, cndT ⟨_, rfl, cndT (cndT (cndT ⟨_, rfl, cndT (cndT (cndT (cndT h)))⟩))⟩⟩))))))
theorem cnd_of {c : Bool} {p q : Prop} (hc : c = true) (h : p) : cnd c p q := by rw [hc]; exact h
theorem cnd_not {c : Bool} {p q : Prop} (hc : c = false) (h : q) : cnd c p q := by rw [hc]; exact h
end Go.Proofs.Rz
set_option maxRecDepth 100000
set_option maxHeartbeats 2000000
namespace Go.Proofs.Rz
open Go Go.GX Go.Proofs
variable [Inhabited BaseD]
theorem ok34 : CallsOK Tryz.prog (assoc glT) 34 f34_ct :=
  callsOK_E (env (ct := []) (ios := []) (hos := []) (lits := []) AllOK.nil AllW.nil AllH.nil) no_an Tryz.func34 (by kernel_rfl) (by kernel_rfl) f34_ct fun ⟨a, b, _⟩ _ Q h => (v34 a b Q).mp (p34 h)
theorem ok39 : CallsOK Tryz.prog (assoc glT) 39 f39_ct :=
  callsOK_E (env (ct := [(34, f34_ct)]) (ios := []) (hos := []) (lits := [108]) (AllOK.cons ok34 AllOK.nil) AllW.nil AllH.nil) no_an Tryz.func39 (by kernel_rfl) (by kernel_rfl) f39_ct fun () _ Q h => (v39  Q).mp (p39 h)
theorem ok10 : CallsOK Tryz.prog (assoc glT) 10 f10_ct :=
  callsOK_E (env (ct := [(39, f39_ct), (13, f13_ct), (30, f30_ct), (17, f17_ct), (34, f34_ct), (21, f21_ct), (24, f24_ct), (26, f26_ct), (40, f40_ct), (41, f41_ct), (23, f23_ct)]) (ios := []) (hos := []) (lits := []) (AllOK.cons ok39 (AllOK.cons ok13 (AllOK.cons ok30 (AllOK.cons ok17 (AllOK.cons ok34 (AllOK.cons ok21 (AllOK.cons ok24 (AllOK.cons ok26 (AllOK.cons ok40 (AllOK.cons ok41 (AllOK.cons ok23 AllOK.nil))))))))))) AllW.nil AllH.nil) no_an Tryz.func10 (by kernel_rfl) (by kernel_rfl) f10_ct fun () _ Q h => (v10  Q).mp (p10 h)
end Go.Proofs.Rz
set_option linter.unusedVariables false
set_option maxRecDepth 100000
namespace Go.Proofs.Rz
open Go Go.GX Go.Proofs

theorem gen11 {f : Fan} {K : Fan → Prop} (h : f.2.2.length ≤ 1000000) (hk : K f) : f11_wp f () K := ⟨h, hk⟩
structure SmallFan (f : Fan) : Prop where
  ok : CheckOK f
  n : f.2.2.length ≤ 12
  far : f.1.2 ≤ 2600
  near : f.2.1.2 ≤ 294
  lo : 300 ≤ f.1.1
  g : ∀ g, g ∈ f.2.2 → (0 ≤ g.1.1 ∧ g.1.1 ≤ g.1.2 ∧ g.1.2 ≤ 540) ∧ 0 ≤ g.2.1 ∧ g.2.1 ≤ g.2.2 ∧ g.2.2 ≤ 70
theorem nb (a b : Bool) (h : a = b) : (!(a == b)) = false := by rw [h]; cases b <;> rfl
end Go.Proofs.Rz
set_option linter.unusedVariables false
set_option maxRecDepth 100000
namespace Go.Proofs.Rz
open Go Go.GX Go.Proofs

def V87 (far : Int) (near : Int) (leaf : Int) (foot : Int) (Q : Int → Prop) : Prop :=
  Q (mnI (IntKind.wrap IntKind.i64 (leaf * near)) (IntKind.wrap IntKind.i64 (foot * far)))
theorem v87 (far : Int) (near : Int) (leaf : Int) (foot : Int) (Q : Int → Prop) : V87 far near leaf foot Q = vcFunc (S1 [] [] [] []) f87_ct.own f87_ct.fresh no_an Tryz.f87 (bodyOf Tryz.f87) f87_ct.A f87_ct.C f87_ct.R (far, near, leaf, foot, ()) () Q := by kernel_rfl

def V47 (f : (Int × Int) × (Int × Int) × List ((Int × Int) × Int × Int)) (Q : Int × Int × Unit → Prop) : Prop :=
  ∃ (I : Int → Int → Prop),
    ∃ (μ : Int → Int → Nat),
      I (0 : Int) (0 : Int) ∧
        ∀ (x x_1 : Int),
          I x x_1 →
            List.length (Prod.snd (Prod.snd f)) ≤ (9223372036854775807 : Nat) →
              cnd (decide (x < (↑(List.length (Prod.snd (Prod.snd f))) : Int)))
                ((0 : Int) ≤ x ∧
                  x < (↑(List.length (Prod.snd (Prod.snd f))) : Int) ∧
                    (0 : Int) ≤ x ∧
                      x < (↑(List.length (Prod.snd (Prod.snd f))) : Int) ∧
                        ∃ (r : Int),
                          (f87_wp
                              (Prod.snd (Prod.fst f), Prod.snd (Prod.fst (Prod.snd f)),
                                Prod.fst (Prod.fst (List.getD (Prod.snd (Prod.snd f)) (Int.toNat x) (((0 : Int), (0 : Int)), (0 : Int), (0 : Int)))),
                                Prod.fst (Prod.snd (List.getD (Prod.snd (Prod.snd f)) (Int.toNat x) (((0 : Int), (0 : Int)), (0 : Int), (0 : Int)))),
                                ())
                              () fun (r' : Int) ↦ r' = r) ∧
                            I (IntKind.wrap IntKind.i64 (x + (1 : Int))) (IntKind.wrap IntKind.i64 (x_1 + r)) ∧
                              μ (IntKind.wrap IntKind.i64 (x + (1 : Int))) (IntKind.wrap IntKind.i64 (x_1 + r)) < μ x x_1)
                (Q (x_1, IntKind.wrap IntKind.i64 (Prod.snd (Prod.fst f) * Prod.snd (Prod.fst (Prod.snd f))), ()))
theorem v47 (f : (Int × Int) × (Int × Int) × List ((Int × Int) × Int × Int)) (Q : Int × Int × Unit → Prop) : V47 f Q = vcFunc (S1 [(87, f87_ct)] [] [] []) f47_ct.own f47_ct.fresh f47_an Tryz.f47 (bodyOf Tryz.f47) f47_ct.A f47_ct.C f47_ct.R f () Q := by kernel_rfl

def V48 (f : (Int × Int) × (Int × Int) × List ((Int × Int) × Int × Int)) (Q : Int × Int × Unit → Prop) : Prop :=
  ∃ (I : Int → Int → Prop),
    ∃ (μ : Int → Int → Nat),
      I (0 : Int) (0 : Int) ∧
        ∀ (x x_1 : Int),
          I x x_1 →
            List.length (Prod.snd (Prod.snd f)) ≤ (9223372036854775807 : Nat) →
              cnd (decide (x < (↑(List.length (Prod.snd (Prod.snd f))) : Int)))
                ((0 : Int) ≤ x ∧
                  x < (↑(List.length (Prod.snd (Prod.snd f))) : Int) ∧
                    (0 : Int) ≤ x ∧
                      x < (↑(List.length (Prod.snd (Prod.snd f))) : Int) ∧
                        ∃ (r : Int),
                          (f87_wp
                              (Prod.fst (Prod.fst f), Prod.fst (Prod.fst (Prod.snd f)),
                                Prod.snd (Prod.fst (List.getD (Prod.snd (Prod.snd f)) (Int.toNat x) (((0 : Int), (0 : Int)), (0 : Int), (0 : Int)))),
                                Prod.snd (Prod.snd (List.getD (Prod.snd (Prod.snd f)) (Int.toNat x) (((0 : Int), (0 : Int)), (0 : Int), (0 : Int)))),
                                ())
                              () fun (r' : Int) ↦ r' = r) ∧
                            I (IntKind.wrap IntKind.i64 (x + (1 : Int))) (IntKind.wrap IntKind.i64 (x_1 + r)) ∧
                              μ (IntKind.wrap IntKind.i64 (x + (1 : Int))) (IntKind.wrap IntKind.i64 (x_1 + r)) < μ x x_1)
                (Q (x_1, IntKind.wrap IntKind.i64 (Prod.fst (Prod.fst f) * Prod.fst (Prod.fst (Prod.snd f))), ()))
theorem v48 (f : (Int × Int) × (Int × Int) × List ((Int × Int) × Int × Int)) (Q : Int × Int × Unit → Prop) : V48 f Q = vcFunc (S1 [(87, f87_ct)] [] [] []) f48_ct.own f48_ct.fresh f47_an Tryz.f48 (bodyOf Tryz.f48) f48_ct.A f48_ct.C f48_ct.R f () Q := by kernel_rfl

def V49 (n : Int) (d : Int) (Q : Int → Prop) : Prop :=
  IntKind.wrap IntKind.i64 ((355 : Int) * d) ≠ (0 : Int) ∧
    Q
      (mnI (360 : Int)
        (IntKind.wrap IntKind.i64 (Int.tdiv (IntKind.wrap IntKind.i64 ((20340 : Int) * n)) (IntKind.wrap IntKind.i64 ((355 : Int) * d)))))
theorem v49 (n : Int) (d : Int) (Q : Int → Prop) : V49 n d Q = vcFunc (S1 [] [] [] []) f49_ct.own f49_ct.fresh no_an Tryz.f49 (bodyOf Tryz.f49) f49_ct.A f49_ct.C f49_ct.R (n, d, ()) () Q := by kernel_rfl

def V16 (f : (Int × Int) × (Int × Int) × List ((Int × Int) × Int × Int)) (Q : Int × Int → Prop) : Prop :=
  f47_wp ((Prod.fst (Prod.fst f), Prod.snd (Prod.fst f)), (Prod.fst (Prod.fst (Prod.snd f)), Prod.snd (Prod.fst (Prod.snd f))), Prod.snd (Prod.snd f))
    () fun (r : Int × Int × Unit) ↦
    f48_wp ((Prod.fst (Prod.fst f), Prod.snd (Prod.fst f)), (Prod.fst (Prod.fst (Prod.snd f)), Prod.snd (Prod.fst (Prod.snd f))), Prod.snd (Prod.snd f))
      () fun (r_1 : Int × Int × Unit) ↦
      f32_wp (Prod.fst r, Prod.fst (Prod.snd r), ()) () fun (r : Int) ↦
        f32_wp (Prod.fst r_1, Prod.fst (Prod.snd r_1), ()) () fun (r_2 : Int) ↦ Q (r, r_2)
theorem v16 (f : (Int × Int) × (Int × Int) × List ((Int × Int) × Int × Int)) (Q : Int × Int → Prop) : V16 f Q = vcFunc (S1 [(47, f47_ct), (48, f48_ct), (49, f49_ct)] [] [] []) f16_ct.own f16_ct.fresh no_an Tryz.f16 (bodyOf Tryz.f16) f16_ct.A f16_ct.C f16_ct.R f () Q := by kernel_rfl

def V20 (n : Int) (Q : Bool → Prop) : Prop :=
  f18_wp (n, (0 : Int), (360 : Int), ()) () fun (r : Bool) ↦ Q r
theorem v20 (n : Int) (Q : Bool → Prop) : V20 n Q = vcFunc (S1 [(18, f18_ct)] [] [] []) f20_ct.own f20_ct.fresh no_an Tryz.f20 (bodyOf Tryz.f20) f20_ct.A f20_ct.C f20_ct.R n () Q := by kernel_rfl

end Go.Proofs.Rz
set_option linter.unusedVariables false
set_option maxRecDepth 100000
namespace Go.Proofs.Rz
open Go Go.GX Go.Proofs

theorem p87 {far near leaf foot : Int} {Q : Int → Prop} (h : f87_wp (far, near, leaf, foot, ()) () Q) : V87 far near leaf foot Q := by
  obtain ⟨⟨⟨a1, a2⟩, ⟨b1, b2⟩, ⟨c1, c2⟩, d1, d2⟩, h⟩ := h
  have m1 := mulB (show 0 ≤ leaf from c1) (show leaf ≤ 2000 from c2) (show 0 ≤ near from b1) (show near ≤ 6000 from b2)
  have m2 := mulB (show 0 ≤ foot from d1) (show foot ≤ 2000 from d2) (show 0 ≤ far from a1) (show far ≤ 6000 from a2)
  rw [V87, wrapS (x := leaf * near) (by omega) (by omega), wrapS (x := foot * far) (by omega) (by omega), mnI_min]
  exact h
theorem sumG_bound {f : Fan} (h : FanOK f) {arc : Span → Int} (ha : IsEnd arc) {F N : Int} (hF : 1 ≤ F ∧ F ≤ 6000) (hN : 1 ≤ N ∧ N ≤ 6000) : ∀ k, k ≤ f.2.2.length → 0 ≤ sumG arc F N (f.2.2.take k) ∧ sumG arc F N (f.2.2.take k) ≤ 12000000 * k
  | 0, _ => ⟨Int.le_refl _, Int.le_refl _⟩
  | k + 1, hk => by
    have ih := sumG_bound h ha hF hN k (by omega)
    have hg := h.g _ (getD_mem (d := g0) (show k < f.2.2.length from hk))
    have e1 : 0 ≤ arc (f.2.2.getD k g0).1 ∧ arc (f.2.2.getD k g0).1 ≤ 2000 := end_range ha hg.1.1 hg.1.2
    have e2 : 0 ≤ arc (f.2.2.getD k g0).2 ∧ arc (f.2.2.getD k g0).2 ≤ 600 := end_range ha hg.2.1 hg.2.2
    have m1 := mulB e1.1 e1.2 (show 0 ≤ N by omega) hN.2
    have m2 := mulB e2.1 e2.2 (show 0 ≤ F by omega) hF.2
    have ea : angG arc F N (f.2.2.getD k g0) = min (arc (f.2.2.getD k g0).1 * N) (arc (f.2.2.getD k g0).2 * F) := rfl
    rw [sumG_take_succ _ _ _ (show k < f.2.2.length from hk), ea]
    push_cast
    omega
theorem p47 {f : Fan} {Q : Int × Int × Unit → Prop} (h : f47_wp f () Q) : V47 f Q := by
  obtain ⟨hf, h⟩ := h
  have h1 := hf.far.2
  have h2 := hf.near.2
  have hn := hf.n
  unfold inR at h1 h2
  refine forUpL (fun k => sumG loE f.1.2 f.2.1.2 (f.2.2.take k)) rfl (fun k hk I μ hI hw => ?_) ?_
  · have hg := hf.g _ (getD_mem (d := g0) hk)
    unfold inR at hg
    have hb := sumG_bound hf lo_end h1 h2 k (by omega)
    have hb2 := sumG_bound hf lo_end h1 h2 (k + 1) hk
    rw [sumG_take_succ _ _ _ hk] at hI hb2
    refine ⟨by omega, by omega, by omega, by omega, _, ⟨⟨by show 0 ≤ f.1.2 ∧ f.1.2 ≤ 6000; omega, by show 0 ≤ f.2.1.2 ∧ f.2.1.2 ≤ 6000; omega, by show 0 ≤ (f.2.2.getD k g0).1.1 ∧ (f.2.2.getD k g0).1.1 ≤ 2000; omega, by show 0 ≤ (f.2.2.getD k g0).2.1; omega, by show (f.2.2.getD k g0).2.1 ≤ 2000; omega⟩, rfl⟩, ?_⟩
    change I _ (IntKind.wrap .i64 (sumG loE f.1.2 f.2.1.2 (f.2.2.take k) + angG loE f.1.2 f.2.1.2 (f.2.2.getD k g0))) ∧ μ _ (IntKind.wrap .i64 (sumG loE f.1.2 f.2.1.2 (f.2.2.take k) + angG loE f.1.2 f.2.1.2 (f.2.2.getD k g0))) < _
    rw [hw, wrapS (x := sumG loE f.1.2 f.2.1.2 (f.2.2.take k) + angG loE f.1.2 f.2.1.2 (f.2.2.getD k g0)) (by omega) (by omega)]
    exact hI
  · have m := mulB (show 0 ≤ f.1.2 by omega) h1.2 (show 0 ≤ f.2.1.2 by omega) h2.2
    rw [List.take_length]
    show Q (_, IntKind.wrap .i64 (f.1.2 * f.2.1.2), ())
    rw [wrapS (by omega) (by omega)]
    exact h
theorem p48 {f : Fan} {Q : Int × Int × Unit → Prop} (h : f48_wp f () Q) : V48 f Q := by
  obtain ⟨hf, h⟩ := h
  have h1 := hf.far.1
  have h2 := hf.near.1
  have hn := hf.n
  unfold inR at h1 h2
  refine forUpL (fun k => sumG hiE f.1.1 f.2.1.1 (f.2.2.take k)) rfl (fun k hk I μ hI hw => ?_) ?_
  · have hg := hf.g _ (getD_mem (d := g0) hk)
    unfold inR at hg
    have hb := sumG_bound hf hi_end h1 h2 k (by omega)
    have hb2 := sumG_bound hf hi_end h1 h2 (k + 1) hk
    rw [sumG_take_succ _ _ _ hk] at hI hb2
    refine ⟨by omega, by omega, by omega, by omega, _, ⟨⟨by show 0 ≤ f.1.1 ∧ f.1.1 ≤ 6000; omega, by show 0 ≤ f.2.1.1 ∧ f.2.1.1 ≤ 6000; omega, by show 0 ≤ (f.2.2.getD k g0).1.2 ∧ (f.2.2.getD k g0).1.2 ≤ 2000; omega, by show 0 ≤ (f.2.2.getD k g0).2.2; omega, by show (f.2.2.getD k g0).2.2 ≤ 2000; omega⟩, rfl⟩, ?_⟩
    change I _ (IntKind.wrap .i64 (sumG hiE f.1.1 f.2.1.1 (f.2.2.take k) + angG hiE f.1.1 f.2.1.1 (f.2.2.getD k g0))) ∧ μ _ (IntKind.wrap .i64 (sumG hiE f.1.1 f.2.1.1 (f.2.2.take k) + angG hiE f.1.1 f.2.1.1 (f.2.2.getD k g0))) < _
    rw [hw, wrapS (x := sumG hiE f.1.1 f.2.1.1 (f.2.2.take k) + angG hiE f.1.1 f.2.1.1 (f.2.2.getD k g0)) (by omega) (by omega)]
    exact hI
  · have m := mulB (show 0 ≤ f.1.1 by omega) h1.2 (show 0 ≤ f.2.1.1 by omega) h2.2
    rw [List.take_length]
    show Q (_, IntKind.wrap .i64 (f.1.1 * f.2.1.1), ())
    rw [wrapS (by omega) (by omega)]
    exact h
theorem p49 {n d : Int} {Q : Int → Prop} (h : f49_wp (n, d, ()) () Q) : V49 n d Q := p32 h
theorem p16 {f : Fan} {Q : Span → Prop} (h : f16_wp f () Q) : V16 f Q := by
  obtain ⟨hf, h⟩ := h
  have l1 := (lowT_ok hf).num
  have l2 := (lowT_ok hf).den
  have g1 := (highT_ok hf).num
  have g2 := (highT_ok hf).den
  rw [(low_num f).1] at l1
  rw [(low_num f).2] at l2
  rw [(high_num f).1] at g1
  rw [(high_num f).2] at g2
  have e : opensF f = (degND (sumG loE f.1.2 f.2.1.2 f.2.2) (f.1.2 * f.2.1.2), degND (sumG hiE f.1.1 f.2.1.1 f.2.2) (f.1.1 * f.2.1.1)) := by
    unfold opensF
    rw [degF_eq, degF_eq, (low_num f).1, (low_num f).2, (high_num f).1, (high_num f).2]
  rw [e] at h
  refine ⟨hf, hf, ⟨by show 0 ≤ sumG loE f.1.2 f.2.1.2 f.2.2; omega, by show sumG loE f.1.2 f.2.1.2 f.2.2 ≤ _; omega, by show 1 ≤ f.1.2 * f.2.1.2; omega, by show f.1.2 * f.2.1.2 ≤ _; omega⟩, ⟨by show 0 ≤ sumG hiE f.1.1 f.2.1.1 f.2.2; omega, by show sumG hiE f.1.1 f.2.1.1 f.2.2 ≤ _; omega, by show 1 ≤ f.1.1 * f.2.1.1; omega, by show f.1.1 * f.2.1.1 ≤ _; omega⟩, h⟩
theorem p20 {n : Int} {Q : Bool → Prop} (h : f20_wp n () Q) : V20 n Q := h
end Go.Proofs.Rz
set_option linter.unusedVariables false
set_option maxRecDepth 100000
namespace Go.Proofs.Rz
open Go Go.GX Go.Proofs

def V3 (f : (Int × Int) × (Int × Int) × List ((Int × Int) × Int × Int)) (Q : Bool → Prop) : Prop :=
  List.length (Prod.snd (Prod.snd f)) ≤ (9223372036854775807 : Nat) →
    cnd (decide ((↑(List.length (Prod.snd (Prod.snd f))) : Int) > (50 : Int))) (f10_wp () () fun (r : Bool) ↦ Q r)
      (f11_wp
        ((Prod.fst (Prod.fst f), Prod.snd (Prod.fst f)), (Prod.fst (Prod.fst (Prod.snd f)), Prod.snd (Prod.fst (Prod.snd f))), Prod.snd (Prod.snd f)) ()
        fun (r : (Int × Int) × (Int × Int) × List ((Int × Int) × Int × Int)) ↦
        f12_wp
          ((Prod.fst (Prod.fst r), Prod.snd (Prod.fst r)), (Prod.fst (Prod.fst (Prod.snd r)), Prod.snd (Prod.fst (Prod.snd r))), Prod.snd (Prod.snd r))
          () fun (r_1 : Int) ↦
          f13_wp
            ((Prod.fst (Prod.fst r), Prod.snd (Prod.fst r)), (Prod.fst (Prod.fst (Prod.snd r)), Prod.snd (Prod.fst (Prod.snd r))),
              Prod.snd (Prod.snd r))
            () fun (r_2 : (Int × Int) × Int × Unit) ↦
            f14_wp
              ((Prod.fst (Prod.fst f), Prod.snd (Prod.fst f)), (Prod.fst (Prod.fst (Prod.snd f)), Prod.snd (Prod.fst (Prod.snd f))),
                Prod.snd (Prod.snd f))
              () fun (r_3 : Int) ↦
              f15_wp
                (((Prod.fst (Prod.fst r), Prod.snd (Prod.fst r)), (Prod.fst (Prod.fst (Prod.snd r)), Prod.snd (Prod.fst (Prod.snd r))),
                    Prod.snd (Prod.snd r)),
                  ((Prod.fst (Prod.fst f), Prod.snd (Prod.fst f)), (Prod.fst (Prod.fst (Prod.snd f)), Prod.snd (Prod.fst (Prod.snd f))),
                    Prod.snd (Prod.snd f)),
                  ())
                () fun (r : Bool) ↦
                cnd (!r) (Q false)
                  (cnd (r_1 != r_3) (Q false)
                    (cnd (Prod.fst (Prod.snd r_2) != r_3) (Q false)
                      (cnd (r_3 != (0 : Int))
                        (cnd (Prod.fst (Prod.fst r_2) == (0 : Int) && (Prod.snd (Prod.fst r_2) == (0 : Int) && true))
                          (f10_wp () () fun (r : Bool) ↦ Q r) (Q false))
                        (∃ (r : Int × Int),
                          (f16_wp
                              ((Prod.fst (Prod.fst f), Prod.snd (Prod.fst f)), (Prod.fst (Prod.fst (Prod.snd f)), Prod.snd (Prod.fst (Prod.snd f))),
                                Prod.snd (Prod.snd f))
                              () fun (r' : Int × Int) ↦ r' = r) ∧
                            cnd (Prod.fst (Prod.fst r_2) == Prod.fst r && (Prod.snd (Prod.fst r_2) == Prod.snd r && true))
                              (∃ (r : Bool), (f10_wp () () fun (r' : Bool) ↦ r' = r) ∧ Q r) (Q false))))))
theorem v3 (f : (Int × Int) × (Int × Int) × List ((Int × Int) × Int × Int)) (Q : Bool → Prop) : V3 f Q = vcFunc (S1 [(10, f10_ct), (11, f11_ct), (12, f12_ct), (13, f13_ct), (14, f14_ct), (15, f15_ct), (16, f16_ct)] [] [] []) f3_ct.own f3_ct.fresh no_an Tryz.f3 (bodyOf Tryz.f3) f3_ct.A f3_ct.C f3_ct.R f () Q := by kernel_rfl

def V4 (f : (Int × Int) × (Int × Int) × List ((Int × Int) × Int × Int)) (more : Int) (Q : Bool → Prop) : Prop :=
  List.length (Prod.snd (Prod.snd f)) ≤ (9223372036854775807 : Nat) →
    cnd (decide ((↑(List.length (Prod.snd (Prod.snd f))) : Int) > (50 : Int))) (f10_wp () () fun (r : Bool) ↦ Q r)
      (f11_wp
        ((Prod.fst (Prod.fst f), Prod.snd (Prod.fst f)), (Prod.fst (Prod.fst (Prod.snd f)), Prod.snd (Prod.fst (Prod.snd f))), Prod.snd (Prod.snd f)) ()
        fun (r : (Int × Int) × (Int × Int) × List ((Int × Int) × Int × Int)) ↦
        f17_wp
          (((Prod.fst (Prod.fst r), Prod.snd (Prod.fst r)), (Prod.fst (Prod.fst (Prod.snd r)), Prod.snd (Prod.fst (Prod.snd r))),
              Prod.snd (Prod.snd r)),
            more, ())
          () fun (r_1 : Int × Int × Int × Unit) ↦
          f15_wp
            (((Prod.fst (Prod.fst r), Prod.snd (Prod.fst r)), (Prod.fst (Prod.fst (Prod.snd r)), Prod.snd (Prod.fst (Prod.snd r))),
                Prod.snd (Prod.snd r)),
              ((Prod.fst (Prod.fst f), Prod.snd (Prod.fst f)), (Prod.fst (Prod.fst (Prod.snd f)), Prod.snd (Prod.fst (Prod.snd f))),
                Prod.snd (Prod.snd f)),
              ())
            () fun (r : Bool) ↦
            cnd (!r) (Q false)
              (f14_wp
                ((Prod.fst (Prod.fst f), Prod.snd (Prod.fst f)), (Prod.fst (Prod.fst (Prod.snd f)), Prod.snd (Prod.fst (Prod.snd f))),
                  Prod.snd (Prod.snd f))
                () fun (r : Int) ↦
                ∃ (I : Bool → Prop),
                  cnd (r == (0 : Int)) (f18_wp (more, (0 : Int), (1000 : Int), ()) () fun (r : Bool) ↦ I !r) (I false) ∧
                    ∀ (x : Bool),
                      I x →
                        ∃ (I : Int → Prop),
                          cnd x (I (4 : Int))
                              (cnd (r == (0 : Int))
                                (List.length (Prod.snd (Prod.snd f)) ≤ (9223372036854775807 : Nat) →
                                  cnd ((↑(List.length (Prod.snd (Prod.snd f))) : Int) == (0 : Int)) (I (7 : Int)) (I r))
                                (I r)) ∧
                            ∀ (x : Int),
                              I x →
                                cnd (x != (0 : Int))
                                  (cnd (Prod.fst (Prod.snd (Prod.snd r_1)) == x)
                                    (cnd (Prod.fst r_1 == (0 : Int))
                                      (cnd (Prod.fst (Prod.snd r_1) == (0 : Int)) (f10_wp () () fun (r : Bool) ↦ Q r) (Q false)) (Q false))
                                    (Q false))
                                  (f19_wp
                                    (((Prod.fst (Prod.fst f), Prod.snd (Prod.fst f)),
                                        (Prod.fst (Prod.fst (Prod.snd f)), Prod.snd (Prod.fst (Prod.snd f))), Prod.snd (Prod.snd f)),
                                      more, ())
                                    () fun (r : Int × Int × Unit) ↦
                                    cnd (Prod.fst (Prod.snd (Prod.snd r_1)) == (0 : Int))
                                      (cnd (Prod.fst r_1 == Prod.fst r)
                                        (cnd (Prod.fst (Prod.snd r_1) == Prod.fst (Prod.snd r)) (f10_wp () () fun (r : Bool) ↦ Q r) (Q false))
                                        (Q false))
                                      (Q false))))
theorem v4 (f : (Int × Int) × (Int × Int) × List ((Int × Int) × Int × Int)) (more : Int) (Q : Bool → Prop) : V4 f more Q = vcFunc (S1 [(10, f10_ct), (11, f11_ct), (17, f17_ct), (15, f15_ct), (14, f14_ct), (18, f18_ct), (19, f19_ct)] [] [] []) f4_ct.own f4_ct.fresh f4_an Tryz.f4 (bodyOf Tryz.f4) f4_ct.A f4_ct.C f4_ct.R (f, more, ()) () Q := by kernel_rfl

end Go.Proofs.Rz
set_option linter.unusedVariables false
set_option maxRecDepth 100000
namespace Go.Proofs.Rz
open Go Go.GX Go.Proofs

theorem gen12 {f : Fan} {K : Int → Prop} (h : K (checkF f)) : f12_wp f () K := h
theorem gen14 {f : Fan} {K : Int → Prop} (h : K (checkF f)) : f14_wp f () K := h
theorem gen15 {a b : Fan} {K : Bool → Prop} (h : K (decide (a = b))) : f15_wp (a, b, ()) () K := h
theorem gen13a {f : Fan} {K : Span × Int × Unit → Prop} (e : checkF f = 0) (h : K (opensF f, 0, ())) : f13_wp f () K := by
  show K (if checkF f = 0 then (opensF f, 0, ()) else ((0, 0), checkF f, ()))
  rw [if_pos e]; exact h
theorem gen13b {f : Fan} {K : Span × Int × Unit → Prop} (e : checkF f ≠ 0) (h : K ((0, 0), checkF f, ())) : f13_wp f () K := by
  show K (if checkF f = 0 then (opensF f, 0, ()) else ((0, 0), checkF f, ()))
  rw [if_neg e]; exact h
theorem gen17 {f : Fan} {d : Int} {K : Int × Int × Int × Unit → Prop} (hk : ∀ z, z = widenF f d → K z) : f17_wp (f, d, ()) () K := hk _ rfl
theorem beqF {x : Int} (h : x ≠ 0) : (x == 0) = false := by simpa using h
theorem beqT {x y : Int} (h : x = y) : (x == y) = true := by simpa using h
theorem p3 {f : Fan} {Q : Bool → Prop} (h : f3_wp f () Q) : V3 f Q := by
  have h : Q true := h
  intro hl
  refine cnd_iff.2 ⟨fun c => h, fun c => ?_⟩
  have c : ¬ (f.2.2.length : Int) > 50 := of_decide_eq_false c
  refine gen11 (f := f) (by omega) (gen12 (f := f) ?_)
  by_cases e : checkF f = 0
  · refine gen13a (f := f) e (gen14 (f := f) (gen15 (a := f) (b := f) ?_))
    refine cnd_not (by simp) (cnd_not (by simp) (cnd_not (by simp [e]) (cnd_not (by simp [e]) ?_)))
    exact ⟨_, ⟨(checkF_ok.1 e).fan, rfl⟩, cnd_of (by simp) ⟨true, rfl, h⟩⟩
  · refine gen13b (f := f) e (gen14 (f := f) (gen15 (a := f) (b := f) ?_))
    exact cnd_not (by simp) (cnd_not (by simp) (cnd_not (by simp) (cnd_of (bne0.1.2 e) (cndT h))))
theorem p4 {f : Fan} {more : Int} {Q : Bool → Prop} (h : f4_wp (f, more, ()) () Q) : V4 f more Q := by
  have h : Q true := h
  intro hl
  refine cnd_iff.2 ⟨fun c => h, fun c => ?_⟩
  have c : ¬ (f.2.2.length : Int) > 50 := of_decide_eq_false c
  refine gen11 (f := f) (by omega) (gen17 (f := f) (d := more) fun z hz => gen15 (a := f) (b := f) (cnd_not (by simp) (gen14 (f := f) ?_)))
  unfold widenF at hz
  by_cases e : checkF f = 0
  · rw [if_neg (by omega)] at hz
    have ho := checkF_ok.1 e
    cases i : inB 0 1000 more with
    | false =>
      rw [if_pos i] at hz
      subst hz
      refine ⟨fun x => x = true, cnd_of (beqT e) (by show (!inB 0 1000 more) = true; rw [i]; rfl), ?_⟩
      rintro _ rfl
      refine ⟨fun x => x = 4, cndT rfl, ?_⟩
      rintro _ rfl
      exact cndT (cndT (cndT (cndT h)))
    | true =>
      rw [if_neg (by rw [i]; simp)] at hz
      refine ⟨fun x => x = false, cnd_of (beqT e) (by show (!inB 0 1000 more) = false; rw [i]; rfl), ?_⟩
      rintro _ rfl
      by_cases n : f.2.2.length = 0
      · rw [if_pos n] at hz
        subst hz
        refine ⟨fun x => x = 7, cndF (cnd_of (beqT e) fun _ => cnd_of (by rw [n]; rfl) rfl), ?_⟩
        rintro _ rfl
        exact cndT (cndT (cndT (cndT h)))
      · rw [if_neg n] at hz
        subst hz
        refine ⟨fun x => x = 0, cndF (cnd_of (beqT e) fun _ => cnd_not (by simpa using n) e), ?_⟩
        rintro _ rfl
        simp only [inB, Bool.and_eq_true, decide_eq_true_eq] at i
        exact cndF ⟨⟨ho, i⟩, cndT (cnd_of (by simp) (cnd_of (by simp) h))⟩
  · rw [if_pos e] at hz
    subst hz
    refine ⟨fun x => x = false, cnd_not (beqF e) rfl, ?_⟩
    rintro _ rfl
    refine ⟨fun x => x = checkF f, cndF (cnd_not (beqF e) rfl), ?_⟩
    rintro _ rfl
    exact cnd_of (bne0.1.2 e) (cnd_of (by simp) (cndT (cndT h)))
end Go.Proofs.Rz
set_option maxRecDepth 100000
set_option maxHeartbeats 2000000
namespace Go.Proofs.Rz
open Go Go.GX Go.Proofs
variable [Inhabited BaseD]
theorem ok87 : CallsOK Tryz.prog (assoc glT) 87 f87_ct :=
  callsOK_E (env (ct := []) (ios := []) (hos := []) (lits := []) AllOK.nil AllW.nil AllH.nil) no_an Tryz.func87 (by kernel_rfl) (by kernel_rfl) f87_ct fun ⟨far, near, leaf, foot, _⟩ _ Q h => (v87 far near leaf foot Q).mp (p87 h)
theorem ok47 : CallsOK Tryz.prog (assoc glT) 47 f47_ct :=
  callsOK_E (env (ct := [(87, f87_ct)]) (ios := []) (hos := []) (lits := []) (AllOK.cons ok87 AllOK.nil) AllW.nil AllH.nil) f47_an Tryz.func47 (by kernel_rfl) (by kernel_rfl) f47_ct fun f _ Q h => (v47 f Q).mp (p47 h)
theorem ok48 : CallsOK Tryz.prog (assoc glT) 48 f48_ct :=
  callsOK_E (env (ct := [(87, f87_ct)]) (ios := []) (hos := []) (lits := []) (AllOK.cons ok87 AllOK.nil) AllW.nil AllH.nil) f47_an Tryz.func48 (by kernel_rfl) (by kernel_rfl) f48_ct fun f _ Q h => (v48 f Q).mp (p48 h)
theorem ok49 : CallsOK Tryz.prog (assoc glT) 49 f49_ct :=
  callsOK_E (env (ct := []) (ios := []) (hos := []) (lits := []) AllOK.nil AllW.nil AllH.nil) no_an Tryz.func49 (by kernel_rfl) (by kernel_rfl) f49_ct fun ⟨n, d, _⟩ _ Q h => (v49 n d Q).mp (p49 h)
theorem ok16 : CallsOK Tryz.prog (assoc glT) 16 f16_ct :=
  callsOK_E (env (ct := [(47, f47_ct), (48, f48_ct), (49, f49_ct)]) (ios := []) (hos := []) (lits := []) (AllOK.cons ok47 (AllOK.cons ok48 (AllOK.cons ok49 AllOK.nil))) AllW.nil AllH.nil) no_an Tryz.func16 (by kernel_rfl) (by kernel_rfl) f16_ct fun f _ Q h => (v16 f Q).mp (p16 h)
theorem ok20 : CallsOK Tryz.prog (assoc glT) 20 f20_ct :=
  callsOK_E (env (ct := [(18, f18_ct)]) (ios := []) (hos := []) (lits := []) (AllOK.cons ok18 AllOK.nil) AllW.nil AllH.nil) no_an Tryz.func20 (by kernel_rfl) (by kernel_rfl) f20_ct fun n _ Q h => (v20 n Q).mp (p20 h)
end Go.Proofs.Rz
set_option linter.unusedVariables false
set_option maxRecDepth 100000
namespace Go.Proofs.Rz
open Go Go.GX Go.Proofs

def leR (a b : Ratio) : Prop := a.1 * b.2 ≤ b.1 * a.2
inductive Att : List Stick → Ratio → Prop
  | nil : Att [] (0, 0)
  | cons {s : Stick} {t : List Stick} {r : Ratio} {w : Int} : w = s.1.1 ∨ w = s.1.2 → Att t r → Att (s :: t) (r.1 + w * s.2.2, r.2 + w)
theorem Att.perm {l l' : List Stick} (hp : l.Perm l') : ∀ {r : Ratio}, Att l r → Att l' r := by
  induction hp with
  | nil => intro r h; exact h
  | cons x _ ih =>
    intro r h
    cases h with
    | cons hw ht => exact .cons hw (ih ht)
  | swap x y l =>
    intro r h
    cases h with
    | @cons _ _ r1 w hw ht =>
      cases ht with
      | @cons _ _ r2 w2 hw2 ht =>
        have := Att.cons hw2 (Att.cons hw ht)
        have e : ((r2.1 + w * y.2.2 + w2 * x.2.2, r2.2 + w + w2) : Ratio) = (r2.1 + w2 * x.2.2 + w * y.2.2, r2.2 + w2 + w) := by
          refine Prod.ext ?_ ?_ <;> dsimp only <;> omega
        exact e ▸ this
  | trans _ _ ih1 ih2 => intro r h; exact ih2 (ih1 h)
end Go.Proofs.Rz
set_option linter.unusedVariables false
set_option maxRecDepth 100000
namespace Go.Proofs.Rz
open Go Go.GX Go.Proofs

def fr (t : Turn) : Ratio := (numT t, denT t)
inductive Pw (R : Gap → Gap → Prop) : List Gap → List Gap → Prop
  | nil : Pw R [] []
  | cons {a b : Gap} {l m : List Gap} : R a b → Pw R l m → Pw R (a :: l) (b :: m)
theorem Pw.of_getD {R : Gap → Gap → Prop} : ∀ {l m : List Gap}, l.length = m.length → (∀ i, i < l.length → R (l.getD i g0) (m.getD i g0)) → Pw R l m
  | [], [], _, _ => .nil
  | a :: l, b :: m, h, hr => .cons (hr 0 (Nat.zero_lt_succ _)) (Pw.of_getD (by simpa using h) fun i hi => hr (i + 1) (Nat.succ_lt_succ hi))
  | [], _ :: _, h, _ => by cases h
  | _ :: _, [], h, _ => by cases h
theorem Pw.refl {R : Gap → Gap → Prop} (l : List Gap) (h : ∀ g, g ∈ l → R g g) : Pw R l l := .of_getD rfl fun i hi => h _ (getD_mem hi)
structure Made (f : Fan) (k : Nat) (g : Fan) : Prop where
  ok : CheckOK g
  up : k < 3 → leR (fr (lowT f)) (fr (lowT g)) ∧ leR (fr (highT f)) (fr (highT g))
  down : k = 3 ∨ k = 4 → leR (fr (lowT g)) (fr (lowT f)) ∧ leR (fr (highT g)) (fr (highT f))
  mid : k = 5 → leR (fr (lowT f)) (fr (lowT g)) ∧ leR (fr (highT g)) (fr (highT f))
section
variable {f : Fan} (h : SmallFan f)
include h
end

end Go.Proofs.Rz
set_option linter.unusedVariables false
set_option maxRecDepth 100000
namespace Go.Proofs.Rz
open Go Go.GX Go.Proofs

def ints (n : Nat) : List Int := (List.range n).map fun (i : Nat) => (i : Int)
theorem ints_step (n : Nat) : ints (n + 1) = ints n ++ [(n : Int)] := by simp [ints, List.range_succ]
def angO (f : Fan) (x : Int) : Int := angI f x.toNat
def selS (f : Fan) (p : Int → Bool) (n : Nat) : Int := (((ints n).filter p).map (angO f)).sum
def cntP (p : Int → Bool) (n : Nat) : Nat := ((ints n).filter p).length
theorem selS_succ (f : Fan) (p : Int → Bool) (n : Nat) : selS f p (n + 1) = selS f p n + if p (n : Int) then angI f n else 0 := by
  unfold selS
  rw [ints_step, List.filter_append, List.map_append, List.sum_append]
  cases hp : p (n : Int) with
  | true => simp [hp, angO]
  | false => simp [hp]
theorem cntP_succ (p : Int → Bool) (n : Nat) : cntP p (n + 1) = cntP p n + if p (n : Int) then 1 else 0 := by
  unfold cntP
  rw [ints_step, List.filter_append, List.length_append]
  cases hp : p (n : Int) with
  | true => simp [hp]
  | false => simp [hp]
def totS (f : Fan) (n : Nat) : Int := ((ints n).map (angO f)).sum
theorem totS_succ (f : Fan) (n : Nat) : totS f (n + 1) = totS f n + angI f n := by
  unfold totS
  rw [ints_step, List.map_append, List.sum_append]
  simp [angO]
theorem rest_sel (f : Fan) (p : Int → Bool) : ∀ n, restS f p n + selS f p n = totS f n
  | 0 => rfl
  | n + 1 => by
    have := rest_sel f p n
    rw [restS_succ, selS_succ, totS_succ]
    split <;> omega
theorem perm_sum {l m : List Int} (h : l.Perm m) : l.sum = m.sum := by
  induction h with
  | nil => rfl
  | cons x _ ih => rw [List.sum_cons, List.sum_cons, ih]
  | swap x y l => simp only [List.sum_cons]; omega
  | trans _ _ ih1 ih2 => rw [ih1, ih2]

theorem desc_take {key : Int → Int} {l : List Int} (hd : l.Pairwise fun a b => key b ≤ key a) : ∀ {s : List Int}, s.Sublist l → (s.map key).sum ≤ ((l.take s.length).map key).sum := by
  induction l with
  | nil =>
    intro s hs
    have : s = [] := List.sublist_nil.1 hs
    subst this; exact Int.le_refl _
  | cons x l ih =>
    intro s hs
    obtain ⟨hx, hl⟩ := List.pairwise_cons.1 hd
    have mono : ∀ k, k ≤ l.length → ((l.take k).map key).sum ≤ (((x :: l).take k).map key).sum := by
      intro k hk
      cases k with
      | zero => exact Int.le_refl _
      | succ k =>
        rw [take_succ_getD (d := 0) (show k < l.length from hk), List.take_succ_cons, List.map_append, List.sum_append, List.map_cons, List.sum_cons]
        have := hx _ (getD_mem (d := 0) (show k < l.length from hk))
        simp only [List.map_cons, List.map_nil, List.sum_cons, List.sum_nil]
        omega
    cases hs with
    | cons _ hs =>
      have h1 := ih hl hs
      have h2 := mono _ hs.length_le
      omega
    | cons_cons _ hs =>
      have h1 := ih hl hs
      rw [List.length_cons, List.take_succ_cons, List.map_cons, List.sum_cons, List.map_cons, List.sum_cons]
      omega
theorem order_desc {f : Fan} (h : FanOK f) : (orderF f).Pairwise fun a b => angO f b ≤ angO f a := by
  have hd := h.dist
  have num : ∀ i, i < f.2.2.length → numT (lowT (oneF f i)) = angI f i ∧ denT (lowT (oneF f i)) = f.1.2 * f.2.1.2 := fun i hi => by
    obtain ⟨a, b⟩ := low_num (oneF f i)
    refine ⟨?_, b⟩
    rw [a]
    show sumG loE f.1.2 f.2.1.2 [f.2.2.getD i g0] = _
    rw [sumG_cons, sumG_nil]
    unfold angI; omega
  refine insSort_sorted (key := angO f) fun x hx y hy => ?_
  obtain ⟨i, hi, rfl⟩ := List.mem_map.1 hx
  obtain ⟨j, hj, rfl⟩ := List.mem_map.1 hy
  have hi := List.mem_range.1 hi
  have hj := List.mem_range.1 hj
  show cmpI3 (numT (lowT (oneF f j)) * denT (lowT (oneF f i))) (numT (lowT (oneF f i)) * denT (lowT (oneF f j))) < 0 ↔ angI f j < angI f i
  rw [(num i hi).1, (num i hi).2, (num j hj).1, (num j hj).2]
  have hp : 0 < f.1.2 * f.2.1.2 := by omega
  unfold cmpI3
  split
  · rename_i hc
    exact ⟨fun _ => Int.lt_of_mul_lt_mul_right hc (by omega), fun _ => by omega⟩
  · rename_i hc
    have hn : ¬ angI f j < angI f i := fun hh => hc (Int.mul_lt_mul_of_pos_right hh hp)
    split
    · exact ⟨fun hh => by omega, fun hh => absurd hh hn⟩
    · exact ⟨fun hh => by omega, fun hh => absurd hh hn⟩
theorem sel_le {f : Fan} (h : FanOK f) (p : Int → Bool) : selS f p f.2.2.length ≤ (((orderF f).take (cntP p f.2.2.length)).map (angO f)).sum := by
  have hp := (order_perm f).filter p
  have e1 : selS f p f.2.2.length = (((orderF f).filter p).map (angO f)).sum := (perm_sum (hp.map (angO f))).symm
  have e2 : cntP p f.2.2.length = ((orderF f).filter p).length := hp.length_eq.symm
  rw [e1, e2]
  exact desc_take (order_desc h) List.filter_sublist
theorem filter_take {l : List Int} (h : l.Nodup) (c : Nat) : l.filter (memF (l.take c)) = l.take c := by
  have e : l = l.take c ++ l.drop c := (List.take_append_drop c l).symm
  have hn : (l.take c ++ l.drop c).Nodup := by rw [← e]; exact h
  obtain ⟨h1, h2, h3⟩ := List.nodup_append.1 hn
  have a1 : (l.take c).filter (memF (l.take c)) = l.take c := List.filter_eq_self.2 fun x hx => memF_iff.2 hx
  have a2 : (l.drop c).filter (memF (l.take c)) = [] := List.filter_eq_nil_iff.2 fun x hx hm => h3 _ (memF_iff.1 hm) _ hx rfl
  calc l.filter (memF (l.take c)) = (l.take c ++ l.drop c).filter (memF (l.take c)) := by rw [← e]
    _ = l.take c := by rw [List.filter_append, a1, a2, List.append_nil]
theorem sel_take (f : Fan) (c : Nat) : selS f (memF ((orderF f).take c)) f.2.2.length = (((orderF f).take c).map (angO f)).sum := by
  have hp := (order_perm f).filter (memF ((orderF f).take c))
  have e1 : selS f (memF ((orderF f).take c)) f.2.2.length = (((orderF f).filter (memF ((orderF f).take c))).map (angO f)).sum := (perm_sum (hp.map (angO f))).symm
  rw [e1, filter_take (order_nodup f)]

theorem few_not {f : Fan} (h : FanOK f) {seen : Span} (hs : 0 ≤ seen.2) (hn : 0 < f.2.2.length) {p : Int → Bool} (h1 : 1 ≤ cntP p f.2.2.length) (h2 : cntP p f.2.2.length < manyF f seen) : ¬ degF (lowT (woF p f)) ≤ seen.2 := by
  intro hd
  have hno := (many_spec h hs hn).2.2.2 _ h1 h2
  have := enough_le h (seen := seen) (a := (orderF f).take (cntP p f.2.2.length)) (p := p) (by
    have a1 := rest_sel f p f.2.2.length
    have a2 := rest_sel f (memF ((orderF f).take (cntP p f.2.2.length))) f.2.2.length
    have a3 := sel_le h p
    have a4 := sel_take f (cntP p f.2.2.length)
    omega) hd
  rw [this] at hno; cases hno

theorem filter_lt_succ {l : List Int} (h : l.Pairwise (· < ·)) (k : Int) : (l.filter fun x => decide (x < k + 1)).length = (l.filter fun x => decide (x < k)).length + if k ∈ l then 1 else 0 := by
  induction l with
  | nil => rfl
  | cons x r ih =>
    obtain ⟨hx, hr⟩ := List.pairwise_cons.1 h
    have ih := ih hr
    rw [List.filter_cons, List.filter_cons]
    rcases Int.lt_trichotomy x k with hk | rfl | hk
    · rw [if_pos (by simp; omega), if_pos (by simpa using hk), List.length_cons, List.length_cons, ih]
      have : (k ∈ x :: r) ↔ k ∈ r := by
        rw [List.mem_cons]
        exact ⟨fun hh => hh.resolve_left (by omega), .inr⟩
      simp only [this]
      split <;> omega
    · have hnr : x ∉ r := fun hh => by have := hx x hh; omega
      rw [if_neg hnr] at ih
      rw [if_pos (decide_eq_true (by omega)), if_neg (by simp), List.length_cons, ih, if_pos (by simp)]
    · have hnr : k ∉ r := fun hh => by have := hx k hh; omega
      rw [if_neg hnr] at ih
      rw [if_neg (by simp; omega), if_neg (by simp; omega), ih, if_neg (by
        rw [List.mem_cons]
        rintro (hh | hh)
        · omega
        · exact hnr hh)]
theorem cnt_mem {l : List Int} (h : l.Pairwise (· < ·)) (h0 : ∀ x, x ∈ l → 0 ≤ x) : ∀ n : Nat, cntP (memF l) n = (l.filter fun x => decide (x < (n : Int))).length
  | 0 => by
    have : (l.filter fun x => decide (x < ((0 : Nat) : Int))) = [] := List.filter_eq_nil_iff.2 fun x hx => by
      have := h0 x hx
      simp; omega
    rw [this]; rfl
  | n + 1 => by
    have := cnt_mem h h0 n
    have e : ((n + 1 : Nat) : Int) = (n : Int) + 1 := by push_cast; rfl
    rw [cntP_succ, this, e, filter_lt_succ h]
    congr 1
    by_cases hm : (n : Int) ∈ l
    · rw [if_pos (memF_iff.2 hm), if_pos hm]
    · rw [if_neg (fun hh => hm (memF_iff.1 hh)), if_neg hm]
theorem cnt_all {l : List Int} (h : l.Pairwise (· < ·)) {n : Nat} (hr : ∀ x, x ∈ l → 0 ≤ x ∧ x < n) : cntP (memF l) n = l.length := by
  rw [cnt_mem h (fun x hx => (hr x hx).1)]
  rw [List.filter_eq_self.2 fun x hx => by simpa using (hr x hx).2]

structure WrongSet (f : Fan) (seen : Span) (l : List Int) : Prop where
  ne : l.length ≠ 0
  le : l.length ≤ f.2.2.length
  asc : l.Pairwise (· < ·)
  rng : ∀ x, x ∈ l → 0 ≤ x ∧ x < f.2.2.length
  en : degF (lowT (woF (memF l) f)) ≤ seen.2
  few : ∀ p : Int → Bool, 1 ≤ cntP p f.2.2.length → cntP p f.2.2.length < l.length → ¬ degF (lowT (woF p f)) ≤ seen.2
theorem wrong_spec {f : Fan} (h : CheckOK f) {seen : Span} (h1 : 0 ≤ seen.1) (h2 : seen.1 ≤ seen.2) (h3 : seen.2 ≤ 360) :
    ((opensF f).1 ≤ seen.2 ∧ seen.1 ≤ (opensF f).2 → wrongF f seen = ([], 7, ())) ∧ (¬ ((opensF f).1 ≤ seen.2 ∧ seen.1 ≤ (opensF f).2) → (f.2.2.length = 0 → wrongF f seen = ([], 9, ())) ∧ (f.2.2.length ≠ 0 → ∃ l, wrongF f seen = (l, 0, ()) ∧ WrongSet f seen l)) := by
  have e : wrongF f seen = if (opensF f).1 ≤ seen.2 ∧ seen.1 ≤ (opensF f).2 then ([], 7, ()) else if f.2.2.length = 0 then ([], 9, ())
      else if (opensF f).1 ≤ seen.2 then ([0], 0, ()) else (setK f seen f.2.2.length, 0, ()) := by
    have b1 : inB 0 360 seen.1 = true := by simp only [inB, Bool.and_eq_true, decide_eq_true_eq]; omega
    have b2 : inB 0 360 seen.2 = true := by simp only [inB, Bool.and_eq_true, decide_eq_true_eq]; omega
    unfold wrongF
    rw [if_neg (by rw [checkF_ok.2 h]; omega), if_neg (by rw [b1, b2]; simp; omega)]
  have hf := h.fan
  refine ⟨fun hc => by rw [e, if_pos hc], fun hc => ⟨fun h0 => by rw [e, if_neg hc, if_pos h0], fun h0 => ?_⟩⟩
  rw [e, if_neg hc, if_neg h0]
  have hn : 0 < f.2.2.length := by omega
  by_cases ho : (opensF f).1 ≤ seen.2
  · rw [if_pos ho]
    refine ⟨[0], rfl, ⟨by simp, by show 1 ≤ f.2.2.length; omega, List.pairwise_singleton _ _, fun x hx => ?_, ?_, fun p a b => ?_⟩⟩
    · have : x = 0 := by simpa using hx
      omega
    · have hd : degF (lowT (woF (fun _ => false) f)) ≤ seen.2 := by
        have e1 : degF (lowT (woF (fun _ => false) f)) = degF (lowT f) := by
          rw [degF_eq, degF_eq, (low_wo f _).1, (low_wo f _).2, restS_none, (low_num f).2]
        rw [e1]; exact ho
      have := enough_le hf (seen := seen) (a := [0]) (p := fun _ => false) (by
        have a1 := rest_sel f (fun _ => false) f.2.2.length
        have a2 := rest_sel f (memF [0]) f.2.2.length
        have a3 : selS f (fun _ => false) f.2.2.length = 0 := by
          unfold selS
          rw [List.filter_eq_nil_iff.2 fun _ _ hh => by cases hh]
          rfl
        have a4 : ∀ k, k ≤ f.2.2.length → 0 ≤ selS f (memF [0]) k := by
          intro k
          induction k with
          | zero => intro _; exact Int.le_refl _
          | succ k ih =>
            intro hk
            have := ih (by omega)
            have := angI_nonneg hf (i := k) (by omega)
            rw [selS_succ]
            split <;> omega
        have := a4 _ (Nat.le_refl _)
        omega) hd
      exact of_decide_eq_true this
    · simp only [List.length_cons, List.length_nil] at b
      omega
  · rw [if_neg ho]
    obtain ⟨s1, s2⟩ := set_spec hf (seen := seen) (by omega) hn
    obtain ⟨m1, m2, m3, m4⟩ := many_spec hf (seen := seen) (by omega) hn
    refine ⟨_, rfl, ⟨by omega, by omega, setK_asc f seen _, fun x hx => ?_, of_decide_eq_true s2, fun p a b => few_not hf (by omega) hn a (by omega)⟩⟩
    obtain ⟨i, hi, rfl⟩ := setK_mem f seen _ x hx
    omega

end Go.Proofs.Rz
namespace Go.Proofs.Rz
open Go Go.GX Go.Proofs
def f97_wp : Fan × List Int × Unit → Unit → (Fan → Prop) → Prop := fun a _ Q => a.1.2.2.length ≤ 1000000 ∧ Q (woF (memF a.2.1) a.1)
def f97_ct : Ct := ⟨arg2 k26 k43, .unit, k26, f97_wp, false, true⟩
def f97_an : Nat → Items := anL [(0, [.t 6 k3, .drow 105 26 (.pair k23 k23) 5001 false 67 k67]), (2, [.t 8 k3, .t 7 .bool])]

def canF (f : Fan) (seen : Span) (set : List Int) : Bool := decide ((opensF (woF (memF set) f)).1 ≤ seen.2) && decide (seen.1 ≤ if 0 < set.length then 360 else (opensF (woF (memF set) f)).2)
def f69_wp : Fan × Span × List Int × Unit → Unit → (Bool → Prop) → Prop := fun a _ Q => FanOK a.1 ∧ Q (canF a.1 a.2.1 a.2.2.1)
def f69_ct : Ct := ⟨arg3 k26 k23 k43, .unit, .bool, f69_wp, false, false⟩

def fromS (begun : List Int) : Int := if 0 < begun.length then begun.getD (begun.length - 1) 0 + 1 else 0
def setsF (below : Int) : Nat → List Int → List (List Int)
  | 0, begun => [begun]
  | m + 1, begun => ((List.range (below - fromS begun).toNat).map fun (j : Nat) => setsF below m (begun ++ [fromS begun + j])).flatten
abbrev SetsT := Int × Int × List Int × Unit → Unit → (List (List Int) → Prop) → Prop

def setsPre (a : Int × Int × List Int × Unit) : Prop := 0 ≤ a.1 ∧ a.1 ≤ 10 ∧ a.2.1 ≤ 10 ∧ (a.2.2.1.length : Int) ≤ a.2.1 ∧ ∀ x, x ∈ a.2.2.1 → 0 ≤ x ∧ x < a.1
def setsM (a : Int × Int × List Int × Unit) : Nat := (a.2.1 - (a.2.2.1.length : Int)).toNat
def f68_wp : SetsT := fun a _ Q => setsPre a ∧ Q (setsF a.1 (setsM a) a.2.2.1)

def f68_lt (k : Nat) : SetsT := fun a _ Q => (setsPre a ∧ setsM a < k) ∧ Q (setsF a.1 (setsM a) a.2.2.1)
def f68r_ct (w : SetsT) : Ct := ⟨arg3 k3 k3 k43, .unit, k104, w, false, false⟩
def f68_ct : Ct := ⟨arg3 k3 k3 k43, .unit, k104, f68_wp, false, false⟩
def f68_an : Nat → Items := anL [(2000005, [.t 8 k3]), (0, [.t 9 k3, .row 7 5001 true 43 k43])]
def f68v_ct (w : SetsT) (below many : Int) (begun : List Int) (Q : List (List Int) → Prop) : Prop :=
  vcFunc (S1 [(68, f68r_ct w)] [] [] []) false false f68_an Tryz.f68 (bodyOf Tryz.f68) (arg3 k3 k3 k43) .unit k104 (below, many, begun, ()) () Q

def wrongR (f : Fan) (seen : Span) : Option (List Int) := ((List.range (f.2.2.length + 1)).map fun m => setsF f.2.2.length m []).flatten.find? (canF f seen)
def wrongA (f : Fan) (seen : Span) : List Int × Bool × Unit := match wrongR f seen with
  | some l => (l, true, ())
  | none => ([], false, ())
def f22_wp : Fan × Span × Unit → Unit → (List Int × Bool × Unit → Prop) → Prop := fun a _ Q => (FanOK a.1 ∧ a.1.2.2.length ≤ 10) ∧ Q (wrongA a.1 a.2.1)
def f22_ct : Ct := ⟨arg2 k26 k23, .unit, res2 k43 .bool, f22_wp, false, false⟩
def f22_an : Nat → Items := anL [(0, [.t 6 k3]), (2, [.t 8 k3])]
def f5_wp : Fan × Span × Unit → Unit → (Bool → Prop) → Prop := fun _ _ Q => Q true
def f5_ct : Ct := ⟨arg2 k26 k23, .unit, .bool, f5_wp, false, false⟩
def f5_an : Nat → Items := anL [(1000002, [.t 33 .bool]), (2000003, [.t 5 k3]), (1000004, [.t 47 .bool]), (1000012, [.t 74 .bool]), (2000011, [.t 5 k3])]
end Go.Proofs.Rz
set_option linter.unusedVariables false
set_option maxRecDepth 100000
namespace Go.Proofs.Rz
open Go Go.GX Go.Proofs
theorem fromS_snoc (b : List Int) (x : Int) : fromS (b ++ [x]) = x + 1 := by
  unfold fromS
  rw [if_pos (by simp)]
  simp

def setsFrom (n : Nat) (m : Nat) (b : List Int) (i : Nat) : List (List Int) := ((List.range (n - i)).map fun (j : Nat) => setsF n m (b ++ [((i + j : Nat) : Int)])).flatten
theorem setsF_succ {n m i : Nat} {b : List Int} (h : fromS b = i) : setsF n (m + 1) b = setsFrom n m b i := by
  show ((List.range ((n : Int) - fromS b).toNat).map fun (j : Nat) => setsF n m (b ++ [fromS b + j])).flatten = _
  unfold setsFrom
  rw [h, show ((n : Int) - (i : Int)).toNat = n - i by omega]
  refine congrArg _ (List.map_congr_left fun j _ => ?_)
  rw [show ((i : Int) + (j : Int)) = ((i + j : Nat) : Int) by push_cast; rfl]
theorem setsFrom_step {n m i : Nat} {b : List Int} (h : i < n) : setsFrom n m b i = setsF n m (b ++ [(i : Int)]) ++ setsFrom n m b (i + 1) := by
  unfold setsFrom
  obtain ⟨d, hd⟩ : ∃ d, n - i = d + 1 := ⟨n - i - 1, by omega⟩
  rw [hd, show n - (i + 1) = d by omega, List.range_succ_eq_map, List.map_cons, List.flatten_cons, List.map_map]
  congr 1
  refine congrArg _ (List.map_congr_left fun j _ => ?_)
  show setsF _ _ _ = _
  rw [show i + Nat.succ j = i + 1 + j by omega]
theorem sets_mem {n : Nat} : ∀ (m : Nat) (b : List Int) (i : Nat), fromS b = i → ∀ s, s ∈ setsF n m b → ∃ t : List Int, s = b ++ t ∧ t.length = m ∧ t.Pairwise (· < ·) ∧ ∀ x, x ∈ t → (i : Int) ≤ x ∧ x < n
  | 0, b, i, _, s, h => ⟨[], by simpa [setsF] using h, rfl, .nil, fun x hx => by cases hx⟩
  | m + 1, b, i, hb, s, h => by
    rw [setsF_succ hb] at h
    obtain ⟨l, hl, hs⟩ := List.mem_flatten.1 h
    obtain ⟨j, hj, rfl⟩ := List.mem_map.1 hl
    have hj := List.mem_range.1 hj
    obtain ⟨t, rfl, t1, t2, t3⟩ := sets_mem m (b ++ [((i + j : Nat) : Int)]) (i + j + 1) (by rw [fromS_snoc]; push_cast; rfl) s hs
    refine ⟨((i + j : Nat) : Int) :: t, by simp, by simp [t1], List.pairwise_cons.2 ⟨fun x hx => ?_, t2⟩, fun x hx => ?_⟩
    · have := (t3 x hx).1; push_cast at this ⊢; omega
    · rcases List.mem_cons.1 hx with rfl | hx
      · push_cast; omega
      · have := t3 x hx; push_cast at this; omega
theorem sel_perm {f : Fan} {s : List Int} (hn : s.Nodup) (hr : ∀ x, x ∈ s → 0 ≤ x ∧ x < f.2.2.length) : selS f (memF s) f.2.2.length = (s.map (angO f)).sum := by
  refine perm_sum (List.Perm.map _ ?_)
  refine (List.perm_ext_iff_of_nodup ?_ hn).2 fun x => ?_
  · refine List.Nodup.sublist List.filter_sublist ?_
    exact (List.pairwise_map.2 ((List.nodup_range (n := f.2.2.length)).imp fun h e => h (by omega)))
  · rw [List.mem_filter, memF_iff]
    refine ⟨fun h => h.2, fun h => ⟨?_, h⟩⟩
    obtain ⟨a, b⟩ := hr x h
    exact List.mem_map.2 ⟨x.toNat, List.mem_range.2 (by omega), by omega⟩

theorem best_of {f : Fan} (h : FanOK f) {seen : Span} {b t : List Int} {i : Nat} (hi : i < f.2.2.length) (hb : b.Pairwise (· < ·)) (hbr : ∀ x, x ∈ b → 0 ≤ x ∧ x < (i : Int)) (ht : t.Pairwise (· < ·)) (htr : ∀ x, x ∈ t → (i : Int) + 1 ≤ x ∧ x < f.2.2.length)
    (he : enoughF f seen (b ++ (i : Int) :: t) = true) : t.length ≤ (fromF f (i + 1)).length ∧ enoughF f seen (b ++ (i : Int) :: (fromF f (i + 1)).take t.length) = true := by
  have hfr : ∀ x, x ∈ fromF f (i + 1) ↔ (i : Int) + 1 ≤ x ∧ x < f.2.2.length := fun x => by
    unfold fromF
    rw [List.mem_filter, order_mem, decide_eq_true_iff]
    constructor
    · rintro ⟨⟨k, h1, rfl⟩, h2⟩; push_cast at h2; omega
    · rintro ⟨h1, h2⟩; exact ⟨⟨x.toNat, by omega, by omega⟩, by push_cast; omega⟩
  have hfn : (fromF f (i + 1)).Nodup := List.Nodup.sublist List.filter_sublist (order_nodup f)
  have htn : t.Nodup := ht.imp fun h e => by omega
  have hbn : b.Nodup := hb.imp fun h e => by omega
  have perm : ((fromF f (i + 1)).filter (memF t)).Perm t := (List.perm_ext_iff_of_nodup (List.Nodup.sublist List.filter_sublist hfn) htn).2 fun x => by
    rw [List.mem_filter, memF_iff]
    exact ⟨fun h => h.2, fun h => ⟨(hfr x).2 (htr x h), h⟩⟩
  have hlen : t.length ≤ (fromF f (i + 1)).length := by rw [← perm.length_eq]; exact List.length_filter_le _ _
  refine ⟨hlen, ?_⟩
  have hd : (fromF f (i + 1)).Pairwise fun a b => angO f b ≤ angO f a := List.Pairwise.sublist List.filter_sublist (order_desc h)
  have hle : (t.map (angO f)).sum ≤ (((fromF f (i + 1)).take t.length).map (angO f)).sum := by
    rw [← perm_sum (perm.map (angO f)), ← perm.length_eq]
    exact desc_take hd List.filter_sublist
  refine enough_le h (p := memF (b ++ (i : Int) :: t)) ?_ (of_decide_eq_true he)
  have nod : ∀ u : List Int, u.Nodup → (∀ x, x ∈ u → (i : Int) + 1 ≤ x ∧ x < f.2.2.length) → (b ++ (i : Int) :: u).Nodup ∧ ∀ x, x ∈ b ++ (i : Int) :: u → 0 ≤ x ∧ x < f.2.2.length := fun u hu hur => by
    refine ⟨List.nodup_append.2 ⟨hbn, List.nodup_cons.2 ⟨fun hh => by have := (hur _ hh).1; omega, hu⟩, fun x hx y hy e => ?_⟩, fun x hx => ?_⟩
    · subst e
      have := hbr x hx
      rcases List.mem_cons.1 hy with rfl | hy
      · omega
      · have := hur x hy; omega
    · rcases List.mem_append.1 hx with hx | hx
      · have := hbr x hx; omega
      · rcases List.mem_cons.1 hx with rfl | hx
        · omega
        · have := hur x hx; omega
  obtain ⟨n1, n2⟩ := nod t htn htr
  obtain ⟨n3, n4⟩ := nod ((fromF f (i + 1)).take t.length) (List.Nodup.sublist (List.take_sublist _ _) hfn) fun x hx => (hfr x).1 (List.mem_of_mem_take hx)
  have a1 := rest_sel f (memF (b ++ (i : Int) :: t)) f.2.2.length
  have a2 := rest_sel f (memF (b ++ (i : Int) :: (fromF f (i + 1)).take t.length)) f.2.2.length
  rw [sel_perm n1 n2] at a1
  rw [sel_perm n3 n4] at a2
  simp only [List.map_append, List.map_cons, List.sum_append, List.sum_cons] at a1 a2
  omega

theorem greed_find {f : Fan} (h : FanOK f) {seen : Span} (hs : 0 ≤ seen.2) (hn : 0 < f.2.2.length) : ∀ (e i : Nat), i + e = f.2.2.length → ∀ d, (setK f seen i).length + (d + 1) = manyF f seen →
    (setsFrom f.2.2.length d (setK f seen i) i).find? (enoughF f seen) = some (setK f seen f.2.2.length) := by
  intro e
  induction e with
  | zero =>
    intro i hi d hd
    have g := (greed_all h hs hn i (by omega)).few
    rw [show i = f.2.2.length by omega, from_end] at g
    simp only [List.length_nil] at g
    rw [show i = f.2.2.length by omega] at hd
    omega
  | succ e ih =>
    intro i hi d hd
    have hin : i < f.2.2.length := by omega
    rw [setsFrom_step hin, List.find?_append]
    by_cases hc : nextB f seen (setK f seen i) i = true
    · have hset : setK f seen (i + 1) = setK f seen i ++ [(i : Int)] := by rw [setK_succ, if_pos ⟨by omega, hc⟩]
      have hl : (setK f seen (i + 1)).length = (setK f seen i).length + 1 := by rw [hset]; simp
      rw [← hset]
      cases d with
      | zero =>
        have hdone := setK_done (f := f) (seen := seen) (i := i + 1) (by omega) f.2.2.length (by omega)
        have hen := (set_spec h hs hn).2
        rw [hdone] at hen ⊢
        show ((([setK f seen (i + 1)] : List (List Int)).find? _).or _) = _
        rw [List.find?_cons_of_pos hen]; rfl
      | succ d =>
        rw [setsF_succ (i := i + 1) (by rw [hset, fromS_snoc]; push_cast; rfl), ih (i + 1) (by omega) d (by omega)]; rfl
    · have hset : setK f seen (i + 1) = setK f seen i := by rw [setK_succ, if_neg (fun hh => hc hh.2)]
      have hno : (setsF f.2.2.length d (setK f seen i ++ [(i : Int)])).find? (enoughF f seen) = none := by
        refine List.find?_eq_none.2 fun s hsm hse => hc ?_
        obtain ⟨t, rfl, t1, t2, t3⟩ := sets_mem d _ (i + 1) (by rw [fromS_snoc]; push_cast; rfl) s hsm
        obtain ⟨b1, b2⟩ := best_of h (seen := seen) (t := t) hin (setK_asc f seen i) (fun x hx => by obtain ⟨k, hk, rfl⟩ := setK_mem f seen i x hx; omega) t2 (fun x hx => by have := t3 x hx; push_cast at this; omega) (by rw [List.append_assoc] at hse; exact hse)
        simp only [nextB, Bool.and_eq_true, decide_eq_true_eq, rest_from]
        rw [show manyF f seen - (setK f seen i).length - 1 = t.length by omega]
        exact ⟨b1, b2⟩
      rw [hno]
      show (setsFrom f.2.2.length d (setK f seen i) (i + 1)).find? _ = _
      rw [← hset]
      exact ih (i + 1) (by omega) d (by rw [hset]; exact hd)
theorem greed_first {f : Fan} (h : FanOK f) {seen : Span} (hs : 0 ≤ seen.2) (hn : 0 < f.2.2.length) : (setsF f.2.2.length (manyF f seen) []).find? (enoughF f seen) = some (setK f seen f.2.2.length) := by
  obtain ⟨m1, _⟩ := many_spec h hs hn
  obtain ⟨d, hd⟩ : ∃ d, manyF f seen = d + 1 := ⟨manyF f seen - 1, by omega⟩
  rw [hd, setsF_succ (i := 0) (by rfl)]
  exact greed_find h hs hn f.2.2.length 0 (by omega) d (by show 0 + (d + 1) = _; omega)
theorem woK_none {gs : List Gap} : ∀ k, k ≤ gs.length → woK (memF []) gs k = gs.take k
  | 0, _ => by simp [woK]
  | k + 1, h => by
    rw [woK_succ, if_neg (by simp [memF]), woK_none k (by omega), take_succ_getD (d := g0) (show k < gs.length by omega)]
theorem can_enough {f : Fan} {seen : Span} (h3 : seen.1 ≤ 360) {s : List Int} (h : s.length ≠ 0) : canF f seen s = enoughF f seen s := by
  have e : (opensF (woF (memF s) f)).1 = degF (lowT (woF (memF s) f)) := rfl
  unfold canF enoughF
  rw [e, if_pos (by omega), decide_eq_true (p := seen.1 ≤ 360) h3, Bool.and_true]
theorem find_flat {α : Type} {p : α → Bool} {g : Nat → List α} {x : α} : ∀ (n k : Nat), k < n → (∀ j, j < k → ∀ y, y ∈ g j → p y = false) → (g k).find? p = some x → ((List.range n).map g).flatten.find? p = some x
  | 0, k, h, _, _ => by omega
  | n + 1, k, h, h1, h2 => by
    rw [List.range_succ_eq_map, List.map_cons, List.flatten_cons, List.find?_append, List.map_map]
    cases k with
    | zero => rw [h2]; rfl
    | succ k =>
      rw [List.find?_eq_none.2 fun y hy hh => by rw [h1 0 (by omega) y hy] at hh; cases hh]
      exact find_flat n k (by omega) (fun j hj y hy => h1 (j + 1) (by omega) y hy) h2
theorem wrong_first {f : Fan} (h : CheckOK f) {seen : Span} (h1 : 0 ≤ seen.1) (h2 : seen.1 ≤ seen.2) (h3 : seen.2 ≤ 360) :
    ((opensF f).1 ≤ seen.2 ∧ seen.1 ≤ (opensF f).2 → wrongR f seen = some []) ∧ (¬ ((opensF f).1 ≤ seen.2 ∧ seen.1 ≤ (opensF f).2) →
      (f.2.2.length = 0 → wrongR f seen = none) ∧ (f.2.2.length ≠ 0 → ∃ l, wrongF f seen = (l, 0, ()) ∧ wrongR f seen = some l ∧ l.length ≠ 0)) := by
  have hf := h.fan
  have e0 : opensF (woF (memF []) f) = opensF f := by
    have : woK (memF []) f.2.2 f.2.2.length = f.2.2 := by rw [woK_none _ (Nat.le_refl _), List.take_length]
    unfold woF
    rw [this]
  have c0 : canF f seen [] = true ↔ (opensF f).1 ≤ seen.2 ∧ seen.1 ≤ (opensF f).2 := by
    unfold canF
    rw [e0]
    simp
  refine ⟨fun hc => ?_, fun hc => ⟨fun h0 => ?_, fun h0 => ?_⟩⟩
  · refine find_flat _ 0 (by omega) (fun j hj => by omega) ?_
    show ([[]] : List (List Int)).find? _ = _
    rw [List.find?_cons_of_pos (c0.2 hc)]
  · refine List.find?_eq_none.2 fun s hs hh => hc (c0.1 ?_)
    rw [h0] at hs
    have : s = [] := by simpa [setsF] using hs
    rw [← this]; exact hh
  · have hn : 0 < f.2.2.length := by omega
    obtain ⟨l, hl, w⟩ := ((wrong_spec h h1 h2 h3).2 hc).2 h0
    refine ⟨l, hl, ?_, w.ne⟩
    have hcan : ∀ s : List Int, s.length ≠ 0 → canF f seen s = enoughF f seen s := fun s hs => can_enough (by omega) hs
    refine find_flat _ l.length (by have := w.le; omega) (fun j hj s hs => ?_) ?_
    · obtain ⟨t, ht, t1, t2, t3⟩ := sets_mem j [] 0 rfl s hs
      have ht : s = t := ht
      subst ht
      rw [Bool.eq_false_iff]
      intro hh
      by_cases hj0 : j = 0
      · have : s = [] := List.length_eq_zero_iff.1 (by omega)
        subst this
        exact hc (c0.1 hh)
      · rw [hcan s (by omega)] at hh
        have hcnt := cnt_all (n := f.2.2.length) t2 (fun x hx => by have := t3 x hx; omega)
        exact w.few (memF s) (by omega) (by omega) (of_decide_eq_true hh)
    · have hsw : ∀ q : List (List Int), (∀ s, s ∈ q → s.length ≠ 0) → q.find? (canF f seen) = q.find? (enoughF f seen) := fun q hq => by
        induction q with
        | nil => rfl
        | cons a q ih =>
          rw [List.find?_cons, List.find?_cons, hcan a (hq a List.mem_cons_self), ih fun s hs => hq s (List.mem_cons_of_mem _ hs)]
      rw [hsw _ fun s hs => by
        obtain ⟨t, ht, t1, _⟩ := sets_mem l.length [] 0 rfl s hs
        have ht : s = t := ht
        have := w.ne
        subst ht
        omega]
      by_cases ho : (opensF f).1 ≤ seen.2
      · have hl0 : l = [0] := by
          have b1 : inB 0 360 seen.1 = true := by simp only [inB, Bool.and_eq_true, decide_eq_true_eq]; omega
          have b2 : inB 0 360 seen.2 = true := by simp only [inB, Bool.and_eq_true, decide_eq_true_eq]; omega
          unfold wrongF at hl
          rw [if_neg (by rw [checkF_ok.2 h]; omega), if_neg (by rw [b1, b2]; simp; omega), if_neg hc, if_neg h0, if_pos ho] at hl
          exact (Prod.mk.inj hl).1.symm
        subst hl0
        show (setsF f.2.2.length 1 []).find? _ = _
        rw [setsF_succ (i := 0) rfl, setsFrom_step hn, List.find?_append]
        show ((([[(0 : Int)]] : List (List Int)).find? _).or _) = _
        rw [List.find?_cons_of_pos (show enoughF f seen [0] = true from decide_eq_true w.en)]; rfl
      · have hl0 : l = setK f seen f.2.2.length := by
          have b1 : inB 0 360 seen.1 = true := by simp only [inB, Bool.and_eq_true, decide_eq_true_eq]; omega
          have b2 : inB 0 360 seen.2 = true := by simp only [inB, Bool.and_eq_true, decide_eq_true_eq]; omega
          unfold wrongF at hl
          rw [if_neg (by rw [checkF_ok.2 h]; omega), if_neg (by rw [b1, b2]; simp; omega), if_neg hc, if_neg h0, if_neg ho] at hl
          exact (Prod.mk.inj hl).1.symm
        subst hl0
        rw [(set_spec hf (seen := seen) (by omega) hn).1]
        exact greed_first hf (by omega) hn
end Go.Proofs.Rz
set_option linter.unusedVariables false
set_option maxRecDepth 100000
namespace Go.Proofs.Rz
open Go Go.GX Go.Proofs

def V97 (f : (Int × Int) × (Int × Int) × List ((Int × Int) × Int × Int)) (set : List Int) (Q : (Int × Int) × (Int × Int) × List ((Int × Int) × Int × Int) → Prop) : Prop :=
  ∃ (I : Int → ((Int × Int) × Int × Int) × List ((Int × Int) × Int × Int) → Prop),
    ∃ (μ : Int → ((Int × Int) × Int × Int) × List ((Int × Int) × Int × Int) → Nat),
      I (0 : Int)
          (((Prod.fst (Prod.fst f), Prod.snd (Prod.fst f)), Prod.fst (Prod.fst (Prod.snd f)), Prod.snd (Prod.fst (Prod.snd f))),
            ([] : List ((Int × Int) × Int × Int))) ∧
        ∀ (x : Int) (x_1 : ((Int × Int) × Int × Int) × List ((Int × Int) × Int × Int)),
          I x x_1 →
            List.length (Prod.snd (Prod.snd f)) ≤ (9223372036854775807 : Nat) →
              cnd (decide (x < (↑(List.length (Prod.snd (Prod.snd f))) : Int)))
                (∃ (I_1 : Int → Bool → Prop),
                  ∃ (μ_1 : Int → Bool → Nat),
                    I_1 (0 : Int) false ∧
                      ∀ (x_2 : Int) (x_3 : Bool),
                        I_1 x_2 x_3 →
                          List.length set ≤ (9223372036854775807 : Nat) →
                            cnd (decide (x_2 < (↑(List.length set) : Int)))
                              (cnd x_3
                                (I_1 (IntKind.wrap IntKind.i64 (x_2 + (1 : Int))) true ∧
                                  μ_1 (IntKind.wrap IntKind.i64 (x_2 + (1 : Int))) true < μ_1 x_2 x_3)
                                ((0 : Int) ≤ x_2 ∧
                                  x_2 < (↑(List.length set) : Int) ∧
                                    I_1 (IntKind.wrap IntKind.i64 (x_2 + (1 : Int))) (List.getD set (Int.toNat x_2) (0 : Int) == x) ∧
                                      μ_1 (IntKind.wrap IntKind.i64 (x_2 + (1 : Int))) (List.getD set (Int.toNat x_2) (0 : Int) == x) < μ_1 x_2 x_3))
                              (cnd (!x_3)
                                ((0 : Int) ≤ x ∧
                                  x < (↑(List.length (Prod.snd (Prod.snd f))) : Int) ∧
                                    (List.length (Prod.snd x_1) +
                                            List.length
                                              (((Prod.fst
                                                      (Prod.fst
                                                        (List.getD (Prod.snd (Prod.snd f)) (Int.toNat x)
                                                          (((0 : Int), (0 : Int)), (0 : Int), (0 : Int)))),
                                                    Prod.snd
                                                      (Prod.fst
                                                        (List.getD (Prod.snd (Prod.snd f)) (Int.toNat x)
                                                          (((0 : Int), (0 : Int)), (0 : Int), (0 : Int))))),
                                                  Prod.fst
                                                    (Prod.snd
                                                      (List.getD (Prod.snd (Prod.snd f)) (Int.toNat x) (((0 : Int), (0 : Int)), (0 : Int), (0 : Int)))),
                                                  Prod.snd
                                                    (Prod.snd
                                                      (List.getD (Prod.snd (Prod.snd f)) (Int.toNat x)
                                                        (((0 : Int), (0 : Int)), (0 : Int), (0 : Int))))) ::
                                                ([] : List ((Int × Int) × Int × Int)))) *
                                          (32 : Nat) ≤
                                        (140737488355328 : Nat) ∧
                                      I (IntKind.wrap IntKind.i64 (x + (1 : Int)))
                                          (((Prod.fst (Prod.fst (Prod.fst x_1)), Prod.snd (Prod.fst (Prod.fst x_1))),
                                              Prod.fst (Prod.snd (Prod.fst x_1)), Prod.snd (Prod.snd (Prod.fst x_1))),
                                            Prod.snd x_1 ++
                                              ((Prod.fst
                                                      (Prod.fst
                                                        (List.getD (Prod.snd (Prod.snd f)) (Int.toNat x)
                                                          (((0 : Int), (0 : Int)), (0 : Int), (0 : Int)))),
                                                    Prod.snd
                                                      (Prod.fst
                                                        (List.getD (Prod.snd (Prod.snd f)) (Int.toNat x)
                                                          (((0 : Int), (0 : Int)), (0 : Int), (0 : Int))))),
                                                  Prod.fst
                                                    (Prod.snd
                                                      (List.getD (Prod.snd (Prod.snd f)) (Int.toNat x) (((0 : Int), (0 : Int)), (0 : Int), (0 : Int)))),
                                                  Prod.snd
                                                    (Prod.snd
                                                      (List.getD (Prod.snd (Prod.snd f)) (Int.toNat x)
                                                        (((0 : Int), (0 : Int)), (0 : Int), (0 : Int))))) ::
                                                ([] : List ((Int × Int) × Int × Int))) ∧
                                        μ (IntKind.wrap IntKind.i64 (x + (1 : Int)))
                                            (((Prod.fst (Prod.fst (Prod.fst x_1)), Prod.snd (Prod.fst (Prod.fst x_1))),
                                                Prod.fst (Prod.snd (Prod.fst x_1)), Prod.snd (Prod.snd (Prod.fst x_1))),
                                              Prod.snd x_1 ++
                                                ((Prod.fst
                                                        (Prod.fst
                                                          (List.getD (Prod.snd (Prod.snd f)) (Int.toNat x)
                                                            (((0 : Int), (0 : Int)), (0 : Int), (0 : Int)))),
                                                      Prod.snd
                                                        (Prod.fst
                                                          (List.getD (Prod.snd (Prod.snd f)) (Int.toNat x)
                                                            (((0 : Int), (0 : Int)), (0 : Int), (0 : Int))))),
                                                    Prod.fst
                                                      (Prod.snd
                                                        (List.getD (Prod.snd (Prod.snd f)) (Int.toNat x)
                                                          (((0 : Int), (0 : Int)), (0 : Int), (0 : Int)))),
                                                    Prod.snd
                                                      (Prod.snd
                                                        (List.getD (Prod.snd (Prod.snd f)) (Int.toNat x)
                                                          (((0 : Int), (0 : Int)), (0 : Int), (0 : Int))))) ::
                                                  ([] : List ((Int × Int) × Int × Int))) <
                                          μ x x_1)
                                (I (IntKind.wrap IntKind.i64 (x + (1 : Int)))
                                    (((Prod.fst (Prod.fst (Prod.fst x_1)), Prod.snd (Prod.fst (Prod.fst x_1))), Prod.fst (Prod.snd (Prod.fst x_1)),
                                        Prod.snd (Prod.snd (Prod.fst x_1))),
                                      Prod.snd x_1) ∧
                                  μ (IntKind.wrap IntKind.i64 (x + (1 : Int)))
                                      (((Prod.fst (Prod.fst (Prod.fst x_1)), Prod.snd (Prod.fst (Prod.fst x_1))), Prod.fst (Prod.snd (Prod.fst x_1)),
                                          Prod.snd (Prod.snd (Prod.fst x_1))),
                                        Prod.snd x_1) <
                                    μ x x_1)))
                (Q
                  ((Prod.fst (Prod.fst (Prod.fst x_1)), Prod.snd (Prod.fst (Prod.fst x_1))),
                    (Prod.fst (Prod.snd (Prod.fst x_1)), Prod.snd (Prod.snd (Prod.fst x_1))), Prod.snd x_1))
theorem v97 (f : (Int × Int) × (Int × Int) × List ((Int × Int) × Int × Int)) (set : List Int) (Q : (Int × Int) × (Int × Int) × List ((Int × Int) × Int × Int) → Prop) : V97 f set Q = vcFunc (S1 [] [] [] []) f97_ct.own f97_ct.fresh f97_an Tryz.f97 (bodyOf Tryz.f97) f97_ct.A f97_ct.C f97_ct.R (f, set, ()) () Q := by kernel_rfl

def V69 (f : (Int × Int) × (Int × Int) × List ((Int × Int) × Int × Int)) (seen : Int × Int) (set : List Int) (Q : Bool → Prop) : Prop :=
  f97_wp
    (((Prod.fst (Prod.fst f), Prod.snd (Prod.fst f)), (Prod.fst (Prod.fst (Prod.snd f)), Prod.snd (Prod.fst (Prod.snd f))), Prod.snd (Prod.snd f)), set,
      ())
    () fun (r : (Int × Int) × (Int × Int) × List ((Int × Int) × Int × Int)) ↦
    f16_wp ((Prod.fst (Prod.fst r), Prod.snd (Prod.fst r)), (Prod.fst (Prod.fst (Prod.snd r)), Prod.snd (Prod.fst (Prod.snd r))), Prod.snd (Prod.snd r))
      () fun (r : Int × Int) ↦
      List.length set ≤ (9223372036854775807 : Nat) →
        cnd (decide ((↑(List.length set) : Int) > (0 : Int)))
          (cnd (decide (Prod.fst r ≤ Prod.snd seen)) (Q (decide (Prod.fst seen ≤ (360 : Int)))) (Q false))
          (cnd (decide (Prod.fst r ≤ Prod.snd seen)) (Q (decide (Prod.fst seen ≤ Prod.snd r))) (Q false))
theorem v69 (f : (Int × Int) × (Int × Int) × List ((Int × Int) × Int × Int)) (seen : Int × Int) (set : List Int) (Q : Bool → Prop) : V69 f seen set Q = vcFunc (S1 [(97, f97_ct), (16, f16_ct)] [] [] []) f69_ct.own f69_ct.fresh no_an Tryz.f69 (bodyOf Tryz.f69) f69_ct.A f69_ct.C f69_ct.R (f, seen, set, ()) () Q := by kernel_rfl

def V22 (f : (Int × Int) × (Int × Int) × List ((Int × Int) × Int × Int)) (seen : Int × Int) (Q : List Int × Bool × Unit → Prop) : Prop :=
  ∃ (I : Int → Prop),
    ∃ (μ : Int → Nat),
      I (0 : Int) ∧
        ∀ (x : Int),
          I x →
            List.length (Prod.snd (Prod.snd f)) ≤ (9223372036854775807 : Nat) →
              cnd (decide (x ≤ (↑(List.length (Prod.snd (Prod.snd f))) : Int)))
                (List.length (Prod.snd (Prod.snd f)) ≤ (9223372036854775807 : Nat) →
                  f68_wp ((↑(List.length (Prod.snd (Prod.snd f))) : Int), x, ([] : List Int), ()) () fun (r : List (List Int)) ↦
                    ∃ (I_1 : Int → Prop),
                      ∃ (μ_1 : Int → Nat),
                        I_1 (0 : Int) ∧
                          ∀ (x_1 : Int),
                            I_1 x_1 →
                              List.length r ≤ (9223372036854775807 : Nat) →
                                cnd (decide (x_1 < (↑(List.length r) : Int)))
                                  ((0 : Int) ≤ x_1 ∧
                                    x_1 < (↑(List.length r) : Int) ∧
                                      ∃ (r_1 : Bool),
                                        (f69_wp
                                            (((Prod.fst (Prod.fst f), Prod.snd (Prod.fst f)),
                                                (Prod.fst (Prod.fst (Prod.snd f)), Prod.snd (Prod.fst (Prod.snd f))), Prod.snd (Prod.snd f)),
                                              (Prod.fst seen, Prod.snd seen), List.getD r (Int.toNat x_1) ([] : List Int), ())
                                            () fun (r' : Bool) ↦ r' = r_1) ∧
                                          cnd r_1
                                            ((0 : Int) ≤ x_1 ∧
                                              x_1 < (↑(List.length r) : Int) ∧ Q (List.getD r (Int.toNat x_1) ([] : List Int), true, ()))
                                            (I_1 (IntKind.wrap IntKind.i64 (x_1 + (1 : Int))) ∧
                                              μ_1 (IntKind.wrap IntKind.i64 (x_1 + (1 : Int))) < μ_1 x_1))
                                  (I (IntKind.wrap IntKind.i64 (x + (1 : Int))) ∧ μ (IntKind.wrap IntKind.i64 (x + (1 : Int))) < μ x))
                (Q (([] : List Int), false, ()))
theorem v22 (f : (Int × Int) × (Int × Int) × List ((Int × Int) × Int × Int)) (seen : Int × Int) (Q : List Int × Bool × Unit → Prop) : V22 f seen Q = vcFunc (S1 [(68, f68_ct), (69, f69_ct)] [] [] []) f22_ct.own f22_ct.fresh f22_an Tryz.f22 (bodyOf Tryz.f22) f22_ct.A f22_ct.C f22_ct.R (f, seen, ()) () Q := by kernel_rfl

def V5 (f : (Int × Int) × (Int × Int) × List ((Int × Int) × Int × Int)) (seen : Int × Int) (Q : Bool → Prop) : Prop :=
  f14_wp ((Prod.fst (Prod.fst f), Prod.snd (Prod.fst f)), (Prod.fst (Prod.fst (Prod.snd f)), Prod.snd (Prod.fst (Prod.snd f))), Prod.snd (Prod.snd f))
    () fun (r : Int) ↦
    ∃ (I : Bool → Prop),
      cnd (r == (0 : Int))
          (f20_wp (Prod.fst seen) () fun (r : Bool) ↦
            cnd (!r) (I true) (f20_wp (Prod.snd seen) () fun (r : Bool) ↦ cnd (!r) (I true) (I (decide (Prod.fst seen > Prod.snd seen)))))
          (I false) ∧
        ∀ (x : Bool),
          I x →
            ∃ (I : Int → Prop),
              cnd x (I (4 : Int)) (I r) ∧
                ∀ (x : Int),
                  I x →
                    ∃ (I : Bool → Prop),
                      (List.length (Prod.snd (Prod.snd f)) ≤ (9223372036854775807 : Nat) →
                          cnd (decide ((↑(List.length (Prod.snd (Prod.snd f))) : Int) > (50 : Int))) (I true)
                            (cnd (x == (0 : Int))
                              (List.length (Prod.snd (Prod.snd f)) ≤ (9223372036854775807 : Nat) →
                                I (decide ((↑(List.length (Prod.snd (Prod.snd f))) : Int) > (10 : Int))))
                              (I false))) ∧
                        ∀ (x_1 : Bool),
                          I x_1 →
                            cnd x_1 (f10_wp () () fun (r : Bool) ↦ Q r)
                              (f11_wp
                                ((Prod.fst (Prod.fst f), Prod.snd (Prod.fst f)), (Prod.fst (Prod.fst (Prod.snd f)), Prod.snd (Prod.fst (Prod.snd f))),
                                  Prod.snd (Prod.snd f))
                                () fun (r : (Int × Int) × (Int × Int) × List ((Int × Int) × Int × Int)) ↦
                                f21_wp
                                  (((Prod.fst (Prod.fst r), Prod.snd (Prod.fst r)),
                                      (Prod.fst (Prod.fst (Prod.snd r)), Prod.snd (Prod.fst (Prod.snd r))), Prod.snd (Prod.snd r)),
                                    (Prod.fst seen, Prod.snd seen), ())
                                  () fun (r_1 : List Int × Int × Unit) ↦
                                  f15_wp
                                    (((Prod.fst (Prod.fst r), Prod.snd (Prod.fst r)),
                                        (Prod.fst (Prod.fst (Prod.snd r)), Prod.snd (Prod.fst (Prod.snd r))), Prod.snd (Prod.snd r)),
                                      ((Prod.fst (Prod.fst f), Prod.snd (Prod.fst f)),
                                        (Prod.fst (Prod.fst (Prod.snd f)), Prod.snd (Prod.fst (Prod.snd f))), Prod.snd (Prod.snd f)),
                                      ())
                                    () fun (r : Bool) ↦
                                    cnd (!r) (Q false)
                                      (∃ (I : Int → Prop),
                                        cnd (x == (0 : Int))
                                            (f22_wp
                                              (((Prod.fst (Prod.fst f), Prod.snd (Prod.fst f)),
                                                  (Prod.fst (Prod.fst (Prod.snd f)), Prod.snd (Prod.fst (Prod.snd f))), Prod.snd (Prod.snd f)),
                                                (Prod.fst seen, Prod.snd seen), ())
                                              () fun (r : List Int × Bool × Unit) ↦
                                              ∃ (I_1 : Bool → Prop),
                                                cnd (Prod.fst (Prod.snd r))
                                                    (List.length (Prod.fst r) ≤ (9223372036854775807 : Nat) →
                                                      I_1 (decide ((↑(List.length (Prod.fst r)) : Int) > (0 : Int))))
                                                    (I_1 false) ∧
                                                  ∀ (x : Bool),
                                                    I_1 x →
                                                      cnd x
                                                        (cnd (Prod.fst (Prod.snd r_1) == (0 : Int))
                                                          (f41_wp (Prod.fst r_1, Prod.fst r, ()) () fun (r : Bool) ↦
                                                            cnd r (f10_wp () () fun (r : Bool) ↦ Q r) (Q false))
                                                          (Q false))
                                                        (cnd (Prod.fst (Prod.snd r)) (I (7 : Int)) (I (9 : Int))))
                                            (I x) ∧
                                          ∀ (x : Int),
                                            I x →
                                              cnd (Prod.fst (Prod.snd r_1) == x)
                                                (List.length (Prod.fst r_1) ≤ (9223372036854775807 : Nat) →
                                                  cnd ((↑(List.length (Prod.fst r_1)) : Int) == (0 : Int)) (f10_wp () () fun (r : Bool) ↦ Q r)
                                                    (Q false))
                                                (Q false)))
theorem v5 (f : (Int × Int) × (Int × Int) × List ((Int × Int) × Int × Int)) (seen : Int × Int) (Q : Bool → Prop) : V5 f seen Q = vcFunc (S1 [(10, f10_ct), (11, f11_ct), (14, f14_ct), (15, f15_ct), (20, f20_ct), (21, f21_ct), (22, f22_ct), (23, f23_ct)] [] [] []) f5_ct.own f5_ct.fresh f5_an Tryz.f5 (bodyOf Tryz.f5) f5_ct.A f5_ct.C f5_ct.R (f, seen, ()) () Q := by kernel_rfl

end Go.Proofs.Rz
set_option linter.unusedVariables false
set_option maxRecDepth 100000
namespace Go.Proofs.Rz
open Go Go.GX Go.Proofs

def V68 (w : SetsT) (below many : Int) (begun : List Int) (Q : List (List Int) → Prop) : Prop :=
  List.length begun ≤ (9223372036854775807 : Nat) →
    cnd ((↑(List.length begun) : Int) == many) (Q (begun :: ([] : List (List Int))))
      (List.length begun ≤ (9223372036854775807 : Nat) →
        ∃ (I : Int → Prop),
          cnd (decide ((↑(List.length begun) : Int) > (0 : Int)))
              (List.length begun ≤ (9223372036854775807 : Nat) →
                (0 : Int) ≤ IntKind.wrap IntKind.i64 ((↑(List.length begun) : Int) - (1 : Int)) ∧
                  IntKind.wrap IntKind.i64 ((↑(List.length begun) : Int) - (1 : Int)) < (↑(List.length begun) : Int) ∧
                    I
                      (IntKind.wrap IntKind.i64
                        (List.getD begun (Int.toNat (IntKind.wrap IntKind.i64 ((↑(List.length begun) : Int) - (1 : Int)))) (0 : Int) + (1 : Int))))
              (I (0 : Int)) ∧
            ∀ (x : Int),
              I x →
                ∃ (I : Int → List (List Int) → Prop),
                  ∃ (μ : Int → List (List Int) → Nat),
                    I x ([] : List (List Int)) ∧
                      ∀ (x : Int) (x_1 : List (List Int)),
                        I x x_1 →
                          cnd (decide (x < below))
                            ((List.length ([] : List Int) + List.length begun) * (8 : Nat) ≤ (140737488355328 : Nat) ∧
                              (List.length (([] : List Int) ++ begun) + List.length (x :: ([] : List Int))) * (8 : Nat) ≤ (140737488355328 : Nat) ∧
                                w (below, many, ([] : List Int) ++ begun ++ x :: ([] : List Int), ()) () fun (r : List (List Int)) ↦
                                  (List.length x_1 + List.length r) * (24 : Nat) ≤ (140737488355328 : Nat) ∧
                                    I (IntKind.wrap IntKind.i64 (x + (1 : Int))) (x_1 ++ r) ∧
                                      μ (IntKind.wrap IntKind.i64 (x + (1 : Int))) (x_1 ++ r) < μ x x_1)
                            (Q x_1))
theorem V68E (w : SetsT) (below many : Int) (begun : List Int) (Q : List (List Int) → Prop) : V68 w below many begun Q = (f68v_ct w below many begun Q) := by kernel_rfl

end Go.Proofs.Rz
set_option linter.unusedVariables false
set_option maxRecDepth 100000
namespace Go.Proofs.Rz
open Go Go.GX Go.Proofs
theorem mem_step (set : List Int) (x : Int) (j : Nat) (hj : j < set.length) : ((set.take (j + 1)).any fun y => x == y) = (((set.take j).any fun y => x == y) || (set.getD j 0 == x)) := by
  rw [take_succ_getD (d := (0 : Int)) hj, List.any_append]
  simp [BEq.comm (a := x)]
theorem p97 {f : Fan} {set : List Int} {Q : Fan → Prop} (h : f97_wp (f, set, ()) () Q) : V97 f set Q := by
  obtain ⟨hl, h⟩ := h
  have hl : f.2.2.length ≤ 1000000 := hl
  have h : Q (woF (memF set) f) := h
  refine forUpL (fun k => (((f.1.1, f.1.2), f.2.1.1, f.2.1.2), woK (memF set) f.2.2 k)) rfl (fun k hk I μ hI hw => ?_) h
  refine forUpL (fun j => (set.take j).any fun y => (k : Int) == y) rfl (fun j hj I1 μ1 hI1 hw1 => ?_) ?_
  · rw [mem_step set k j hj] at hI1
    rw [hw1]
    refine cnd_iff.2 ⟨fun c => ?_, fun c => ?_⟩
    · rw [c, Bool.true_or] at hI1
      have c : ((set.take j).any fun y => (k : Int) == y) = true := c
      rw [c]; exact hI1
    · rw [c, Bool.false_or] at hI1
      have c : ((set.take j).any fun y => (k : Int) == y) = false := c
      rw [c]
      exact ⟨by omega, by omega, hI1⟩
  · have e : ((set.take set.length).any fun y => (k : Int) == y) = memF set k := by
      rw [List.take_length]; rfl
    show cnd (!((set.take set.length).any fun y => (k : Int) == y)) _ _
    rw [e, hw]
    rw [woK_succ] at hI
    have hlen := woK_length (memF set) f.2.2 k
    cases hm : memF set k with
    | true => rw [if_pos hm] at hI; exact hI
    | false =>
      rw [if_neg (by rw [hm]; simp)] at hI
      refine ⟨by omega, by omega, ?_, hI⟩
      show (((woK (memF set) f.2.2 k).length + 1) * 32 : Nat) ≤ _
      omega
theorem p69 {f : Fan} {seen : Span} {set : List Int} {Q : Bool → Prop} (h : f69_wp (f, seen, set, ()) () Q) : V69 f seen set Q := by
  obtain ⟨hf, h⟩ := h
  have hf : FanOK f := hf
  have h : Q (canF f seen set) := h
  refine ⟨by have := hf.n; show f.2.2.length ≤ 1000000; omega, wo_ok hf _, fun hl => ?_⟩
  unfold canF at h
  refine cnd_iff.2 ⟨fun c => ?_, fun c => ?_⟩
  · have c : (set.length : Int) > 0 := of_decide_eq_true c
    rw [if_pos (by omega)] at h
    refine cnd_iff.2 ⟨fun d => ?_, fun d => ?_⟩
    · have d : decide ((opensF (woF (memF set) f)).1 ≤ seen.2) = true := d
      rw [d, Bool.true_and] at h; exact h
    · have d : decide ((opensF (woF (memF set) f)).1 ≤ seen.2) = false := d
      rw [d, Bool.false_and] at h; exact h
  · have c : ¬ (set.length : Int) > 0 := of_decide_eq_false c
    rw [if_neg (by omega)] at h
    refine cnd_iff.2 ⟨fun d => ?_, fun d => ?_⟩
    · have d : decide ((opensF (woF (memF set) f)).1 ≤ seen.2) = true := d
      rw [d, Bool.true_and] at h; exact h
    · have d : decide ((opensF (woF (memF set) f)).1 ≤ seen.2) = false := d
      rw [d, Bool.false_and] at h; exact h

theorem flat_len {α : Type} {c : Nat} : ∀ {l : List (List α)}, (∀ x, x ∈ l → x.length ≤ c) → l.flatten.length ≤ l.length * c
  | [], _ => by simp
  | x :: l, h => by
    have h1 := h x List.mem_cons_self
    have h2 := flat_len (l := l) fun y hy => h y (List.mem_cons_of_mem _ hy)
    rw [List.flatten_cons, List.length_append, List.length_cons, Nat.add_mul]
    omega
theorem fromS_nonneg {b : List Int} (h : ∀ x, x ∈ b → 0 ≤ x) : 0 ≤ fromS b := by
  unfold fromS
  split
  · have := h _ (getD_mem (d := (0 : Int)) (show b.length - 1 < b.length by omega))
    omega
  · omega
theorem sets_len {below : Int} (hb : below ≤ 10) : ∀ (m : Nat) (b : List Int), (∀ x, x ∈ b → 0 ≤ x) → (setsF below m b).length ≤ 10 ^ m
  | 0, b, _ => by simp [setsF]
  | m + 1, b, h => by
    have h0 := fromS_nonneg h
    have := flat_len (l := (List.range (below - fromS b).toNat).map fun (j : Nat) => setsF below m (b ++ [fromS b + j])) (c := 10 ^ m) fun x hx => by
      obtain ⟨j, _, rfl⟩ := List.mem_map.1 hx
      refine sets_len hb m _ fun y hy => ?_
      rcases List.mem_append.1 hy with hy | hy
      · exact h y hy
      · have : y = fromS b + j := by simpa using hy
        omega
    rw [List.length_map, List.length_range] at this
    have e : setsF below (m + 1) b = ((List.range (below - fromS b).toNat).map fun (j : Nat) => setsF below m (b ++ [fromS b + j])).flatten := rfl
    rw [e, Nat.pow_succ, Nat.mul_comm (10 ^ m)]
    exact Nat.le_trans this (Nat.mul_le_mul_right _ (by omega))

def partS (below : Int) (m : Nat) (b : List Int) (k : Nat) : List (List Int) := ((List.range k).map fun (j : Nat) => setsF below m (b ++ [fromS b + j])).flatten
theorem partS_succ (below : Int) (m : Nat) (b : List Int) (k : Nat) : partS below m b (k + 1) = partS below m b k ++ setsF below m (b ++ [fromS b + k]) := by
  unfold partS
  rw [List.range_succ, List.map_append, List.flatten_append]
  simp
theorem p68 {k : Nat} {below many : Int} {begun : List Int} {Q : List (List Int) → Prop} (h : f68_lt (k + 1) (below, many, begun, ()) () Q) : V68 (f68_lt k) below many begun Q := by
  obtain ⟨⟨⟨p1, p2, p3, p4, p5⟩, hk⟩, h⟩ := h
  have p1 : 0 ≤ below := p1
  have p2 : below ≤ 10 := p2
  have p3 : many ≤ 10 := p3
  have p4 : (begun.length : Int) ≤ many := p4
  have p5 : ∀ x, x ∈ begun → 0 ≤ x ∧ x < below := p5
  have hk : (many - (begun.length : Int)).toNat < k + 1 := hk
  have h : Q (setsF below (many - (begun.length : Int)).toNat begun) := h
  intro hl
  refine cnd_iff.2 ⟨fun c => ?_, fun c hl2 => ?_⟩
  · have c : (begun.length : Int) = many := by simpa using c
    rw [c, Int.sub_self] at h
    exact h
  have c : ¬ (begun.length : Int) = many := by simpa using c
  obtain ⟨m, hm⟩ : ∃ m, (many - (begun.length : Int)).toNat = m + 1 := ⟨(many - (begun.length : Int)).toNat - 1, by omega⟩
  rw [hm] at h
  have hF0 := fromS_nonneg fun x hx => (p5 x hx).1
  have hF1 : fromS begun ≤ below := by
    unfold fromS
    split
    · have := (p5 _ (getD_mem (d := (0 : Int)) (show begun.length - 1 < begun.length by omega))).2
      omega
    · omega
  refine ⟨fun x => x = fromS begun, cnd_iff.2 ⟨fun d hl3 => ?_, fun d => ?_⟩, ?_⟩
  · have d : (begun.length : Int) > 0 := of_decide_eq_true d
    rw [wrapS (x := (begun.length : Int) - 1) (by omega) (by omega)]
    refine ⟨by omega, by omega, ?_⟩
    rw [show ((begun.length : Int) - 1).toNat = begun.length - 1 by omega]
    have := p5 _ (getD_mem (d := (0 : Int)) (show begun.length - 1 < begun.length by omega))
    rw [wrapS (by omega) (by omega)]
    unfold fromS
    rw [if_pos (by omega)]
  · have d : ¬ (begun.length : Int) > 0 := of_decide_eq_false d
    show (0 : Int) = _
    unfold fromS
    rw [if_neg (by omega)]
  rintro _ rfl
  refine ⟨fun x acc => ∃ j : Nat, j ≤ (below - fromS begun).toNat ∧ x = fromS begun + j ∧ acc = partS below m begun j, fun x _ => (below - x).toNat, ⟨0, Nat.zero_le _, by simp, rfl⟩, ?_⟩
  rintro _ _ ⟨j, hj, rfl, rfl⟩
  refine cnd_iff.2 ⟨fun e => ?_, fun e => ?_⟩
  · have e : fromS begun + j < below := of_decide_eq_true e
    refine ⟨by simp only [List.length_nil]; omega, by simp only [List.length_append, List.length_nil, List.length_cons]; omega, ?_⟩
    rw [List.nil_append]
    have hpart : (partS below m begun (j + 1)).length ≤ 10 * 10 ^ m := by
      have := flat_len (l := (List.range (j + 1)).map fun (j : Nat) => setsF below m (begun ++ [fromS begun + j])) (c := 10 ^ m) fun x hx => by
        obtain ⟨i, _, rfl⟩ := List.mem_map.1 hx
        refine sets_len p2 m _ fun y hy => ?_
        rcases List.mem_append.1 hy with hy | hy
        · exact (p5 y hy).1
        · have : y = fromS begun + i := by simpa using hy
          omega
      rw [List.length_map, List.length_range] at this
      exact Nat.le_trans this (Nat.mul_le_mul_right _ (by omega))
    have hpow : 10 ^ m ≤ 10 ^ 9 := Nat.pow_le_pow_right (by omega) (by omega)
    have hmm : (many - ((begun ++ [fromS begun + (j : Int)]).length : Int)).toNat = m := by
      rw [List.length_append, List.length_cons, List.length_nil]; push_cast; omega
    have e2 := partS_succ below m begun j
    refine ⟨⟨⟨p1, p2, p3, ?_, fun x hx => ?_⟩, ?_⟩, ?_⟩
    · show (((begun ++ [fromS begun + (j : Int)]).length : Nat) : Int) ≤ many
      rw [List.length_append, List.length_cons, List.length_nil]; push_cast; omega
    · rcases List.mem_append.1 hx with hx | hx
      · exact p5 x hx
      · have : x = fromS begun + j := by simpa using hx
        show 0 ≤ x ∧ x < below
        omega
    · show (many - ((begun ++ [fromS begun + (j : Int)]).length : Int)).toNat < k
      rw [hmm]; omega
    · show ((partS below m begun j).length + (setsF below (many - ((begun ++ [fromS begun + (j : Int)]).length : Int)).toNat (begun ++ [fromS begun + (j : Int)])).length) * 24 ≤ 140737488355328 ∧ _
      simp only [setsM]
      rw [hmm, ← e2, wrapS (by omega) (by omega)]
      refine ⟨?_, ⟨j + 1, by omega, by push_cast; omega, rfl⟩, by omega⟩
      rw [e2, List.length_append] at hpart
      omega
  · have e : ¬ fromS begun + j < below := of_decide_eq_false e
    have : j = (below - fromS begun).toNat := by omega
    subst this
    exact h

theorem findD_at {α : Type} {p : α → Bool} {d : α} : ∀ {l : List α} {j : Nat}, j < l.length → (∀ i, i < j → p (l.getD i d) = false) → p (l.getD j d) = true → l.find? p = some (l.getD j d)
  | x :: l, 0, _, _, h => List.find?_cons_of_pos h
  | x :: l, j + 1, hj, hn, h => by
    rw [List.find?_cons_of_neg (by have := hn 0 (by omega); simpa using this)]
    exact findD_at (l := l) (j := j) (by simpa using hj) (fun i hi => by have := hn (i + 1) (by omega); simpa using this) (by simpa using h)
theorem allD_at {α : Type} {p : α → Bool} {d : α} {l : List α} (h : ∀ i, i < l.length → p (l.getD i d) = false) : ∀ y, y ∈ l → p y = false := fun y hy => by
  obtain ⟨i, hi, rfl⟩ := List.mem_iff_getElem.1 hy
  have := h i hi
  rwa [getD_lt hi] at this
theorem p22 {f : Fan} {seen : Span} {Q : List Int × Bool × Unit → Prop} (h : f22_wp (f, seen, ()) () Q) : V22 f seen Q := by
  obtain ⟨⟨hf, hn⟩, h⟩ := h
  have hf : FanOK f := hf
  have hn : f.2.2.length ≤ 10 := hn
  have h : Q (wrongA f seen) := h
  refine ⟨fun x => ∃ k : Nat, k ≤ f.2.2.length + 1 ∧ x = k ∧ ∀ j, j < k → ∀ y, y ∈ setsF f.2.2.length j [] → canF f seen y = false, fun x => (f.2.2.length + 1 - x).toNat, ⟨0, by omega, rfl, fun j hj => by omega⟩, ?_⟩
  rintro _ ⟨k, hk, rfl, hno⟩ hl
  refine cnd_iff.2 ⟨fun c hl2 => ?_, fun c => ?_⟩
  · have c : (k : Int) ≤ (f.2.2.length : Int) := of_decide_eq_true c
    refine ⟨⟨by show (0 : Int) ≤ f.2.2.length; omega, by show (f.2.2.length : Int) ≤ 10; omega, by show (k : Int) ≤ 10; omega, by show ((0 : Nat) : Int) ≤ k; omega, fun x hx => by cases hx⟩, ?_⟩
    have e : setsM ((f.2.2.length : Int), (k : Int), ([] : List Int), ()) = k := by unfold setsM; simp
    rw [e]
    obtain ⟨r, hr⟩ : ∃ r, r = setsF (f.2.2.length : Int) k [] := ⟨_, rfl⟩
    show ∃ (I_1 : Int → Prop) (μ_1 : Int → Nat), I_1 0 ∧ ∀ x_1, I_1 x_1 → (setsF f.2.2.length k []).length ≤ 9223372036854775807 → cnd (decide (x_1 < ((setsF f.2.2.length k []).length : Int))) _ _
    refine forUpGL (fun j => ∀ i, i < j → canF f seen ((setsF f.2.2.length k []).getD i []) = false) (fun i hi => by omega) (fun j hj hgo hl3 I1 μ1 hI1 hw1 => ?_) (fun hgo => ?_)
    · refine ⟨by omega, by show (j : Int) < ((setsF (f.2.2.length : Int) k []).length : Int); omega, canF f seen ((setsF f.2.2.length k []).getD j []), ⟨hf, ?_⟩, ?_⟩
      · show canF f seen ((setsF f.2.2.length k []).getD (Int.toNat (j : Int)) []) = _
        rw [show Int.toNat (j : Int) = j from rfl]
      refine cnd_iff.2 ⟨fun d => ?_, fun d => ?_⟩
      · refine ⟨by omega, by show (j : Int) < ((setsF (f.2.2.length : Int) k []).length : Int); omega, ?_⟩
        show Q ((setsF f.2.2.length k []).getD j [], true, ())
        have hfind : wrongR f seen = some ((setsF f.2.2.length k []).getD j []) := find_flat _ k (by omega) hno (findD_at hj hgo d)
        unfold wrongA at h
        rw [hfind] at h
        exact h
      · rw [hw1]
        refine hI1 fun i hi => ?_
        rcases Nat.lt_succ_iff_lt_or_eq.1 hi with hi | rfl
        · exact hgo i hi
        · exact d
    · rw [wrapS (by omega) (by omega)]
      refine ⟨⟨k + 1, by omega, by push_cast; rfl, fun j hj => ?_⟩, by show ((f.2.2.length : Int) + 1 - ((k : Int) + 1)).toNat < ((f.2.2.length : Int) + 1 - (k : Int)).toNat; omega⟩
      rcases Nat.lt_succ_iff_lt_or_eq.1 hj with hj | rfl
      · exact hno j hj
      · exact allD_at hgo
  · have c : ¬ (k : Int) ≤ (f.2.2.length : Int) := of_decide_eq_false c
    have hfind : wrongR f seen = none := List.find?_eq_none.2 fun y hy hh => by
      obtain ⟨l, hl1, hl2⟩ := List.mem_flatten.1 hy
      obtain ⟨j, hj, rfl⟩ := List.mem_map.1 hl1
      have hj := List.mem_range.1 hj
      rw [hno j (by omega) y hl2] at hh; cases hh
    unfold wrongA at h
    rw [hfind] at h
    exact h

theorem gen21w {f : Fan} {s : Span} {K : List Int × Int × Unit → Prop} (hp : checkF f = 0 → inB 0 360 s.1 = true → inB 0 360 s.2 = true → s.1 ≤ s.2 → f.2.2.length ≤ 12) (hk : ∀ z, z = wrongF f s → K z) : f21_wp (f, s, ()) () K := ⟨hp, hk _ rfl⟩
theorem gen22w {f : Fan} {s : Span} {K : List Int × Bool × Unit → Prop} (h1 : FanOK f) (h2 : f.2.2.length ≤ 10) (hk : ∀ z, z = wrongA f s → K z) : f22_wp (f, s, ()) () K := ⟨⟨h1, h2⟩, hk _ rfl⟩
theorem inB_iff {x : Int} : inB 0 360 x = true ↔ 0 ≤ x ∧ x ≤ 360 := by simp [inB]
theorem gen41 {a b : List Int} {K : Bool → Prop} (h : K (decide (a = b))) : f41_wp (a, b, ()) () K := h
theorem p5 {f : Fan} {seen : Span} {Q : Bool → Prop} (h : f5_wp (f, seen, ()) () Q) : V5 f seen Q := by
  have h : Q true := h
  refine gen14 (f := f) ?_
  obtain ⟨bad, hbad⟩ : ∃ bad : Bool, bad = (!inB 0 360 seen.1 || (!inB 0 360 seen.2 || decide (seen.1 > seen.2))) := ⟨_, rfl⟩
  refine ⟨fun x => x = (decide (checkF f = 0) && bad), cnd_iff.2 ⟨fun e => ?_, fun e => ?_⟩, ?_⟩
  · have e : checkF f = 0 := by simpa using e
    show cnd (!inB 0 360 seen.1) (true = _) (cnd (!inB 0 360 seen.2) (true = _) (decide (seen.1 > seen.2) = _))
    rw [decide_eq_true e, Bool.true_and, hbad]
    refine cnd_iff.2 ⟨fun a => by rw [a]; rfl, fun a => cnd_iff.2 ⟨fun b => by rw [a, b]; rfl, fun b => by rw [a, b]; rfl⟩⟩
  · have e : checkF f ≠ 0 := by simpa using e
    show false = _
    rw [decide_eq_false e]; rfl
  rintro _ rfl
  obtain ⟨want, hw⟩ : ∃ want : Int, want = if (decide (checkF f = 0) && bad) = true then 4 else checkF f := ⟨_, rfl⟩
  refine ⟨fun x => x = want, cnd_iff.2 ⟨fun e => by rw [hw, if_pos e], fun e => by rw [hw, if_neg (by rw [e]; simp)]⟩, ?_⟩
  rintro x0 hx0
  have hx0 : x0 = want := hx0
  rw [hx0]
  clear hx0
  refine ⟨fun x => x = (decide ((f.2.2.length : Int) > 50) || (want == 0 && decide ((f.2.2.length : Int) > 10))), fun hl => cnd_iff.2 ⟨fun a => by rw [a]; rfl, fun a => cnd_iff.2 ⟨fun b hl2 => by rw [a, b]; rfl, fun b => by rw [a, b]; rfl⟩⟩, ?_⟩
  rintro _ rfl
  refine cnd_iff.2 ⟨fun _ => h, fun c => ?_⟩
  simp only [Bool.or_eq_false_iff, decide_eq_false_iff_not, Bool.and_eq_false_iff, beq_eq_false_iff_ne] at c
  obtain ⟨c1, c2⟩ := c
  have wz : checkF f = 0 → inB 0 360 seen.1 = true → inB 0 360 seen.2 = true → seen.1 ≤ seen.2 → want = 0 := fun a b c d => by
    rw [hw, hbad, b, c, decide_eq_false (by omega : ¬ seen.1 > seen.2)]
    simp [a]
  refine gen11 (f := f) (by omega) (gen21w (f := f) (s := seen) (fun a b c d => ?_) fun z hz => gen15 (a := f) (b := f) (cnd_not (by simp) ?_))
  · rcases c2 with c2 | c2
    · exact absurd (wz a b c d) c2
    · omega
  by_cases hz0 : want = 0
  · have e : checkF f = 0 := by
      rw [hw] at hz0
      split at hz0
      · omega
      · exact hz0
    have hb : bad = false := by
      cases hb : bad with
      | false => rfl
      | true => rw [hw, hb, decide_eq_true e] at hz0; simp at hz0
    rw [hb] at hbad
    have hbad := hbad.symm
    simp only [Bool.or_eq_false_iff, Bool.not_eq_false', decide_eq_false_iff_not, inB_iff] at hbad
    obtain ⟨s1, s2, s3⟩ := hbad
    have ho := checkF_ok.1 e
    have hn : f.2.2.length ≤ 10 := by
      rcases c2 with c2 | c2
      · exact absurd hz0 c2
      · omega
    obtain ⟨w1, w2⟩ := wrong_first ho (seen := seen) s1.1 (by omega) s2.2
    obtain ⟨v1, v2⟩ := wrong_spec ho (seen := seen) s1.1 (by omega) s2.2

    refine ⟨fun x => z = ([], x, ()), cnd_of (beqT hz0) (gen22w (f := f) (s := seen) ho.fan hn fun y hy => ?_), ?_⟩
    · by_cases hc : (opensF f).1 ≤ seen.2 ∧ seen.1 ≤ (opensF f).2
      · have w := w1 hc
        have v := v1 hc
        unfold wrongA at hy
        rw [w] at hy
        subst hy
        refine ⟨fun x => x = false, cndT fun _ => decide_eq_false (by simp), ?_⟩
        rintro _ rfl
        exact cndF (cndT (hz.trans v))
      · by_cases h0 : f.2.2.length = 0
        · have w := (w2 hc).1 h0
          have v := (v2 hc).1 h0
          unfold wrongA at hy
          rw [w] at hy
          subst hy
          refine ⟨fun x => x = false, cndF rfl, ?_⟩
          rintro _ rfl
          exact cndF (cndF (hz.trans v))
        · obtain ⟨l, l1, l2, l3⟩ := (w2 hc).2 h0
          unfold wrongA at hy
          rw [l2] at hy
          have hz := hz.trans l1
          subst hy
          subst hz
          refine ⟨fun x => x = true, cndT fun _ => decide_eq_true (by show (l.length : Int) > 0; omega), ?_⟩
          rintro _ rfl
          exact cndT (cndT (gen41 (a := l) (b := l) (cnd_of (by simp) h)))
    · rintro x rfl
      exact cnd_of (by simp) fun _ => cnd_of (by simp) h
  · have hz2 : z = ([], want, ()) := by
      rw [hz, hw]
      unfold wrongF
      by_cases e : checkF f = 0
      · have hb : bad = true := by
          cases hb : bad with
          | true => rfl
          | false => rw [hw, hb] at hz0; simp [e] at hz0
        rw [if_neg (by omega), if_pos ?_, if_pos (by rw [hb]; simp [e])]
        rw [hb] at hbad
        have hbad := hbad.symm
        simp only [Bool.or_eq_true, Bool.not_eq_true', decide_eq_true_eq] at hbad
        exact hbad
      · rw [if_pos e, if_neg (by simp [e])]
    subst hz2
    refine ⟨fun x => x = want, cnd_not (beqF hz0) rfl, ?_⟩
    rintro x hx
    have hx : x = want := hx
    rw [hx]
    exact cnd_of (by simp) fun _ => cnd_of (by simp) h
end Go.Proofs.Rz
set_option maxRecDepth 100000
set_option maxHeartbeats 2000000
namespace Go.Proofs.Rz
open Go Go.GX Go.Proofs
variable [Inhabited BaseD]
theorem ok97 : CallsOK Tryz.prog (assoc glT) 97 f97_ct :=
  callsOK_E (env (ct := []) (ios := []) (hos := []) (lits := []) AllOK.nil AllW.nil AllH.nil) f97_an Tryz.func97 (by kernel_rfl) (by kernel_rfl) f97_ct fun ⟨f, set, _⟩ _ Q h => (v97 f set Q).mp (p97 h)
theorem ok69 : CallsOK Tryz.prog (assoc glT) 69 f69_ct :=
  callsOK_E (env (ct := [(97, f97_ct), (16, f16_ct)]) (ios := []) (hos := []) (lits := []) (AllOK.cons ok97 (AllOK.cons ok16 AllOK.nil)) AllW.nil AllH.nil) no_an Tryz.func69 (by kernel_rfl) (by kernel_rfl) f69_ct fun ⟨f, seen, set, _⟩ _ Q h => (v69 f seen set Q).mp (p69 h)
theorem ok68lt : ∀ k, CallsOK Tryz.prog (assoc glT) 68 (f68r_ct (f68_lt k))
  | 0 => callsOK_E (c := bodyOf Tryz.f68) (env (ct := []) (ios := []) (hos := []) (lits := []) AllOK.nil AllW.nil AllH.nil) f68_an Tryz.func68 (by kernel_rfl) (by kernel_rfl) (f68r_ct (f68_lt 0)) fun _ _ _ h => absurd h.1.2 (Nat.not_lt_zero _)
  | k + 1 => callsOK_E (c := bodyOf Tryz.f68) (env (ct := [(68, f68r_ct (f68_lt k))]) (ios := []) (hos := []) (lits := []) (AllOK.cons (ok68lt k) AllOK.nil) AllW.nil AllH.nil) f68_an Tryz.func68 (by kernel_rfl) (by kernel_rfl) (f68r_ct (f68_lt (k + 1))) fun ⟨below, many, begun, _⟩ _ Q h => (V68E (f68_lt k) below many begun Q).mp (p68 h)
theorem ok68 : CallsOK Tryz.prog (assoc glT) 68 f68_ct :=
  ⟨(ok68lt 0).enters, fun X W x y vs cs hX hg hv hc Q hQ => (ok68lt (setsM x + 1)).calls X W x y vs cs hX hg hv hc Q ⟨⟨hQ.1, Nat.lt_succ_self _⟩, hQ.2⟩⟩
theorem ok22 : CallsOK Tryz.prog (assoc glT) 22 f22_ct :=
  callsOK_E (env (ct := [(68, f68_ct), (69, f69_ct)]) (ios := []) (hos := []) (lits := []) (AllOK.cons ok68 (AllOK.cons ok69 AllOK.nil)) AllW.nil AllH.nil) f22_an Tryz.func22 (by kernel_rfl) (by kernel_rfl) f22_ct fun ⟨f, seen, _⟩ _ Q h => (v22 f seen Q).mp (p22 h)
theorem ok5 : CallsOK Tryz.prog (assoc glT) 5 f5_ct :=
  callsOK_E (env (ct := [(10, f10_ct), (11, f11_ct), (14, f14_ct), (15, f15_ct), (20, f20_ct), (21, f21_ct), (22, f22_ct), (23, f23_ct)]) (ios := []) (hos := []) (lits := []) (AllOK.cons ok10 (AllOK.cons ok11 (AllOK.cons ok14 (AllOK.cons ok15 (AllOK.cons ok20 (AllOK.cons ok21 (AllOK.cons ok22 (AllOK.cons ok23 AllOK.nil)))))))) AllW.nil AllH.nil) f5_an Tryz.func5 (by kernel_rfl) (by kernel_rfl) f5_ct fun ⟨f, seen, _⟩ _ Q h => (v5 f seen Q).mp (p5 h)
end Go.Proofs.Rz
