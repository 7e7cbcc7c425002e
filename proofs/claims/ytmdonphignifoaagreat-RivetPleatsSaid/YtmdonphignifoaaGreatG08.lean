/- Part 8 of the texts behind the proof: RzO2, RzV5, RzP8, RzV6, RzP9, RzO3, RzPb, RzV9, RzPx, RzV10, RzPy, RzO4. -/
import Derived.Test.YtmdonphignifoaaGreatG07
import Derived.Test.YtmdonphignifoaaGreatProg
set_option linter.unusedSimpArgs false
set_option linter.unusedVariables false
set_option linter.unusedSectionVars false
set_option maxRecDepth 100000
set_option maxHeartbeats 2000000
namespace Go.Proofs.Rz
open Go Go.GX Go.Proofs
variable [Inhabited BaseD]
theorem ok61 : CallsOK Tryz.prog (assoc glT) 61 f61_ct :=
  callsOK_E (env (ct := []) (ios := []) (hos := []) (lits := []) AllOK.nil AllW.nil AllH.nil) f61_an Tryz.func61 (by kernel_rfl) (by kernel_rfl) f61_ct fun ⟨f, s, _⟩ _ Q h => (v61 f s Q).mp (p61 h)
theorem ok17 : CallsOK Tryz.prog (assoc glT) 17 f17_ct :=
  callsOK_E (env (ct := [(12, f12_ct), (50, f50_ct), (51, f51_ct), (45, f45_ct)]) (ios := []) (hos := []) (lits := []) (AllOK.cons ok12 (AllOK.cons ok50 (AllOK.cons ok51 (AllOK.cons ok45 AllOK.nil)))) AllW.nil AllH.nil) f17_an Tryz.func17 (by kernel_rfl) (by kernel_rfl) f17_ct fun ⟨f, more, _⟩ _ Q h => (v17 f more Q).mp (p17 h)
theorem ok54 : CallsOK Tryz.prog (assoc glT) 54 f54_ct :=
  callsOK_E (env (ct := [(55, f55_ct), (56, f56_ct)]) (ios := []) (hos := []) (lits := []) (AllOK.cons ok55 (AllOK.cons ok56 AllOK.nil)) AllW.nil AllH.nil) no_an Tryz.func54 (by kernel_rfl) (by kernel_rfl) f54_ct fun i ⟨f, _⟩ Q h => (v54 i f Q).mp (p54 h)
theorem ok58 : CallsOK Tryz.prog (assoc glT) 58 f58_ct :=
  callsOK_E (env (ct := [(59, f59_ct)]) (ios := []) (hos := []) (lits := []) (AllOK.cons ok59 AllOK.nil) AllW.nil AllH.nil) no_an Tryz.func58 (by kernel_rfl) (by kernel_rfl) f58_ct fun ik ⟨g, _⟩ Q h => (v58 ik g Q).mp (p58 h)
theorem ok62 : CallsOK Tryz.prog (assoc glT) 62 f62_ct :=
  callsOK_E (env (ct := [(63, f63_ct)]) (ios := []) (hos := []) (lits := []) (AllOK.cons ok63 AllOK.nil) AllW.nil AllH.nil) no_an Tryz.func62 (by kernel_rfl) (by kernel_rfl) f62_ct fun i ⟨set, _⟩ Q h => (v62 i set Q).mp (p62 h)
theorem ok60 : CallsOK Tryz.prog (assoc glT) 60 f60_ct :=
  callsOK_E (env (ct := [(61, f61_ct), (62, f62_ct), (45, f45_ct)]) (ios := []) (hos := []) (lits := []) (AllOK.cons ok61 (AllOK.cons ok62 (AllOK.cons ok45 AllOK.nil))) AllW.nil AllH.nil) no_an Tryz.func60 (by kernel_rfl) (by kernel_rfl) f60_ct fun set ⟨f, seen, _⟩ Q h => (v60 set f seen Q).mp (p60 h)
theorem ok66 : CallsOK Tryz.prog (assoc glT) 66 f66_ct :=
  callsOK_E (env (ct := []) (ios := []) (hos := []) (lits := []) AllOK.nil AllW.nil AllH.nil) no_an Tryz.func66 (by kernel_rfl) (by kernel_rfl) f66_ct fun k ⟨i, _⟩ Q h => (v66 k i Q).mp (p66 h)
theorem ok21 : CallsOK Tryz.prog (assoc glT) 21 f21_ct :=
  callsOK_E (env (ct := [(12, f12_ct), (53, f53_ct), (45, f45_ct), (54, f54_ct), (58, f58_ct), (60, f60_ct), (65, f65_ct), (66, f66_ct), (67, f67_ct)]) (ios := [(57, f57_ct)]) (hos := [(64, f64_ct)]) (lits := [1200,1300,2500,2303,8003112]) (AllOK.cons ok12 (AllOK.cons ok53 (AllOK.cons ok45 (AllOK.cons ok54 (AllOK.cons ok58 (AllOK.cons ok60 (AllOK.cons ok65 (AllOK.cons ok66 (AllOK.cons ok67 AllOK.nil))))))))) (AllW.cons ok57 AllW.nil) (AllH.cons ok64 AllH.nil)) f21_an Tryz.func21 (by kernel_rfl) (by kernel_rfl) f21_ct fun ⟨f, seen, _⟩ _ Q h => (v21 f seen Q).mp (p21 h)
theorem ok24 : CallsOK Tryz.prog (assoc glT) 24 f24_ct :=
  callsOK_E (env (ct := [(12, f12_ct), (53, f53_ct), (70, f70_ct), (45, f45_ct)]) (ios := []) (hos := []) (lits := []) (AllOK.cons ok12 (AllOK.cons ok53 (AllOK.cons ok70 (AllOK.cons ok45 AllOK.nil)))) AllW.nil AllH.nil) f24_an Tryz.func24 (by kernel_rfl) (by kernel_rfl) f24_ct fun ⟨f, d, _⟩ _ Q h => (v24 f d Q).mp (p24 h)
theorem ok71 : CallsOK Tryz.prog (assoc glT) 71 f71_ct :=
  callsOK_E (env (ct := [(51, f51_ct), (45, f45_ct)]) (ios := []) (hos := []) (lits := []) (AllOK.cons ok51 (AllOK.cons ok45 AllOK.nil)) AllW.nil AllH.nil) f71_an Tryz.func71 (by kernel_rfl) (by kernel_rfl) f71_ct fun a ⟨f, d, _⟩ Q h => (v71 a f d Q).mp (p71 h)
theorem ok26 : CallsOK Tryz.prog (assoc glT) 26 f26_ct :=
  callsOK_E (env (ct := [(12, f12_ct), (53, f53_ct), (71, f71_ct)]) (ios := []) (hos := []) (lits := []) (AllOK.cons ok12 (AllOK.cons ok53 (AllOK.cons ok71 AllOK.nil))) AllW.nil AllH.nil) f26_an Tryz.func26 (by kernel_rfl) (by kernel_rfl) f26_ct fun ⟨f, d, _⟩ _ Q h => (v26 f d Q).mp (p26 h)
theorem ok101 : CallsOK Tryz.prog (assoc glT) 101 f101_ct :=
  callsOK_E (env (ct := [(43, f43_ct), (50, f50_ct)]) (ios := []) (hos := []) (lits := []) (AllOK.cons ok43 (AllOK.cons ok50 AllOK.nil)) AllW.nil AllH.nil) no_an Tryz.func101 (by kernel_rfl) (by kernel_rfl) f101_ct fun s _ Q h => (v101 s Q).mp (p101 h)
theorem ok100 : CallsOK Tryz.prog (assoc glT) 100 f100_ct :=
  callsOK_E (env (ct := [(101, f101_ct)]) (ios := []) (hos := []) (lits := []) (AllOK.cons ok101 AllOK.nil) AllW.nil AllH.nil) no_an Tryz.func100 (by kernel_rfl) (by kernel_rfl) f100_ct fun s _ Q h => (v100 s Q).mp (p100 h)
theorem ok102 : CallsOK Tryz.prog (assoc glT) 102 f102_ct :=
  callsOK_E (env (ct := []) (ios := []) (hos := []) (lits := []) AllOK.nil AllW.nil AllH.nil) no_an Tryz.func102 (by kernel_rfl) (by kernel_rfl) f102_ct fun ⟨a, b, _⟩ _ Q h => (v102 a b Q).mp (p102 h)
theorem ok77 : CallsOK Tryz.prog (assoc glT) 77 f77_ct :=
  callsOK_E (env (ct := [(99, f99_ct), (100, f100_ct), (102, f102_ct)]) (ios := []) (hos := []) (lits := []) (AllOK.cons ok99 (AllOK.cons ok100 (AllOK.cons ok102 AllOK.nil))) AllW.nil AllH.nil) f77_an Tryz.func77 (by kernel_rfl) (by kernel_rfl) f77_ct fun l _ Q h => (v77 l Q).mp (p77 h)
theorem ok81 : CallsOK Tryz.prog (assoc glT) 81 f81_ct :=
  callsOK_E (env (ct := []) (ios := []) (hos := []) (lits := []) AllOK.nil AllW.nil AllH.nil) f81_an Tryz.func81 (by kernel_rfl) (by kernel_rfl) f81_ct fun ⟨l, first, p, q, _⟩ _ Q h => (v81 l first p q Q).mp (p81 h)
theorem ok84 : CallsOK Tryz.prog (assoc glT) 84 f84_ct :=
  callsOK_E (env (ct := []) (ios := []) (hos := []) (lits := []) AllOK.nil AllW.nil AllH.nil) f84_an Tryz.func84 (by kernel_rfl) (by kernel_rfl) f84_ct fun ⟨num, den, _⟩ _ Q h => (v84 num den Q).mp (p84 h)
theorem ok80 : CallsOK Tryz.prog (assoc glT) 80 f80_ct :=
  callsOK_E (env (ct := []) (ios := []) (hos := []) (lits := []) AllOK.nil AllW.nil AllH.nil) no_an Tryz.func80 (by kernel_rfl) (by kernel_rfl) f80_ct fun ab _ Q h => (v80 ab Q).mp (p80 h)
theorem ok40 : CallsOK Tryz.prog (assoc glT) 40 f40_ct :=
  callsOK_E (env (ct := [(77, f77_ct), (79, f79_ct), (78, f78_ct), (80, f80_ct), (81, f81_ct), (82, f82_ct), (83, f83_ct), (84, f84_ct)]) (ios := []) (hos := []) (lits := []) (AllOK.cons ok77 (AllOK.cons ok79 (AllOK.cons ok78 (AllOK.cons ok80 (AllOK.cons ok81 (AllOK.cons ok82 (AllOK.cons ok83 (AllOK.cons ok84 AllOK.nil)))))))) AllW.nil AllH.nil) f40_an Tryz.func40 (by kernel_rfl) (by kernel_rfl) f40_ct fun l _ Q h => (v40 l Q).mp (p40 h)
theorem ok18 : CallsOK Tryz.prog (assoc glT) 18 f18_ct :=
  callsOK_E (env (ct := []) (ios := []) (hos := []) (lits := []) AllOK.nil AllW.nil AllH.nil) no_an Tryz.func18 (by kernel_rfl) (by kernel_rfl) f18_ct fun ⟨n, lo, hi, _⟩ _ Q h => (v18 n lo hi Q).mp (p18 h)
theorem ok46 : CallsOK Tryz.prog (assoc glT) 46 f46_ct :=
  callsOK_E (env (ct := [(18, f18_ct)]) (ios := []) (hos := []) (lits := []) (AllOK.cons ok18 AllOK.nil) AllW.nil AllH.nil) no_an Tryz.func46 (by kernel_rfl) (by kernel_rfl) f46_ct fun ⟨s, lo, hi, _⟩ _ Q h => (v46 s lo hi Q).mp (p46 h)
theorem ok14 : CallsOK Tryz.prog (assoc glT) 14 f14_ct :=
  callsOK_E (env (ct := [(46, f46_ct)]) (ios := []) (hos := []) (lits := []) (AllOK.cons ok46 AllOK.nil) AllW.nil AllH.nil) f14_an Tryz.func14 (by kernel_rfl) (by kernel_rfl) f14_ct fun f _ Q h => (v14 f Q).mp (p14 h)
theorem ok11 : CallsOK Tryz.prog (assoc glT) 11 f11_ct :=
  callsOK_E (env (ct := []) (ios := []) (hos := []) (lits := []) AllOK.nil AllW.nil AllH.nil) no_an Tryz.func11 (by kernel_rfl) (by kernel_rfl) f11_ct fun f _ Q h => (v11 f Q).mp (p11 h)
theorem ok15 : CallsOK Tryz.prog (assoc glT) 15 f15_ct :=
  callsOK_E (env (ct := []) (ios := []) (hos := []) (lits := []) AllOK.nil AllW.nil AllH.nil) f15_an Tryz.func15 (by kernel_rfl) (by kernel_rfl) f15_ct fun ⟨a, b, _⟩ _ Q h => (v15 a b Q).mp (p15 h)
theorem ok41 : CallsOK Tryz.prog (assoc glT) 41 f41_ct :=
  callsOK_E (env (ct := []) (ios := []) (hos := []) (lits := []) AllOK.nil AllW.nil AllH.nil) cmp_an Tryz.func41 (by kernel_rfl) (by kernel_rfl) f41_ct fun ⟨a, b, _⟩ _ Q h => (v41 a b Q).mp (p41 h)
theorem ok23 : CallsOK Tryz.prog (assoc glT) 23 f23_ct :=
  callsOK_E (env (ct := []) (ios := []) (hos := []) (lits := []) AllOK.nil AllW.nil AllH.nil) cmp_an Tryz.func23 (by kernel_rfl) (by kernel_rfl) f23_ct fun ⟨a, b, _⟩ _ Q h => (v23 a b Q).mp (p23 h)
end Go.Proofs.Rz
set_option linter.unusedVariables false
set_option maxRecDepth 100000
namespace Go.Proofs.Rz
open Go Go.GX Go.Proofs

def V34 (a : Int) (b : Int) (Q : Int × Int → Prop) : Prop :=
  Q (a, b)
theorem v34 (a : Int) (b : Int) (Q : Int × Int → Prop) : V34 a b Q = vcFunc (S1 [] [] [] []) f34_ct.own f34_ct.fresh no_an Tryz.f34 (bodyOf Tryz.f34) f34_ct.A f34_ct.C f34_ct.R (a, b, ()) () Q := by kernel_rfl

def V39 (Q : (Int × Int) × (Int × Int) × List ((Int × Int) × Int × Int) → Prop) : Prop :=
  f34_wp ((900 : Int), (1000 : Int), ()) () fun (r : Int × Int) ↦
    f34_wp ((40 : Int), (50 : Int), ()) () fun (r_1 : Int × Int) ↦
      f34_wp ((200 : Int), (210 : Int), ()) () fun (r_2 : Int × Int) ↦
        f34_wp ((12 : Int), (12 : Int), ()) () fun (r_3 : Int × Int) ↦
          f34_wp ((100 : Int), (100 : Int), ()) () fun (r_4 : Int × Int) ↦
            f34_wp ((4 : Int), (5 : Int), ()) () fun (r_5 : Int × Int) ↦
              Q
                ((Prod.fst r, Prod.snd r), (Prod.fst r_1, Prod.snd r_1),
                  ((Prod.fst r_2, Prod.snd r_2), Prod.fst r_3, Prod.snd r_3) ::
                    ((Prod.fst r_4, Prod.snd r_4), Prod.fst r_5, Prod.snd r_5) :: ([] : List ((Int × Int) × Int × Int)))
theorem v39 (Q : (Int × Int) × (Int × Int) × List ((Int × Int) × Int × Int) → Prop) : V39 Q = vcFunc (S1 [(34, f34_ct)] [] [] [108]) f39_ct.own f39_ct.fresh no_an Tryz.f39 (bodyOf Tryz.f39) f39_ct.A f39_ct.C f39_ct.R () () Q := by kernel_rfl

def V32 (n : Int) (d : Int) (Q : Int → Prop) : Prop :=
  IntKind.wrap IntKind.i64 ((355 : Int) * d) ≠ (0 : Int) ∧
    Q
      (mnI (360 : Int)
        (IntKind.wrap IntKind.i64 (Int.tdiv (IntKind.wrap IntKind.i64 ((20340 : Int) * n)) (IntKind.wrap IntKind.i64 ((355 : Int) * d)))))
end Go.Proofs.Rz
set_option linter.unusedVariables false
set_option maxRecDepth 100000
namespace Go.Proofs.Rz
open Go Go.GX Go.Proofs

theorem p34 {a b : Int} {Q : Span → Prop} (h : f34_wp (a, b, ()) () Q) : V34 a b Q := h
theorem p39 {Q : Fan → Prop} (h : f39_wp () () Q) : V39 Q := h
theorem sumG_take_succ (arc : Span → Int) (far near : Int) {gs : List Gap} {k : Nat} (hk : k < gs.length) : sumG arc far near (gs.take (k + 1)) = sumG arc far near (gs.take k) + angG arc far near (gs.getD k g0) := by
  rw [take_succ_getD (d := g0) hk, sumG_append, sumG_cons, sumG_nil]; omega
theorem p32 {n d : Int} {Q : Int → Prop} (h : f32_wp (n, d, ()) () Q) : V32 n d Q := by
  obtain ⟨⟨h1, h2, h3, h4⟩, h⟩ := h
  have h1 : 0 ≤ n := h1
  have h2 : n ≤ 400000000000 := h2
  have h3 : 1 ≤ d := h3
  have h4 : d ≤ 400000000000 := h4
  have h : Q (degND n d) := h
  have e : Int.tdiv (20340 * n) (355 * d) = Int.tdiv (4068 * n) (71 * d) := by
    rw [show (20340 : Int) * n = 5 * (4068 * n) by omega, show (355 : Int) * d = 5 * (71 * d) by omega]
    exact Int.mul_tdiv_mul_of_pos (4068 * n) (71 * d) (by omega)
  have hr : 0 ≤ Int.tdiv (4068 * n) (71 * d) ∧ Int.tdiv (4068 * n) (71 * d) ≤ 4068 * n := by
    rw [Int.tdiv_eq_ediv_of_nonneg (by omega)]
    exact ⟨Int.ediv_nonneg (by omega) (by omega), Int.ediv_le_self _ (by omega)⟩
  rw [V32, wrapS (x := 355 * d) (by omega) (by omega), wrapS (x := 20340 * n) (by omega) (by omega), e, wrapS (by omega) (by omega), mnI_min]
  exact ⟨by omega, h⟩
end Go.Proofs.Rz
set_option linter.unusedVariables false
set_option maxRecDepth 100000
namespace Go.Proofs.Rz
open Go Go.GX Go.Proofs

def V10 (Q : Bool → Prop) : Prop :=
  f39_wp () () fun (r : (Int × Int) × (Int × Int) × List ((Int × Int) × Int × Int)) ↦
    f13_wp ((Prod.fst (Prod.fst r), Prod.snd (Prod.fst r)), (Prod.fst (Prod.fst (Prod.snd r)), Prod.snd (Prod.fst (Prod.snd r))), Prod.snd (Prod.snd r))
      () fun (r : (Int × Int) × Int × Unit) ↦
      f39_wp () () fun (r_1 : (Int × Int) × (Int × Int) × List ((Int × Int) × Int × Int)) ↦
        f30_wp
          ((Prod.fst (Prod.fst r_1), Prod.snd (Prod.fst r_1)), (Prod.fst (Prod.fst (Prod.snd r_1)), Prod.snd (Prod.fst (Prod.snd r_1))),
            Prod.snd (Prod.snd r_1))
          () fun (r_2 : List Int × Int × Unit) ↦
          f39_wp () () fun (r_3 : (Int × Int) × (Int × Int) × List ((Int × Int) × Int × Int)) ↦
            f17_wp
              (((Prod.fst (Prod.fst r_3), Prod.snd (Prod.fst r_3)), (Prod.fst (Prod.fst (Prod.snd r_3)), Prod.snd (Prod.fst (Prod.snd r_3))),
                  Prod.snd (Prod.snd r_3)),
                (100 : Int), ())
              () fun (r_4 : Int × Int × Int × Unit) ↦
              f39_wp () () fun (r_5 : (Int × Int) × (Int × Int) × List ((Int × Int) × Int × Int)) ↦
                f34_wp ((10 : Int), (14 : Int), ()) () fun (r_6 : Int × Int) ↦
                  f21_wp
                    (((Prod.fst (Prod.fst r_5), Prod.snd (Prod.fst r_5)), (Prod.fst (Prod.fst (Prod.snd r_5)), Prod.snd (Prod.fst (Prod.snd r_5))),
                        Prod.snd (Prod.snd r_5)),
                      (Prod.fst r_6, Prod.snd r_6), ())
                    () fun (r_7 : List Int × Int × Unit) ↦
                    f39_wp () () fun (r_8 : (Int × Int) × (Int × Int) × List ((Int × Int) × Int × Int)) ↦
                      f24_wp
                        (((Prod.fst (Prod.fst r_8), Prod.snd (Prod.fst r_8)), (Prod.fst (Prod.fst (Prod.snd r_8)), Prod.snd (Prod.fst (Prod.snd r_8))),
                            Prod.snd (Prod.snd r_8)),
                          (45 : Int), ())
                        () fun (r_9 : Int × Int × Unit) ↦
                        f39_wp () () fun (r_10 : (Int × Int) × (Int × Int) × List ((Int × Int) × Int × Int)) ↦
                          f26_wp
                            (((Prod.fst (Prod.fst r_10), Prod.snd (Prod.fst r_10)),
                                (Prod.fst (Prod.fst (Prod.snd r_10)), Prod.snd (Prod.fst (Prod.snd r_10))), Prod.snd (Prod.snd r_10)),
                              (18 : Int), ())
                            () fun (r_11 : Int × Int × Unit) ↦
                            f34_wp ((100 : Int), (120 : Int), ()) () fun (r_12 : Int × Int) ↦
                              f34_wp ((1 : Int), (1 : Int), ()) () fun (r_13 : Int × Int) ↦
                                f34_wp ((30 : Int), (40 : Int), ()) () fun (r_14 : Int × Int) ↦
                                  f34_wp ((1 : Int), (1 : Int), ()) () fun (r_15 : Int × Int) ↦
                                    f40_wp
                                      (((Prod.fst r_12, Prod.snd r_12), (Prod.fst r_13, Prod.snd r_13), (50 : Int)) ::
                                        ((Prod.fst r_14, Prod.snd r_14), (Prod.fst r_15, Prod.snd r_15), (200 : Int)) ::
                                          ([] : List ((Int × Int) × (Int × Int) × Int)))
                                      () fun (r_16 : (Int × Int) × (Int × Int) × Int × Unit) ↦
                                      cnd (Prod.fst (Prod.snd r) != (0 : Int)) (Q false)
                                        (cnd (Prod.fst (Prod.snd r_2) != (0 : Int)) (Q false)
                                          (cnd (Prod.fst (Prod.snd (Prod.snd r_4)) != (0 : Int)) (Q false)
                                            (cnd (Prod.fst (Prod.snd r_7) != (0 : Int)) (Q false)
                                              (cnd (Prod.fst (Prod.snd r_9) != (0 : Int)) (Q false)
                                                (cnd (Prod.fst (Prod.snd r_11) != (0 : Int)) (Q false)
                                                  (cnd (Prod.fst (Prod.snd (Prod.snd r_16)) != (0 : Int)) (Q false)
                                                    (∃ (r_17 : Int × Int),
                                                      (f34_wp ((16 : Int), (19 : Int), ()) () fun (r' : Int × Int) ↦ r' = r_17) ∧
                                                        cnd (Prod.fst (Prod.fst r) == Prod.fst r_17 && (Prod.snd (Prod.fst r) == Prod.snd r_17 && true))
                                                          (∃ (r : Bool),
                                                            (f41_wp (Prod.fst r_2, (1 : Int) :: (3 : Int) :: ([] : List Int), ()) () fun (r' : Bool) ↦
                                                                r' = r) ∧
                                                              cnd r
                                                                (cnd (Prod.fst r_4 == (0 : Int))
                                                                  (cnd (Prod.fst (Prod.snd r_4) == (18 : Int))
                                                                    (∃ (r : Bool),
                                                                      (f41_wp (Prod.fst r_7, (0 : Int) :: ([] : List Int), ()) () fun (r' : Bool) ↦
                                                                          r' = r) ∧
                                                                        cnd r
                                                                          (cnd (Prod.fst r_9 == (5 : Int))
                                                                            (cnd (Prod.fst r_11 == (235 : Int))
                                                                              (cnd
                                                                                (Prod.fst (Prod.fst r_16) == (80 : Int) &&
                                                                                  (Prod.snd (Prod.fst r_16) == (1 : Int) && true))
                                                                                (Q
                                                                                  (Prod.fst (Prod.fst (Prod.snd r_16)) == (650 : Int) &&
                                                                                    (Prod.snd (Prod.fst (Prod.snd r_16)) == (7 : Int) && true)))
                                                                                (Q false))
                                                                              (Q false))
                                                                            (Q false))
                                                                          (Q false))
                                                                    (Q false))
                                                                  (Q false))
                                                                (Q false))
                                                          (Q false))))))))
theorem v10 (Q : Bool → Prop) : V10 Q = vcFunc (S1 [(39, f39_ct), (13, f13_ct), (30, f30_ct), (17, f17_ct), (34, f34_ct), (21, f21_ct), (24, f24_ct), (26, f26_ct), (40, f40_ct), (41, f41_ct), (23, f23_ct)] [] [] []) f10_ct.own f10_ct.fresh no_an Tryz.f10 (bodyOf Tryz.f10) f10_ct.A f10_ct.C f10_ct.R () () Q := by kernel_rfl

end Go.Proofs.Rz
set_option linter.unusedVariables false
set_option maxRecDepth 100000
namespace Go.Proofs.Rz
open Go Go.GX Go.Proofs

theorem w28 {K : Span × Int × Unit → Prop} (h : K ((16, 19), 0, ())) : f13_wp fan0 () K := by
  have e : (if checkF fan0 = 0 then (opensF fan0, 0, ()) else ((0, 0), checkF fan0, ()) : Span × Int × Unit) = ((16, 19), 0, ()) := by decide +kernel
  show K _
  rw [e]; exact h
theorem w12 {K : List Int × Int × Unit → Prop} (h : K ([1, 3], 0, ())) : f30_wp fan0 () K := by
  have e : (if checkF fan0 = 0 then (fan0.2.2.map (stopF fan0.1 fan0.2.1), 0, ()) else ([], checkF fan0, ()) : List Int × Int × Unit) = ([1, 3], 0, ()) := by decide +kernel
  show K _
  rw [e]; exact h
theorem w32 {K : Int × Int × Int × Unit → Prop} (h : K (0, 18, 0, ())) : f17_wp (fan0, 100, ()) () K := by
  have e : widenF fan0 100 = (0, 18, 0, ()) := by decide +kernel
  show K (widenF fan0 100)
  rw [e]; exact h
theorem w25 {K : List Int × Int × Unit → Prop} (h : K ([0], 0, ())) : f21_wp (fan0, (10, 14), ()) () K := by
  have e : wrongF fan0 (10, 14) = ([0], 0, ()) := by decide +kernel
  refine ⟨fun _ _ _ _ => by show 2 ≤ 12; omega, ?_⟩
  show K (wrongF fan0 (10, 14))
  rw [e]; exact h
theorem w30 {K : Int × Int × Unit → Prop} (h : K (5, 0, ())) : f24_wp (fan0, 45, ()) () K := by
  have e : sticksF fan0 45 = (5, 0, ()) := by decide +kernel
  show K (sticksF fan0 45)
  rw [e]; exact h
theorem w31 {K : Int × Int × Unit → Prop} (h : K (235, 0, ())) : f26_wp (fan0, 18, ()) () K := by
  have e : pleatF fan0 18 = (235, 0, ()) := by decide +kernel
  show K (pleatF fan0 18)
  rw [e]; exact h
theorem w17 {K : Ratio × Ratio × Int × Unit → Prop} (h : K ((80, 1), (650, 7), 0, ())) : f40_wp [((100, 120), (1, 1), 50), ((30, 40), (1, 1), 200)] () K := by
  have e : balanceF [((100, 120), (1, 1), 50), ((30, 40), (1, 1), 200)] = ((80, 1), (650, 7), 0, ()) := by decide +kernel
  show K (balanceF _)
  rw [e]; exact h
theorem p10 {Q : Bool → Prop} (h : f10_wp () () Q) : V10 Q := by
  unfold V10 f39_wp f34_wp
  refine w28 ?_
  refine w12 ?_
  refine w32 ?_
  refine w25 ?_
  refine w30 ?_
  refine w31 ?_
  refine w17 ?_
  refine cndF (cndF (cndF (cndF (cndF (cndF (cndF ⟨_, rfl, cndT ⟨_, rfl, cndT (cndT (cndT ⟨_, rfl, cndT (cndT (cndT (cndT h)))⟩))⟩⟩))))))
theorem cnd_of {c : Bool} {p q : Prop} (hc : c = true) (h : p) : cnd c p q := by rw [hc]; exact h
theorem cnd_not {c : Bool} {p q : Prop} (hc : c = false) (h : q) : cnd c p q := by rw [hc]; exact h
end Go.Proofs.Rz
set_option maxRecDepth 100000
set_option maxHeartbeats 2000000
namespace Go.Proofs.Rz
open Go Go.GX Go.Proofs
variable [Inhabited BaseD]
theorem ok34 : CallsOK Tryz.prog (assoc glT) 34 f34_ct :=
  callsOK_E (env (ct := []) (ios := []) (hos := []) (lits := []) AllOK.nil AllW.nil AllH.nil) no_an Tryz.func34 (by kernel_rfl) (by kernel_rfl) f34_ct fun ⟨a, b, _⟩ _ Q h => (v34 a b Q).mp (p34 h)
theorem ok39 : CallsOK Tryz.prog (assoc glT) 39 f39_ct :=
  callsOK_E (env (ct := [(34, f34_ct)]) (ios := []) (hos := []) (lits := [108]) (AllOK.cons ok34 AllOK.nil) AllW.nil AllH.nil) no_an Tryz.func39 (by kernel_rfl) (by kernel_rfl) f39_ct fun () _ Q h => (v39  Q).mp (p39 h)
theorem ok10 : CallsOK Tryz.prog (assoc glT) 10 f10_ct :=
  callsOK_E (env (ct := [(39, f39_ct), (13, f13_ct), (30, f30_ct), (17, f17_ct), (34, f34_ct), (21, f21_ct), (24, f24_ct), (26, f26_ct), (40, f40_ct), (41, f41_ct), (23, f23_ct)]) (ios := []) (hos := []) (lits := []) (AllOK.cons ok39 (AllOK.cons ok13 (AllOK.cons ok30 (AllOK.cons ok17 (AllOK.cons ok34 (AllOK.cons ok21 (AllOK.cons ok24 (AllOK.cons ok26 (AllOK.cons ok40 (AllOK.cons ok41 (AllOK.cons ok23 AllOK.nil))))))))))) AllW.nil AllH.nil) no_an Tryz.func10 (by kernel_rfl) (by kernel_rfl) f10_ct fun () _ Q h => (v10  Q).mp (p10 h)
end Go.Proofs.Rz
set_option linter.unusedVariables false
set_option maxRecDepth 100000
namespace Go.Proofs.Rz
open Go Go.GX Go.Proofs

theorem gen11 {f : Fan} {K : Fan → Prop} (h : f.2.2.length ≤ 1000000) (hk : K f) : f11_wp f () K := ⟨h, hk⟩
structure SmallFan (f : Fan) : Prop where
  ok : CheckOK f
  n : f.2.2.length ≤ 12
  far : f.1.2 ≤ 2600
  near : f.2.1.2 ≤ 294
  lo : 300 ≤ f.1.1
  g : ∀ g, g ∈ f.2.2 → (0 ≤ g.1.1 ∧ g.1.1 ≤ g.1.2 ∧ g.1.2 ≤ 540) ∧ 0 ≤ g.2.1 ∧ g.2.1 ≤ g.2.2 ∧ g.2.2 ≤ 70
theorem nb (a b : Bool) (h : a = b) : (!(a == b)) = false := by rw [h]; cases b <;> rfl
end Go.Proofs.Rz
set_option linter.unusedVariables false
set_option maxRecDepth 100000
namespace Go.Proofs.Rz
open Go Go.GX Go.Proofs

def V87 (far : Int) (near : Int) (leaf : Int) (foot : Int) (Q : Int → Prop) : Prop :=
  Q (mnI (IntKind.wrap IntKind.i64 (leaf * near)) (IntKind.wrap IntKind.i64 (foot * far)))
theorem v87 (far : Int) (near : Int) (leaf : Int) (foot : Int) (Q : Int → Prop) : V87 far near leaf foot Q = vcFunc (S1 [] [] [] []) f87_ct.own f87_ct.fresh no_an Tryz.f87 (bodyOf Tryz.f87) f87_ct.A f87_ct.C f87_ct.R (far, near, leaf, foot, ()) () Q := by kernel_rfl

def V47 (f : (Int × Int) × (Int × Int) × List ((Int × Int) × Int × Int)) (Q : Int × Int × Unit → Prop) : Prop :=
  ∃ (I : Int → Int → Prop),
    ∃ (μ : Int → Int → Nat),
      I (0 : Int) (0 : Int) ∧
        ∀ (x x_1 : Int),
          I x x_1 →
            List.length (Prod.snd (Prod.snd f)) ≤ (9223372036854775807 : Nat) →
              cnd (decide (x < (↑(List.length (Prod.snd (Prod.snd f))) : Int)))
                ((0 : Int) ≤ x ∧
                  x < (↑(List.length (Prod.snd (Prod.snd f))) : Int) ∧
                    (0 : Int) ≤ x ∧
                      x < (↑(List.length (Prod.snd (Prod.snd f))) : Int) ∧
                        ∃ (r : Int),
                          (f87_wp
                              (Prod.snd (Prod.fst f), Prod.snd (Prod.fst (Prod.snd f)),
                                Prod.fst (Prod.fst (List.getD (Prod.snd (Prod.snd f)) (Int.toNat x) (((0 : Int), (0 : Int)), (0 : Int), (0 : Int)))),
                                Prod.fst (Prod.snd (List.getD (Prod.snd (Prod.snd f)) (Int.toNat x) (((0 : Int), (0 : Int)), (0 : Int), (0 : Int)))),
                                ())
                              () fun (r' : Int) ↦ r' = r) ∧
                            I (IntKind.wrap IntKind.i64 (x + (1 : Int))) (IntKind.wrap IntKind.i64 (x_1 + r)) ∧
                              μ (IntKind.wrap IntKind.i64 (x + (1 : Int))) (IntKind.wrap IntKind.i64 (x_1 + r)) < μ x x_1)
                (Q (x_1, IntKind.wrap IntKind.i64 (Prod.snd (Prod.fst f) * Prod.snd (Prod.fst (Prod.snd f))), ()))
theorem v47 (f : (Int × Int) × (Int × Int) × List ((Int × Int) × Int × Int)) (Q : Int × Int × Unit → Prop) : V47 f Q = vcFunc (S1 [(87, f87_ct)] [] [] []) f47_ct.own f47_ct.fresh f47_an Tryz.f47 (bodyOf Tryz.f47) f47_ct.A f47_ct.C f47_ct.R f () Q := by kernel_rfl

def V48 (f : (Int × Int) × (Int × Int) × List ((Int × Int) × Int × Int)) (Q : Int × Int × Unit → Prop) : Prop :=
  ∃ (I : Int → Int → Prop),
    ∃ (μ : Int → Int → Nat),
      I (0 : Int) (0 : Int) ∧
        ∀ (x x_1 : Int),
          I x x_1 →
            List.length (Prod.snd (Prod.snd f)) ≤ (9223372036854775807 : Nat) →
              cnd (decide (x < (↑(List.length (Prod.snd (Prod.snd f))) : Int)))
                ((0 : Int) ≤ x ∧
                  x < (↑(List.length (Prod.snd (Prod.snd f))) : Int) ∧
                    (0 : Int) ≤ x ∧
                      x < (↑(List.length (Prod.snd (Prod.snd f))) : Int) ∧
                        ∃ (r : Int),
                          (f87_wp
                              (Prod.fst (Prod.fst f), Prod.fst (Prod.fst (Prod.snd f)),
                                Prod.snd (Prod.fst (List.getD (Prod.snd (Prod.snd f)) (Int.toNat x) (((0 : Int), (0 : Int)), (0 : Int), (0 : Int)))),
                                Prod.snd (Prod.snd (List.getD (Prod.snd (Prod.snd f)) (Int.toNat x) (((0 : Int), (0 : Int)), (0 : Int), (0 : Int)))),
                                ())
                              () fun (r' : Int) ↦ r' = r) ∧
                            I (IntKind.wrap IntKind.i64 (x + (1 : Int))) (IntKind.wrap IntKind.i64 (x_1 + r)) ∧
                              μ (IntKind.wrap IntKind.i64 (x + (1 : Int))) (IntKind.wrap IntKind.i64 (x_1 + r)) < μ x x_1)
                (Q (x_1, IntKind.wrap IntKind.i64 (Prod.fst (Prod.fst f) * Prod.fst (Prod.fst (Prod.snd f))), ()))
theorem v48 (f : (Int × Int) × (Int × Int) × List ((Int × Int) × Int × Int)) (Q : Int × Int × Unit → Prop) : V48 f Q = vcFunc (S1 [(87, f87_ct)] [] [] []) f48_ct.own f48_ct.fresh f47_an Tryz.f48 (bodyOf Tryz.f48) f48_ct.A f48_ct.C f48_ct.R f () Q := by kernel_rfl

def V49 (n : Int) (d : Int) (Q : Int → Prop) : Prop :=
  IntKind.wrap IntKind.i64 ((355 : Int) * d) ≠ (0 : Int) ∧
    Q
      (mnI (360 : Int)
        (IntKind.wrap IntKind.i64 (Int.tdiv (IntKind.wrap IntKind.i64 ((20340 : Int) * n)) (IntKind.wrap IntKind.i64 ((355 : Int) * d)))))
theorem v49 (n : Int) (d : Int) (Q : Int → Prop) : V49 n d Q = vcFunc (S1 [] [] [] []) f49_ct.own f49_ct.fresh no_an Tryz.f49 (bodyOf Tryz.f49) f49_ct.A f49_ct.C f49_ct.R (n, d, ()) () Q := by kernel_rfl

def V16 (f : (Int × Int) × (Int × Int) × List ((Int × Int) × Int × Int)) (Q : Int × Int → Prop) : Prop :=
  f47_wp ((Prod.fst (Prod.fst f), Prod.snd (Prod.fst f)), (Prod.fst (Prod.fst (Prod.snd f)), Prod.snd (Prod.fst (Prod.snd f))), Prod.snd (Prod.snd f))
    () fun (r : Int × Int × Unit) ↦
    f48_wp ((Prod.fst (Prod.fst f), Prod.snd (Prod.fst f)), (Prod.fst (Prod.fst (Prod.snd f)), Prod.snd (Prod.fst (Prod.snd f))), Prod.snd (Prod.snd f))
      () fun (r_1 : Int × Int × Unit) ↦
      f32_wp (Prod.fst r, Prod.fst (Prod.snd r), ()) () fun (r : Int) ↦
        f32_wp (Prod.fst r_1, Prod.fst (Prod.snd r_1), ()) () fun (r_2 : Int) ↦ Q (r, r_2)
theorem v16 (f : (Int × Int) × (Int × Int) × List ((Int × Int) × Int × Int)) (Q : Int × Int → Prop) : V16 f Q = vcFunc (S1 [(47, f47_ct), (48, f48_ct), (49, f49_ct)] [] [] []) f16_ct.own f16_ct.fresh no_an Tryz.f16 (bodyOf Tryz.f16) f16_ct.A f16_ct.C f16_ct.R f () Q := by kernel_rfl

def V27 (f : (Int × Int) × (Int × Int) × List ((Int × Int) × Int × Int)) (d : Int) (Q : Int → Prop) : Prop :=
  f11_wp ((Prod.fst (Prod.fst f), Prod.snd (Prod.fst f)), (Prod.fst (Prod.fst (Prod.snd f)), Prod.snd (Prod.fst (Prod.snd f))), Prod.snd (Prod.snd f))
    () fun (r : (Int × Int) × (Int × Int) × List ((Int × Int) × Int × Int)) ↦
    ∃ (I : Int → List ((Int × Int) × Int × Int) → Prop),
      ∃ (μ : Int → List ((Int × Int) × Int × Int) → Nat),
        I (0 : Int) (Prod.snd (Prod.snd r)) ∧
          ∀ (x : Int) (x_1 : List ((Int × Int) × Int × Int)),
            I x x_1 →
              cnd (decide (x ≤ (1000 : Int)))
                (∃ (I_1 : Int → List ((Int × Int) × Int × Int) → Prop),
                  ∃ (μ_1 : Int → List ((Int × Int) × Int × Int) → Nat),
                    I_1 (0 : Int) x_1 ∧
                      ∀ (x_2 : Int) (x_3 : List ((Int × Int) × Int × Int)),
                        I_1 x_2 x_3 →
                          List.length x_3 ≤ (9223372036854775807 : Nat) →
                            cnd (decide (x_2 < (↑(List.length x_3) : Int)))
                              ((0 : Int) ≤ x_2 ∧
                                x_2 < (↑(List.length x_3) : Int) ∧
                                  I_1 (IntKind.wrap IntKind.i64 (x_2 + (1 : Int)))
                                      (List.set x_3 (Int.toNat x_2)
                                        ((x, x), Prod.fst (Prod.snd (List.getD x_3 (Int.toNat x_2) (((0 : Int), (0 : Int)), (0 : Int), (0 : Int)))),
                                          Prod.snd (Prod.snd (List.getD x_3 (Int.toNat x_2) (((0 : Int), (0 : Int)), (0 : Int), (0 : Int)))))) ∧
                                    μ_1 (IntKind.wrap IntKind.i64 (x_2 + (1 : Int)))
                                        (List.set x_3 (Int.toNat x_2)
                                          ((x, x), Prod.fst (Prod.snd (List.getD x_3 (Int.toNat x_2) (((0 : Int), (0 : Int)), (0 : Int), (0 : Int)))),
                                            Prod.snd (Prod.snd (List.getD x_3 (Int.toNat x_2) (((0 : Int), (0 : Int)), (0 : Int), (0 : Int)))))) <
                                      μ_1 x_2 x_3)
                              (f16_wp
                                ((Prod.fst (Prod.fst r), Prod.snd (Prod.fst r)), (Prod.fst (Prod.fst (Prod.snd r)), Prod.snd (Prod.fst (Prod.snd r))),
                                  x_3)
                                () fun (r : Int × Int) ↦
                                cnd (decide (Prod.fst r ≥ d)) (Q x)
                                  (I (IntKind.wrap IntKind.i64 (x + (1 : Int))) x_3 ∧ μ (IntKind.wrap IntKind.i64 (x + (1 : Int))) x_3 < μ x x_1)))
                (Q (-1 : Int))
theorem v27 (f : (Int × Int) × (Int × Int) × List ((Int × Int) × Int × Int)) (d : Int) (Q : Int → Prop) : V27 f d Q = vcFunc (S1 [(11, f11_ct), (16, f16_ct)] [] [] []) f27_ct.own f27_ct.fresh f27_an Tryz.f27 (bodyOf Tryz.f27) f27_ct.A f27_ct.C f27_ct.R (f, d, ()) () Q := by kernel_rfl

def V20 (n : Int) (Q : Bool → Prop) : Prop :=
  f18_wp (n, (0 : Int), (360 : Int), ()) () fun (r : Bool) ↦ Q r
theorem v20 (n : Int) (Q : Bool → Prop) : V20 n Q = vcFunc (S1 [(18, f18_ct)] [] [] []) f20_ct.own f20_ct.fresh no_an Tryz.f20 (bodyOf Tryz.f20) f20_ct.A f20_ct.C f20_ct.R n () Q := by kernel_rfl

end Go.Proofs.Rz
set_option linter.unusedVariables false
set_option maxRecDepth 100000
namespace Go.Proofs.Rz
open Go Go.GX Go.Proofs

theorem p87 {far near leaf foot : Int} {Q : Int → Prop} (h : f87_wp (far, near, leaf, foot, ()) () Q) : V87 far near leaf foot Q := by
  obtain ⟨⟨⟨a1, a2⟩, ⟨b1, b2⟩, ⟨c1, c2⟩, d1, d2⟩, h⟩ := h
  have m1 := mulB (show 0 ≤ leaf from c1) (show leaf ≤ 2000 from c2) (show 0 ≤ near from b1) (show near ≤ 6000 from b2)
  have m2 := mulB (show 0 ≤ foot from d1) (show foot ≤ 2000 from d2) (show 0 ≤ far from a1) (show far ≤ 6000 from a2)
  rw [V87, wrapS (x := leaf * near) (by omega) (by omega), wrapS (x := foot * far) (by omega) (by omega), mnI_min]
  exact h
theorem sumG_bound {f : Fan} (h : FanOK f) {arc : Span → Int} (ha : IsEnd arc) {F N : Int} (hF : 1 ≤ F ∧ F ≤ 6000) (hN : 1 ≤ N ∧ N ≤ 6000) : ∀ k, k ≤ f.2.2.length → 0 ≤ sumG arc F N (f.2.2.take k) ∧ sumG arc F N (f.2.2.take k) ≤ 12000000 * k
  | 0, _ => ⟨Int.le_refl _, Int.le_refl _⟩
  | k + 1, hk => by
    have ih := sumG_bound h ha hF hN k (by omega)
    have hg := h.g _ (getD_mem (d := g0) (show k < f.2.2.length from hk))
    have e1 : 0 ≤ arc (f.2.2.getD k g0).1 ∧ arc (f.2.2.getD k g0).1 ≤ 2000 := end_range ha hg.1.1 hg.1.2
    have e2 : 0 ≤ arc (f.2.2.getD k g0).2 ∧ arc (f.2.2.getD k g0).2 ≤ 600 := end_range ha hg.2.1 hg.2.2
    have m1 := mulB e1.1 e1.2 (show 0 ≤ N by omega) hN.2
    have m2 := mulB e2.1 e2.2 (show 0 ≤ F by omega) hF.2
    have ea : angG arc F N (f.2.2.getD k g0) = min (arc (f.2.2.getD k g0).1 * N) (arc (f.2.2.getD k g0).2 * F) := rfl
    rw [sumG_take_succ _ _ _ (show k < f.2.2.length from hk), ea]
    push_cast
    omega
theorem p47 {f : Fan} {Q : Int × Int × Unit → Prop} (h : f47_wp f () Q) : V47 f Q := by
  obtain ⟨hf, h⟩ := h
  have h1 := hf.far.2
  have h2 := hf.near.2
  have hn := hf.n
  unfold inR at h1 h2
  refine forUpL (fun k => sumG loE f.1.2 f.2.1.2 (f.2.2.take k)) rfl (fun k hk I μ hI hw => ?_) ?_
  · have hg := hf.g _ (getD_mem (d := g0) hk)
    unfold inR at hg
    have hb := sumG_bound hf lo_end h1 h2 k (by omega)
    have hb2 := sumG_bound hf lo_end h1 h2 (k + 1) hk
    rw [sumG_take_succ _ _ _ hk] at hI hb2
    refine ⟨by omega, by omega, by omega, by omega, _, ⟨⟨by show 0 ≤ f.1.2 ∧ f.1.2 ≤ 6000; omega, by show 0 ≤ f.2.1.2 ∧ f.2.1.2 ≤ 6000; omega, by show 0 ≤ (f.2.2.getD k g0).1.1 ∧ (f.2.2.getD k g0).1.1 ≤ 2000; omega, by show 0 ≤ (f.2.2.getD k g0).2.1; omega, by show (f.2.2.getD k g0).2.1 ≤ 2000; omega⟩, rfl⟩, ?_⟩
    change I _ (IntKind.wrap .i64 (sumG loE f.1.2 f.2.1.2 (f.2.2.take k) + angG loE f.1.2 f.2.1.2 (f.2.2.getD k g0))) ∧ μ _ (IntKind.wrap .i64 (sumG loE f.1.2 f.2.1.2 (f.2.2.take k) + angG loE f.1.2 f.2.1.2 (f.2.2.getD k g0))) < _
    rw [hw, wrapS (x := sumG loE f.1.2 f.2.1.2 (f.2.2.take k) + angG loE f.1.2 f.2.1.2 (f.2.2.getD k g0)) (by omega) (by omega)]
    exact hI
  · have m := mulB (show 0 ≤ f.1.2 by omega) h1.2 (show 0 ≤ f.2.1.2 by omega) h2.2
    rw [List.take_length]
    show Q (_, IntKind.wrap .i64 (f.1.2 * f.2.1.2), ())
    rw [wrapS (by omega) (by omega)]
    exact h
theorem p48 {f : Fan} {Q : Int × Int × Unit → Prop} (h : f48_wp f () Q) : V48 f Q := by
  obtain ⟨hf, h⟩ := h
  have h1 := hf.far.1
  have h2 := hf.near.1
  have hn := hf.n
  unfold inR at h1 h2
  refine forUpL (fun k => sumG hiE f.1.1 f.2.1.1 (f.2.2.take k)) rfl (fun k hk I μ hI hw => ?_) ?_
  · have hg := hf.g _ (getD_mem (d := g0) hk)
    unfold inR at hg
    have hb := sumG_bound hf hi_end h1 h2 k (by omega)
    have hb2 := sumG_bound hf hi_end h1 h2 (k + 1) hk
    rw [sumG_take_succ _ _ _ hk] at hI hb2
    refine ⟨by omega, by omega, by omega, by omega, _, ⟨⟨by show 0 ≤ f.1.1 ∧ f.1.1 ≤ 6000; omega, by show 0 ≤ f.2.1.1 ∧ f.2.1.1 ≤ 6000; omega, by show 0 ≤ (f.2.2.getD k g0).1.2 ∧ (f.2.2.getD k g0).1.2 ≤ 2000; omega, by show 0 ≤ (f.2.2.getD k g0).2.2; omega, by show (f.2.2.getD k g0).2.2 ≤ 2000; omega⟩, rfl⟩, ?_⟩
    change I _ (IntKind.wrap .i64 (sumG hiE f.1.1 f.2.1.1 (f.2.2.take k) + angG hiE f.1.1 f.2.1.1 (f.2.2.getD k g0))) ∧ μ _ (IntKind.wrap .i64 (sumG hiE f.1.1 f.2.1.1 (f.2.2.take k) + angG hiE f.1.1 f.2.1.1 (f.2.2.getD k g0))) < _
    rw [hw, wrapS (x := sumG hiE f.1.1 f.2.1.1 (f.2.2.take k) + angG hiE f.1.1 f.2.1.1 (f.2.2.getD k g0)) (by omega) (by omega)]
    exact hI
  · have m := mulB (show 0 ≤ f.1.1 by omega) h1.2 (show 0 ≤ f.2.1.1 by omega) h2.2
    rw [List.take_length]
    show Q (_, IntKind.wrap .i64 (f.1.1 * f.2.1.1), ())
    rw [wrapS (by omega) (by omega)]
    exact h
theorem p49 {n d : Int} {Q : Int → Prop} (h : f49_wp (n, d, ()) () Q) : V49 n d Q := p32 h
theorem p16 {f : Fan} {Q : Span → Prop} (h : f16_wp f () Q) : V16 f Q := by
  obtain ⟨hf, h⟩ := h
  have l1 := (lowT_ok hf).num
  have l2 := (lowT_ok hf).den
  have g1 := (highT_ok hf).num
  have g2 := (highT_ok hf).den
  rw [(low_num f).1] at l1
  rw [(low_num f).2] at l2
  rw [(high_num f).1] at g1
  rw [(high_num f).2] at g2
  have e : opensF f = (degND (sumG loE f.1.2 f.2.1.2 f.2.2) (f.1.2 * f.2.1.2), degND (sumG hiE f.1.1 f.2.1.1 f.2.2) (f.1.1 * f.2.1.1)) := by
    unfold opensF
    rw [degF_eq, degF_eq, (low_num f).1, (low_num f).2, (high_num f).1, (high_num f).2]
  rw [e] at h
  refine ⟨hf, hf, ⟨by show 0 ≤ sumG loE f.1.2 f.2.1.2 f.2.2; omega, by show sumG loE f.1.2 f.2.1.2 f.2.2 ≤ _; omega, by show 1 ≤ f.1.2 * f.2.1.2; omega, by show f.1.2 * f.2.1.2 ≤ _; omega⟩, ⟨by show 0 ≤ sumG hiE f.1.1 f.2.1.1 f.2.2; omega, by show sumG hiE f.1.1 f.2.1.1 f.2.2 ≤ _; omega, by show 1 ≤ f.1.1 * f.2.1.1; omega, by show f.1.1 * f.2.1.1 ≤ _; omega⟩, h⟩
theorem p20 {n : Int} {Q : Bool → Prop} (h : f20_wp n () Q) : V20 n Q := h
theorem setg {l : List Gap} {i j : Nat} {a : Gap} (hj : j < l.length) : (l.set i a).getD j g0 = if i = j then a else l.getD j g0 := by
  rw [getD_lt (by rw [List.length_set]; exact hj), List.getElem_set, getD_lt hj]
theorem p27 {f : Fan} {d : Int} {Q : Int → Prop} (h : f27_wp (f, d, ()) () Q) : V27 f d Q := by
  obtain ⟨hf, h⟩ := h
  have hf : CheckOK f := hf
  have h : Q (pleatN f d) := h
  have hn := hf.n
  refine gen11 (f := f) (by omega) ?_
  refine ⟨fun x L => ∃ k : Nat, k ≤ 1001 ∧ x = k ∧ L.length = f.2.2.length ∧ (∀ i, i < f.2.2.length → (L.getD i g0).2 = (f.2.2.getD i g0).2) ∧ ∀ j : Nat, j < k → pleatOK f d j = false, fun x _ => (1001 - x).toNat, ⟨0, by omega, rfl, rfl, fun _ _ => rfl, fun j hj => absurd hj (Nat.not_lt_zero _)⟩, ?_⟩
  rintro _ L ⟨k, hk, rfl, hL, hft, hno⟩
  refine cnd_iff.2 ⟨fun c => ?_, fun c => ?_⟩
  · have c : (k : Int) ≤ 1000 := of_decide_eq_true c
    refine ⟨fun y M => ∃ i : Nat, i ≤ f.2.2.length ∧ y = i ∧ M.length = f.2.2.length ∧ (∀ j, j < f.2.2.length → (M.getD j g0).2 = (f.2.2.getD j g0).2) ∧ ∀ j, j < i → (M.getD j g0).1 = ((k : Int), (k : Int)), fun y _ => (f.2.2.length - y).toNat, ⟨0, Nat.zero_le _, rfl, hL, hft, fun j hj => absurd hj (Nat.not_lt_zero _)⟩, ?_⟩
    rintro _ M ⟨i, hi, rfl, hM, hMf, hMa⟩ _
    refine cnd_iff.2 ⟨fun ci => ?_, fun ci => ?_⟩
    · have ci : (i : Int) < (M.length : Int) := of_decide_eq_true ci
      have hi2 : i < f.2.2.length := by omega
      rw [wrapS (x := (i : Int) + 1) (by omega) (by omega)]
      refine ⟨by omega, ci, ⟨i + 1, hi2, by push_cast; rfl, by rw [List.length_set]; exact hM, fun j hj => ?_, fun j hj => ?_⟩, by show ((f.2.2.length : Int) - ((i : Int) + 1)).toNat < ((f.2.2.length : Int) - (i : Int)).toNat; omega⟩
      · rw [show Int.toNat (i : Int) = i from rfl, setg (by omega)]
        split
        · rename_i e
          subst e
          exact hMf i hj
        · exact hMf j hj
      · rw [show Int.toNat (i : Int) = i from rfl, setg (by omega)]
        split
        · rfl
        · exact hMa j (by omega)
    · have ci : ¬ (i : Int) < (M.length : Int) := of_decide_eq_false ci
      have hM2 : M = (arcF f (k : Int)).2.2 := by
        refine list_eq_iff g0 (by show M.length = (f.2.2.map _).length; rw [List.length_map]; exact hM) fun j hj => ?_
        have e2 : (arcF f (k : Int)).2.2.getD j g0 = (((k : Int), (k : Int)), (f.2.2.getD j g0).2) := by
          show (f.2.2.map fun g => ((((k : Int), (k : Int)), g.2) : Gap)).getD j g0 = _
          rw [getD_lt (by rw [List.length_map]; omega), List.getElem_map, getD_lt (show j < f.2.2.length by omega)]
        rw [e2]
        exact Prod.ext (hMa j (by omega)) (hMf j (by omega))
      subst hM2
      refine ⟨arc_ok hf.fan (by omega) (by omega), ?_⟩
      show cnd (pleatOK f d k) _ _
      refine cnd_iff.2 ⟨fun e => ?_, fun e => ?_⟩
      · have : pleatN f d = (k : Int) := by
          unfold pleatN
          rw [find_range (p := fun (a : Nat) => pleatOK f d (a : Int)) (k := k) (by omega) e hno]
        rw [this] at h; exact h
      · rw [wrapS (x := (k : Int) + 1) (by omega) (by omega)]
        refine ⟨⟨k + 1, by omega, by push_cast; rfl, hM, hMf, fun j hj => ?_⟩, by show (1001 - ((k : Int) + 1)).toNat < (1001 - (k : Int)).toNat; omega⟩
        rcases Nat.lt_succ_iff_lt_or_eq.1 hj with h5 | rfl
        · exact hno j h5
        · exact e
  · have c : ¬ (k : Int) ≤ 1000 := of_decide_eq_false c
    have : pleatN f d = -1 := by
      unfold pleatN
      rw [find_range_none (p := fun (a : Nat) => pleatOK f d (a : Int)) (n := 1001) fun j hj => hno j (by omega)]
    rw [this] at h; exact h
end Go.Proofs.Rz
set_option linter.unusedVariables false
set_option maxRecDepth 100000
namespace Go.Proofs.Rz
open Go Go.GX Go.Proofs

def V3 (f : (Int × Int) × (Int × Int) × List ((Int × Int) × Int × Int)) (Q : Bool → Prop) : Prop :=
  List.length (Prod.snd (Prod.snd f)) ≤ (9223372036854775807 : Nat) →
    cnd (decide ((↑(List.length (Prod.snd (Prod.snd f))) : Int) > (50 : Int))) (f10_wp () () fun (r : Bool) ↦ Q r)
      (f11_wp
        ((Prod.fst (Prod.fst f), Prod.snd (Prod.fst f)), (Prod.fst (Prod.fst (Prod.snd f)), Prod.snd (Prod.fst (Prod.snd f))), Prod.snd (Prod.snd f)) ()
        fun (r : (Int × Int) × (Int × Int) × List ((Int × Int) × Int × Int)) ↦
        f12_wp
          ((Prod.fst (Prod.fst r), Prod.snd (Prod.fst r)), (Prod.fst (Prod.fst (Prod.snd r)), Prod.snd (Prod.fst (Prod.snd r))), Prod.snd (Prod.snd r))
          () fun (r_1 : Int) ↦
          f13_wp
            ((Prod.fst (Prod.fst r), Prod.snd (Prod.fst r)), (Prod.fst (Prod.fst (Prod.snd r)), Prod.snd (Prod.fst (Prod.snd r))),
              Prod.snd (Prod.snd r))
            () fun (r_2 : (Int × Int) × Int × Unit) ↦
            f14_wp
              ((Prod.fst (Prod.fst f), Prod.snd (Prod.fst f)), (Prod.fst (Prod.fst (Prod.snd f)), Prod.snd (Prod.fst (Prod.snd f))),
                Prod.snd (Prod.snd f))
              () fun (r_3 : Int) ↦
              f15_wp
                (((Prod.fst (Prod.fst r), Prod.snd (Prod.fst r)), (Prod.fst (Prod.fst (Prod.snd r)), Prod.snd (Prod.fst (Prod.snd r))),
                    Prod.snd (Prod.snd r)),
                  ((Prod.fst (Prod.fst f), Prod.snd (Prod.fst f)), (Prod.fst (Prod.fst (Prod.snd f)), Prod.snd (Prod.fst (Prod.snd f))),
                    Prod.snd (Prod.snd f)),
                  ())
                () fun (r : Bool) ↦
                cnd (!r) (Q false)
                  (cnd (r_1 != r_3) (Q false)
                    (cnd (Prod.fst (Prod.snd r_2) != r_3) (Q false)
                      (cnd (r_3 != (0 : Int))
                        (cnd (Prod.fst (Prod.fst r_2) == (0 : Int) && (Prod.snd (Prod.fst r_2) == (0 : Int) && true))
                          (f10_wp () () fun (r : Bool) ↦ Q r) (Q false))
                        (∃ (r : Int × Int),
                          (f16_wp
                              ((Prod.fst (Prod.fst f), Prod.snd (Prod.fst f)), (Prod.fst (Prod.fst (Prod.snd f)), Prod.snd (Prod.fst (Prod.snd f))),
                                Prod.snd (Prod.snd f))
                              () fun (r' : Int × Int) ↦ r' = r) ∧
                            cnd (Prod.fst (Prod.fst r_2) == Prod.fst r && (Prod.snd (Prod.fst r_2) == Prod.snd r && true))
                              (∃ (r : Bool), (f10_wp () () fun (r' : Bool) ↦ r' = r) ∧ Q r) (Q false))))))
theorem v3 (f : (Int × Int) × (Int × Int) × List ((Int × Int) × Int × Int)) (Q : Bool → Prop) : V3 f Q = vcFunc (S1 [(10, f10_ct), (11, f11_ct), (12, f12_ct), (13, f13_ct), (14, f14_ct), (15, f15_ct), (16, f16_ct)] [] [] []) f3_ct.own f3_ct.fresh no_an Tryz.f3 (bodyOf Tryz.f3) f3_ct.A f3_ct.C f3_ct.R f () Q := by kernel_rfl

def V4 (f : (Int × Int) × (Int × Int) × List ((Int × Int) × Int × Int)) (more : Int) (Q : Bool → Prop) : Prop :=
  List.length (Prod.snd (Prod.snd f)) ≤ (9223372036854775807 : Nat) →
    cnd (decide ((↑(List.length (Prod.snd (Prod.snd f))) : Int) > (50 : Int))) (f10_wp () () fun (r : Bool) ↦ Q r)
      (f11_wp
        ((Prod.fst (Prod.fst f), Prod.snd (Prod.fst f)), (Prod.fst (Prod.fst (Prod.snd f)), Prod.snd (Prod.fst (Prod.snd f))), Prod.snd (Prod.snd f)) ()
        fun (r : (Int × Int) × (Int × Int) × List ((Int × Int) × Int × Int)) ↦
        f17_wp
          (((Prod.fst (Prod.fst r), Prod.snd (Prod.fst r)), (Prod.fst (Prod.fst (Prod.snd r)), Prod.snd (Prod.fst (Prod.snd r))),
              Prod.snd (Prod.snd r)),
            more, ())
          () fun (r_1 : Int × Int × Int × Unit) ↦
          f15_wp
            (((Prod.fst (Prod.fst r), Prod.snd (Prod.fst r)), (Prod.fst (Prod.fst (Prod.snd r)), Prod.snd (Prod.fst (Prod.snd r))),
                Prod.snd (Prod.snd r)),
              ((Prod.fst (Prod.fst f), Prod.snd (Prod.fst f)), (Prod.fst (Prod.fst (Prod.snd f)), Prod.snd (Prod.fst (Prod.snd f))),
                Prod.snd (Prod.snd f)),
              ())
            () fun (r : Bool) ↦
            cnd (!r) (Q false)
              (f14_wp
                ((Prod.fst (Prod.fst f), Prod.snd (Prod.fst f)), (Prod.fst (Prod.fst (Prod.snd f)), Prod.snd (Prod.fst (Prod.snd f))),
                  Prod.snd (Prod.snd f))
                () fun (r : Int) ↦
                ∃ (I : Bool → Prop),
                  cnd (r == (0 : Int)) (f18_wp (more, (0 : Int), (1000 : Int), ()) () fun (r : Bool) ↦ I !r) (I false) ∧
                    ∀ (x : Bool),
                      I x →
                        ∃ (I : Int → Prop),
                          cnd x (I (4 : Int))
                              (cnd (r == (0 : Int))
                                (List.length (Prod.snd (Prod.snd f)) ≤ (9223372036854775807 : Nat) →
                                  cnd ((↑(List.length (Prod.snd (Prod.snd f))) : Int) == (0 : Int)) (I (7 : Int)) (I r))
                                (I r)) ∧
                            ∀ (x : Int),
                              I x →
                                cnd (x != (0 : Int))
                                  (cnd (Prod.fst (Prod.snd (Prod.snd r_1)) == x)
                                    (cnd (Prod.fst r_1 == (0 : Int))
                                      (cnd (Prod.fst (Prod.snd r_1) == (0 : Int)) (f10_wp () () fun (r : Bool) ↦ Q r) (Q false)) (Q false))
                                    (Q false))
                                  (f19_wp
                                    (((Prod.fst (Prod.fst f), Prod.snd (Prod.fst f)),
                                        (Prod.fst (Prod.fst (Prod.snd f)), Prod.snd (Prod.fst (Prod.snd f))), Prod.snd (Prod.snd f)),
                                      more, ())
                                    () fun (r : Int × Int × Unit) ↦
                                    cnd (Prod.fst (Prod.snd (Prod.snd r_1)) == (0 : Int))
                                      (cnd (Prod.fst r_1 == Prod.fst r)
                                        (cnd (Prod.fst (Prod.snd r_1) == Prod.fst (Prod.snd r)) (f10_wp () () fun (r : Bool) ↦ Q r) (Q false))
                                        (Q false))
                                      (Q false))))
theorem v4 (f : (Int × Int) × (Int × Int) × List ((Int × Int) × Int × Int)) (more : Int) (Q : Bool → Prop) : V4 f more Q = vcFunc (S1 [(10, f10_ct), (11, f11_ct), (17, f17_ct), (15, f15_ct), (14, f14_ct), (18, f18_ct), (19, f19_ct)] [] [] []) f4_ct.own f4_ct.fresh f4_an Tryz.f4 (bodyOf Tryz.f4) f4_ct.A f4_ct.C f4_ct.R (f, more, ()) () Q := by kernel_rfl

def V7 (f : (Int × Int) × (Int × Int) × List ((Int × Int) × Int × Int)) (d : Int) (Q : Bool → Prop) : Prop :=
  List.length (Prod.snd (Prod.snd f)) ≤ (9223372036854775807 : Nat) →
    cnd (decide ((↑(List.length (Prod.snd (Prod.snd f))) : Int) > (50 : Int))) (f10_wp () () fun (r : Bool) ↦ Q r)
      (f11_wp
        ((Prod.fst (Prod.fst f), Prod.snd (Prod.fst f)), (Prod.fst (Prod.fst (Prod.snd f)), Prod.snd (Prod.fst (Prod.snd f))), Prod.snd (Prod.snd f)) ()
        fun (r : (Int × Int) × (Int × Int) × List ((Int × Int) × Int × Int)) ↦
        f26_wp
          (((Prod.fst (Prod.fst r), Prod.snd (Prod.fst r)), (Prod.fst (Prod.fst (Prod.snd r)), Prod.snd (Prod.fst (Prod.snd r))),
              Prod.snd (Prod.snd r)),
            d, ())
          () fun (r_1 : Int × Int × Unit) ↦
          f15_wp
            (((Prod.fst (Prod.fst r), Prod.snd (Prod.fst r)), (Prod.fst (Prod.fst (Prod.snd r)), Prod.snd (Prod.fst (Prod.snd r))),
                Prod.snd (Prod.snd r)),
              ((Prod.fst (Prod.fst f), Prod.snd (Prod.fst f)), (Prod.fst (Prod.fst (Prod.snd f)), Prod.snd (Prod.fst (Prod.snd f))),
                Prod.snd (Prod.snd f)),
              ())
            () fun (r : Bool) ↦
            cnd (!r) (Q false)
              (f14_wp
                ((Prod.fst (Prod.fst f), Prod.snd (Prod.fst f)), (Prod.fst (Prod.fst (Prod.snd f)), Prod.snd (Prod.fst (Prod.snd f))),
                  Prod.snd (Prod.snd f))
                () fun (r : Int) ↦
                ∃ (I : Bool → Prop),
                  cnd (r == (0 : Int)) (f20_wp d () fun (r : Bool) ↦ I !r) (I false) ∧
                    ∀ (x : Bool),
                      I x →
                        ∃ (I : Int → Prop),
                          cnd x (I (4 : Int)) (I r) ∧
                            ∀ (x : Int),
                              I x →
                                cnd (x == (0 : Int))
                                  (f27_wp
                                    (((Prod.fst (Prod.fst f), Prod.snd (Prod.fst f)),
                                        (Prod.fst (Prod.fst (Prod.snd f)), Prod.snd (Prod.fst (Prod.snd f))), Prod.snd (Prod.snd f)),
                                      d, ())
                                    () fun (r : Int) ↦
                                    cnd (decide (r ≥ (0 : Int)))
                                      (cnd (Prod.fst (Prod.snd r_1) == (0 : Int))
                                        (cnd (Prod.fst r_1 == r) (f10_wp () () fun (r : Bool) ↦ Q r) (Q false)) (Q false))
                                      (cnd (Prod.fst (Prod.snd r_1) == (7 : Int))
                                        (cnd (Prod.fst r_1 == (0 : Int)) (f10_wp () () fun (r : Bool) ↦ Q r) (Q false)) (Q false)))
                                  (cnd (Prod.fst (Prod.snd r_1) == x) (cnd (Prod.fst r_1 == (0 : Int)) (f10_wp () () fun (r : Bool) ↦ Q r) (Q false))
                                    (Q false))))
theorem v7 (f : (Int × Int) × (Int × Int) × List ((Int × Int) × Int × Int)) (d : Int) (Q : Bool → Prop) : V7 f d Q = vcFunc (S1 [(10, f10_ct), (11, f11_ct), (26, f26_ct), (15, f15_ct), (14, f14_ct), (20, f20_ct), (27, f27_ct)] [] [] []) f7_ct.own f7_ct.fresh f7_an Tryz.f7 (bodyOf Tryz.f7) f7_ct.A f7_ct.C f7_ct.R (f, d, ()) () Q := by kernel_rfl

end Go.Proofs.Rz
set_option linter.unusedVariables false
set_option maxRecDepth 100000
namespace Go.Proofs.Rz
open Go Go.GX Go.Proofs

theorem gen12 {f : Fan} {K : Int → Prop} (h : K (checkF f)) : f12_wp f () K := h
theorem gen14 {f : Fan} {K : Int → Prop} (h : K (checkF f)) : f14_wp f () K := h
theorem gen15 {a b : Fan} {K : Bool → Prop} (h : K (decide (a = b))) : f15_wp (a, b, ()) () K := h
theorem gen13a {f : Fan} {K : Span × Int × Unit → Prop} (e : checkF f = 0) (h : K (opensF f, 0, ())) : f13_wp f () K := by
  show K (if checkF f = 0 then (opensF f, 0, ()) else ((0, 0), checkF f, ()))
  rw [if_pos e]; exact h
theorem gen13b {f : Fan} {K : Span × Int × Unit → Prop} (e : checkF f ≠ 0) (h : K ((0, 0), checkF f, ())) : f13_wp f () K := by
  show K (if checkF f = 0 then (opensF f, 0, ()) else ((0, 0), checkF f, ()))
  rw [if_neg e]; exact h
theorem gen17 {f : Fan} {d : Int} {K : Int × Int × Int × Unit → Prop} (hk : ∀ z, z = widenF f d → K z) : f17_wp (f, d, ()) () K := hk _ rfl
theorem gen26 {f : Fan} {d : Int} {K : Int × Int × Unit → Prop} (hk : ∀ z, z = pleatF f d → K z) : f26_wp (f, d, ()) () K := hk _ rfl
theorem beqF {x : Int} (h : x ≠ 0) : (x == 0) = false := by simpa using h
theorem beqT {x y : Int} (h : x = y) : (x == y) = true := by simpa using h
theorem p3 {f : Fan} {Q : Bool → Prop} (h : f3_wp f () Q) : V3 f Q := by
  have h : Q true := h
  intro hl
  refine cnd_iff.2 ⟨fun c => h, fun c => ?_⟩
  have c : ¬ (f.2.2.length : Int) > 50 := of_decide_eq_false c
  refine gen11 (f := f) (by omega) (gen12 (f := f) ?_)
  by_cases e : checkF f = 0
  · refine gen13a (f := f) e (gen14 (f := f) (gen15 (a := f) (b := f) ?_))
    refine cnd_not (by simp) (cnd_not (by simp) (cnd_not (by simp [e]) (cnd_not (by simp [e]) ?_)))
    exact ⟨_, ⟨(checkF_ok.1 e).fan, rfl⟩, cnd_of (by simp) ⟨true, rfl, h⟩⟩
  · refine gen13b (f := f) e (gen14 (f := f) (gen15 (a := f) (b := f) ?_))
    exact cnd_not (by simp) (cnd_not (by simp) (cnd_not (by simp) (cnd_of (bne0.1.2 e) (cndT h))))
theorem p4 {f : Fan} {more : Int} {Q : Bool → Prop} (h : f4_wp (f, more, ()) () Q) : V4 f more Q := by
  have h : Q true := h
  intro hl
  refine cnd_iff.2 ⟨fun c => h, fun c => ?_⟩
  have c : ¬ (f.2.2.length : Int) > 50 := of_decide_eq_false c
  refine gen11 (f := f) (by omega) (gen17 (f := f) (d := more) fun z hz => gen15 (a := f) (b := f) (cnd_not (by simp) (gen14 (f := f) ?_)))
  unfold widenF at hz
  by_cases e : checkF f = 0
  · rw [if_neg (by omega)] at hz
    have ho := checkF_ok.1 e
    cases i : inB 0 1000 more with
    | false =>
      rw [if_pos i] at hz
      subst hz
      refine ⟨fun x => x = true, cnd_of (beqT e) (by show (!inB 0 1000 more) = true; rw [i]; rfl), ?_⟩
      rintro _ rfl
      refine ⟨fun x => x = 4, cndT rfl, ?_⟩
      rintro _ rfl
      exact cndT (cndT (cndT (cndT h)))
    | true =>
      rw [if_neg (by rw [i]; simp)] at hz
      refine ⟨fun x => x = false, cnd_of (beqT e) (by show (!inB 0 1000 more) = false; rw [i]; rfl), ?_⟩
      rintro _ rfl
      by_cases n : f.2.2.length = 0
      · rw [if_pos n] at hz
        subst hz
        refine ⟨fun x => x = 7, cndF (cnd_of (beqT e) fun _ => cnd_of (by rw [n]; rfl) rfl), ?_⟩
        rintro _ rfl
        exact cndT (cndT (cndT (cndT h)))
      · rw [if_neg n] at hz
        subst hz
        refine ⟨fun x => x = 0, cndF (cnd_of (beqT e) fun _ => cnd_not (by simpa using n) e), ?_⟩
        rintro _ rfl
        simp only [inB, Bool.and_eq_true, decide_eq_true_eq] at i
        exact cndF ⟨⟨ho, i⟩, cndT (cnd_of (by simp) (cnd_of (by simp) h))⟩
  · rw [if_pos e] at hz
    subst hz
    refine ⟨fun x => x = false, cnd_not (beqF e) rfl, ?_⟩
    rintro _ rfl
    refine ⟨fun x => x = checkF f, cndF (cnd_not (beqF e) rfl), ?_⟩
    rintro _ rfl
    exact cnd_of (bne0.1.2 e) (cnd_of (by simp) (cndT (cndT h)))
theorem p7 {f : Fan} {d : Int} {Q : Bool → Prop} (h : f7_wp (f, d, ()) () Q) : V7 f d Q := by
  have h : Q true := h
  intro hl
  refine cnd_iff.2 ⟨fun c => h, fun c => ?_⟩
  have c : ¬ (f.2.2.length : Int) > 50 := of_decide_eq_false c
  refine gen11 (f := f) (by omega) (gen26 (f := f) (d := d) fun z hz => gen15 (a := f) (b := f) (cnd_not (by simp) (gen14 (f := f) ?_)))
  unfold pleatF at hz
  by_cases e : checkF f = 0
  · rw [if_neg (by omega)] at hz
    have ho := checkF_ok.1 e
    cases i : inB 0 360 d with
    | false =>
      rw [if_pos i] at hz
      subst hz
      refine ⟨fun x => x = true, cnd_of (beqT e) (by show (!inB 0 360 d) = true; rw [i]; rfl), ?_⟩
      rintro _ rfl
      refine ⟨fun x => x = 4, cndT rfl, ?_⟩
      rintro _ rfl
      exact cndF (cndT (cndT h))
    | true =>
      rw [if_neg (by rw [i]; simp)] at hz
      refine ⟨fun x => x = false, cnd_of (beqT e) (by show (!inB 0 360 d) = false; rw [i]; rfl), ?_⟩
      rintro _ rfl
      refine ⟨fun x => x = 0, cndF e, ?_⟩
      rintro _ rfl
      refine cndT ⟨ho, ?_⟩
      show cnd (decide (pleatN f d ≥ 0)) _ _
      cases hf : (List.range 1001).find? (fun (a : Nat) => pleatOK f d (a : Int)) with
      | none =>
        have e1 : pleatN f d = -1 := by unfold pleatN; rw [hf]
        rw [hf] at hz
        subst hz
        rw [e1]
        exact cndF (cndT (cndT h))
      | some n =>
        have e1 : pleatN f d = (n : Int) := by unfold pleatN; rw [hf]
        rw [hf] at hz
        subst hz
        rw [e1]
        exact cnd_of (decide_eq_true (by omega)) (cndT (cnd_of (by simp) h))
  · rw [if_pos e] at hz
    subst hz
    refine ⟨fun x => x = false, cnd_not (beqF e) rfl, ?_⟩
    rintro _ rfl
    refine ⟨fun x => x = checkF f, cndF rfl, ?_⟩
    rintro _ rfl
    exact cnd_not (beqF e) (cnd_of (by simp) (cndT h))
end Go.Proofs.Rz
set_option maxRecDepth 100000
set_option maxHeartbeats 2000000
namespace Go.Proofs.Rz
open Go Go.GX Go.Proofs
variable [Inhabited BaseD]
theorem ok87 : CallsOK Tryz.prog (assoc glT) 87 f87_ct :=
  callsOK_E (env (ct := []) (ios := []) (hos := []) (lits := []) AllOK.nil AllW.nil AllH.nil) no_an Tryz.func87 (by kernel_rfl) (by kernel_rfl) f87_ct fun ⟨far, near, leaf, foot, _⟩ _ Q h => (v87 far near leaf foot Q).mp (p87 h)
theorem ok47 : CallsOK Tryz.prog (assoc glT) 47 f47_ct :=
  callsOK_E (env (ct := [(87, f87_ct)]) (ios := []) (hos := []) (lits := []) (AllOK.cons ok87 AllOK.nil) AllW.nil AllH.nil) f47_an Tryz.func47 (by kernel_rfl) (by kernel_rfl) f47_ct fun f _ Q h => (v47 f Q).mp (p47 h)
theorem ok48 : CallsOK Tryz.prog (assoc glT) 48 f48_ct :=
  callsOK_E (env (ct := [(87, f87_ct)]) (ios := []) (hos := []) (lits := []) (AllOK.cons ok87 AllOK.nil) AllW.nil AllH.nil) f47_an Tryz.func48 (by kernel_rfl) (by kernel_rfl) f48_ct fun f _ Q h => (v48 f Q).mp (p48 h)
theorem ok49 : CallsOK Tryz.prog (assoc glT) 49 f49_ct :=
  callsOK_E (env (ct := []) (ios := []) (hos := []) (lits := []) AllOK.nil AllW.nil AllH.nil) no_an Tryz.func49 (by kernel_rfl) (by kernel_rfl) f49_ct fun ⟨n, d, _⟩ _ Q h => (v49 n d Q).mp (p49 h)
theorem ok16 : CallsOK Tryz.prog (assoc glT) 16 f16_ct :=
  callsOK_E (env (ct := [(47, f47_ct), (48, f48_ct), (49, f49_ct)]) (ios := []) (hos := []) (lits := []) (AllOK.cons ok47 (AllOK.cons ok48 (AllOK.cons ok49 AllOK.nil))) AllW.nil AllH.nil) no_an Tryz.func16 (by kernel_rfl) (by kernel_rfl) f16_ct fun f _ Q h => (v16 f Q).mp (p16 h)
theorem ok27 : CallsOK Tryz.prog (assoc glT) 27 f27_ct :=
  callsOK_E (env (ct := [(11, f11_ct), (16, f16_ct)]) (ios := []) (hos := []) (lits := []) (AllOK.cons ok11 (AllOK.cons ok16 AllOK.nil)) AllW.nil AllH.nil) f27_an Tryz.func27 (by kernel_rfl) (by kernel_rfl) f27_ct fun ⟨f, d, _⟩ _ Q h => (v27 f d Q).mp (p27 h)
theorem ok20 : CallsOK Tryz.prog (assoc glT) 20 f20_ct :=
  callsOK_E (env (ct := [(18, f18_ct)]) (ios := []) (hos := []) (lits := []) (AllOK.cons ok18 AllOK.nil) AllW.nil AllH.nil) no_an Tryz.func20 (by kernel_rfl) (by kernel_rfl) f20_ct fun n _ Q h => (v20 n Q).mp (p20 h)
theorem ok7 : CallsOK Tryz.prog (assoc glT) 7 f7_ct :=
  callsOK_E (env (ct := [(10, f10_ct), (11, f11_ct), (26, f26_ct), (15, f15_ct), (14, f14_ct), (20, f20_ct), (27, f27_ct)]) (ios := []) (hos := []) (lits := []) (AllOK.cons ok10 (AllOK.cons ok11 (AllOK.cons ok26 (AllOK.cons ok15 (AllOK.cons ok14 (AllOK.cons ok20 (AllOK.cons ok27 AllOK.nil))))))) AllW.nil AllH.nil) f7_an Tryz.func7 (by kernel_rfl) (by kernel_rfl) f7_ct fun ⟨f, d, _⟩ _ Q h => (v7 f d Q).mp (p7 h)
end Go.Proofs.Rz
