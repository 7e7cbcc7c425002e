/- Part 8 of the texts behind the proof: RvP7, RvO2, RvV5, RvP8, RvV6, RvP9, RvO3. -/
import Derived.Test.YtmdonphignifoaaG07
import Derived.Test.YtmdonphignifoaaProg
set_option linter.unusedSimpArgs false
set_option linter.unusedVariables false
set_option linter.unusedSectionVars false
set_option linter.unusedVariables false
set_option maxRecDepth 100000
namespace Go.Proofs.Rv
open Go Go.GX Go.Proofs

def bitB (k : Int) (m : Int) : Bool := IntKind.wrap .i64 ((BitVec.toNat (BitVec.ofInt (IntKind.bits .i64) k &&& BitVec.ofInt (IntKind.bits .i64) m) : Nat) : Int) == m
def endB (k m : Int) (s : Span) : Int := if bitB k m = true then s.2 else s.1
def ltB (f : Fan) (g : Gap) (k : Nat) : Bool := decide (endB k 4 g.1 * endB k 2 f.2.1 < endB k 8 g.2 * endB k 1 f.1)
def gtB (f : Fan) (g : Gap) (k : Nat) : Bool := decide (endB k 8 g.2 * endB k 1 f.1 < endB k 4 g.1 * endB k 2 f.2.1)
theorem endB_range {k m : Int} {s : Span} {lo hi : Int} (h1 : lo ≤ s.1) (h2 : s.1 ≤ s.2) (h3 : s.2 ≤ hi) : lo ≤ endB k m s ∧ endB k m s ≤ hi ∧ s.1 ≤ endB k m s ∧ endB k m s ≤ s.2 := by
  unfold endB; split <;> omega
theorem mul_mono {a b c d : Int} (h1 : a ≤ c) (h2 : b ≤ d) (h3 : 0 ≤ b) (h4 : 0 ≤ c) : a * b ≤ c * d := Int.mul_le_mul h1 h2 h3 h4
theorem all_lt {f : Fan} {g : Gap} (hf : CheckOK f) (hg : gapOK g = true) : ((List.range 16).all (ltB f g)) = decide (g.1.2 * f.2.1.2 < g.2.1 * f.1.1) := by
  unfold gapOK at hg
  rw [Bool.and_eq_true, isSpan_iff, isSpan_iff] at hg
  have h1 := hf.far
  have h2 := hf.near
  rw [Bool.eq_iff_iff, decide_eq_true_iff, List.all_eq_true]
  constructor
  · intro h
    have := of_decide_eq_true (h 6 (by decide))
    exact this
  · intro h k _
    refine decide_eq_true ?_
    have a1 := endB_range (k := k) (m := 4) hg.1.1 hg.1.2.1 hg.1.2.2
    have a2 := endB_range (k := k) (m := 2) h2.1 h2.2.1 h2.2.2
    have a3 := endB_range (k := k) (m := 8) hg.2.1 hg.2.2.1 hg.2.2.2
    have a4 := endB_range (k := k) (m := 1) h1.1 h1.2.1 h1.2.2
    have m1 := mul_mono a1.2.2.2 a2.2.2.2 (by omega) (by omega)
    have m2 := mul_mono a3.2.2.1 a4.2.2.1 (by omega) (by omega)
    omega
theorem all_gt {f : Fan} {g : Gap} (hf : CheckOK f) (hg : gapOK g = true) : ((List.range 16).all (gtB f g)) = decide (g.2.2 * f.1.2 < g.1.1 * f.2.1.1) := by
  unfold gapOK at hg
  rw [Bool.and_eq_true, isSpan_iff, isSpan_iff] at hg
  have h1 := hf.far
  have h2 := hf.near
  rw [Bool.eq_iff_iff, decide_eq_true_iff, List.all_eq_true]
  constructor
  · intro h
    have := of_decide_eq_true (h 9 (by decide))
    exact this
  · intro h k _
    refine decide_eq_true ?_
    have a1 := endB_range (k := k) (m := 4) hg.1.1 hg.1.2.1 hg.1.2.2
    have a2 := endB_range (k := k) (m := 2) h2.1 h2.2.1 h2.2.2
    have a3 := endB_range (k := k) (m := 8) hg.2.1 hg.2.2.1 hg.2.2.2
    have a4 := endB_range (k := k) (m := 1) h1.1 h1.2.1 h1.2.2
    have m1 := mul_mono a3.2.2.2 a4.2.2.2 (by omega) (by omega)
    have m2 := mul_mono a1.2.2.1 a2.2.2.1 (by omega) (by omega)
    omega
theorem endB_cnd {k m : Int} {s : Span} : cnd (bitB k m) (s.2 = endB k m s) (s.1 = endB k m s) := by
  refine cnd_iff.2 ⟨fun c => ?_, fun c => ?_⟩
  · unfold endB; rw [if_pos c]
  · unfold endB; rw [if_neg (by rw [c]; simp)]
theorem p15 {f : Fan} {g : Gap} {Q : Int → Prop} (h : f15_wp (f, g, ()) () Q) : V15 f g Q := by
  obtain ⟨⟨hf, hg⟩, h⟩ := h
  have hf : CheckOK f := hf
  have hg' : gapOK g = true := hg
  have h : Q (stopF f.1 f.2.1 g) := h
  have hg := hg'
  unfold gapOK at hg
  rw [Bool.and_eq_true, isSpan_iff, isSpan_iff] at hg
  have h1 := hf.far
  have h2 := hf.near
  refine forUp2 (n := 16) (by omega) (fun k => (List.range k).all (ltB f g)) (fun k => (List.range k).all (gtB f g)) rfl rfl (fun k hk I μ hI hw => ?_) ?_
  · refine ⟨fun v => v = endB k 1 f.1, endB_cnd, ?_⟩
    rintro _ rfl
    refine ⟨fun v => v = endB k 2 f.2.1, endB_cnd, ?_⟩
    rintro _ rfl
    refine ⟨fun v => v = endB k 4 g.1, endB_cnd, ?_⟩
    rintro _ rfl
    refine ⟨fun v => v = endB k 8 g.2, endB_cnd, ?_⟩
    rintro _ rfl
    have a1 := endB_range (k := k) (m := 4) hg.1.1 hg.1.2.1 hg.1.2.2
    have a2 := endB_range (k := k) (m := 2) h2.1 h2.2.1 h2.2.2
    have a3 := endB_range (k := k) (m := 8) hg.2.1 hg.2.2.1 hg.2.2.2
    have a4 := endB_range (k := k) (m := 1) h1.1 h1.2.1 h1.2.2
    have m1 := mulB (show 0 ≤ endB k 4 g.1 by omega) a1.2.1 (show 0 ≤ endB k 2 f.2.1 by omega) a2.2.1
    have m2 := mulB (show 0 ≤ endB k 8 g.2 by omega) a3.2.1 (show 0 ≤ endB k 1 f.1 by omega) a4.2.1
    rw [wrapS (x := endB k 4 g.1 * endB k 2 f.2.1) (by omega) (by omega), wrapS (x := endB k 8 g.2 * endB k 1 f.1) (by omega) (by omega)]
    refine ⟨fun a b => a = ((List.range k).all (ltB f g) && ltB f g k) ∧ b = ((List.range k).all (gtB f g) && gtB f g k), ?_, ?_⟩
    · refine cnd_iff.2 ⟨fun c1 => cnd_iff.2 ⟨fun c2 => ?_, fun c2 => ?_⟩, fun c1 => cnd_iff.2 ⟨fun c2 => ?_, fun c2 => ?_⟩⟩
      · rw [c1, c2]; exact ⟨rfl, rfl⟩
      · rw [c1, c2]; exact ⟨rfl, rfl⟩
      · rw [c1, c2]; exact ⟨rfl, rfl⟩
      · rw [c1, c2]; exact ⟨rfl, rfl⟩
    · rintro _ _ ⟨rfl, rfl⟩
      rw [all_succ, all_succ] at hI
      rw [hw]; exact hI
  · rw [all_lt hf hg', all_gt hf hg']
    unfold stopF at h
    refine cnd_iff.2 ⟨fun c1 => ?_, fun c1 => cnd_iff.2 ⟨fun c2 => ?_, fun c2 => ?_⟩⟩
    · rw [if_pos (of_decide_eq_true c1)] at h; exact h
    · rw [if_neg (of_decide_eq_false c1), if_pos (of_decide_eq_true c2)] at h; exact h
    · rw [if_neg (of_decide_eq_false c1), if_neg (of_decide_eq_false c2)] at h; exact h

end Go.Proofs.Rv
set_option maxRecDepth 100000
namespace Go.Proofs.Rv
open Go Go.GX Go.Proofs
variable [Inhabited BaseD]
theorem ok62 : CallsOK Try.prog (assoc glT) 62 f62_ct :=
  callsOK_E (env (ct := []) (ios := []) (hos := []) (lits := []) AllOK.nil AllW.nil AllH.nil) f62_an Try.func62 (by kernel_rfl) (by kernel_rfl) f62_ct fun ⟨f, s, _⟩ _ Q h => (v62 f s Q).mp (p62 h)
theorem ok32 : CallsOK Try.prog (assoc glT) 32 f32_ct :=
  callsOK_E (env (ct := [(42, f42_ct), (72, f72_ct), (71, f71_ct), (54, f54_ct)]) (ios := []) (hos := []) (lits := []) (AllOK.cons ok42 (AllOK.cons ok72 (AllOK.cons ok71 (AllOK.cons ok54 AllOK.nil)))) AllW.nil AllH.nil) f32_an Try.func32 (by kernel_rfl) (by kernel_rfl) f32_ct fun ⟨f, more, _⟩ _ Q h => (v32 f more Q).mp (p32 h)
theorem ok55 : CallsOK Try.prog (assoc glT) 55 f55_ct :=
  callsOK_E (env (ct := [(56, f56_ct), (57, f57_ct)]) (ios := []) (hos := []) (lits := []) (AllOK.cons ok56 (AllOK.cons ok57 AllOK.nil)) AllW.nil AllH.nil) no_an Try.func55 (by kernel_rfl) (by kernel_rfl) f55_ct fun i ⟨f, _⟩ Q h => (v55 i f Q).mp (p55 h)
theorem ok59 : CallsOK Try.prog (assoc glT) 59 f59_ct :=
  callsOK_E (env (ct := [(60, f60_ct)]) (ios := []) (hos := []) (lits := []) (AllOK.cons ok60 AllOK.nil) AllW.nil AllH.nil) no_an Try.func59 (by kernel_rfl) (by kernel_rfl) f59_ct fun ik ⟨g, _⟩ Q h => (v59 ik g Q).mp (p59 h)
theorem ok63 : CallsOK Try.prog (assoc glT) 63 f63_ct :=
  callsOK_E (env (ct := [(64, f64_ct)]) (ios := []) (hos := []) (lits := []) (AllOK.cons ok64 AllOK.nil) AllW.nil AllH.nil) no_an Try.func63 (by kernel_rfl) (by kernel_rfl) f63_ct fun i ⟨set, _⟩ Q h => (v63 i set Q).mp (p63 h)
theorem ok61 : CallsOK Try.prog (assoc glT) 61 f61_ct :=
  callsOK_E (env (ct := [(62, f62_ct), (63, f63_ct), (54, f54_ct)]) (ios := []) (hos := []) (lits := []) (AllOK.cons ok62 (AllOK.cons ok63 (AllOK.cons ok54 AllOK.nil))) AllW.nil AllH.nil) no_an Try.func61 (by kernel_rfl) (by kernel_rfl) f61_ct fun set ⟨f, seen, _⟩ Q h => (v61 set f seen Q).mp (p61 h)
theorem ok67 : CallsOK Try.prog (assoc glT) 67 f67_ct :=
  callsOK_E (env (ct := []) (ios := []) (hos := []) (lits := []) AllOK.nil AllW.nil AllH.nil) no_an Try.func67 (by kernel_rfl) (by kernel_rfl) f67_ct fun k ⟨i, _⟩ Q h => (v67 k i Q).mp (p67 h)
theorem ok25 : CallsOK Try.prog (assoc glT) 25 f25_ct :=
  callsOK_E (env (ct := [(42, f42_ct), (53, f53_ct), (54, f54_ct), (55, f55_ct), (59, f59_ct), (61, f61_ct), (66, f66_ct), (67, f67_ct), (68, f68_ct)]) (ios := [(58, f58_ct)]) (hos := [(65, f65_ct)]) (lits := [1200,1300,2500,2303,8003112]) (AllOK.cons ok42 (AllOK.cons ok53 (AllOK.cons ok54 (AllOK.cons ok55 (AllOK.cons ok59 (AllOK.cons ok61 (AllOK.cons ok66 (AllOK.cons ok67 (AllOK.cons ok68 AllOK.nil))))))))) (AllW.cons ok58 AllW.nil) (AllH.cons ok65 AllH.nil)) f25_an Try.func25 (by kernel_rfl) (by kernel_rfl) f25_ct fun ⟨f, seen, _⟩ _ Q h => (v25 f seen Q).mp (p25 h)
theorem ok30 : CallsOK Try.prog (assoc glT) 30 f30_ct :=
  callsOK_E (env (ct := [(42, f42_ct), (53, f53_ct), (69, f69_ct), (54, f54_ct)]) (ios := []) (hos := []) (lits := []) (AllOK.cons ok42 (AllOK.cons ok53 (AllOK.cons ok69 (AllOK.cons ok54 AllOK.nil)))) AllW.nil AllH.nil) f30_an Try.func30 (by kernel_rfl) (by kernel_rfl) f30_ct fun ⟨f, d, _⟩ _ Q h => (v30 f d Q).mp (p30 h)
theorem ok70 : CallsOK Try.prog (assoc glT) 70 f70_ct :=
  callsOK_E (env (ct := [(71, f71_ct), (54, f54_ct)]) (ios := []) (hos := []) (lits := []) (AllOK.cons ok71 (AllOK.cons ok54 AllOK.nil)) AllW.nil AllH.nil) f70_an Try.func70 (by kernel_rfl) (by kernel_rfl) f70_ct fun a ⟨f, d, _⟩ Q h => (v70 a f d Q).mp (p70 h)
theorem ok31 : CallsOK Try.prog (assoc glT) 31 f31_ct :=
  callsOK_E (env (ct := [(42, f42_ct), (53, f53_ct), (70, f70_ct)]) (ios := []) (hos := []) (lits := []) (AllOK.cons ok42 (AllOK.cons ok53 (AllOK.cons ok70 AllOK.nil))) AllW.nil AllH.nil) f31_an Try.func31 (by kernel_rfl) (by kernel_rfl) f31_ct fun ⟨f, d, _⟩ _ Q h => (v31 f d Q).mp (p31 h)
theorem ok75 : CallsOK Try.prog (assoc glT) 75 f75_ct :=
  callsOK_E (env (ct := [(77, f77_ct), (72, f72_ct)]) (ios := []) (hos := []) (lits := []) (AllOK.cons ok77 (AllOK.cons ok72 AllOK.nil)) AllW.nil AllH.nil) no_an Try.func75 (by kernel_rfl) (by kernel_rfl) f75_ct fun s _ Q h => (v75 s Q).mp (p75 h)
theorem ok74 : CallsOK Try.prog (assoc glT) 74 f74_ct :=
  callsOK_E (env (ct := [(75, f75_ct)]) (ios := []) (hos := []) (lits := []) (AllOK.cons ok75 AllOK.nil) AllW.nil AllH.nil) no_an Try.func74 (by kernel_rfl) (by kernel_rfl) f74_ct fun s _ Q h => (v74 s Q).mp (p74 h)
theorem ok76 : CallsOK Try.prog (assoc glT) 76 f76_ct :=
  callsOK_E (env (ct := []) (ios := []) (hos := []) (lits := []) AllOK.nil AllW.nil AllH.nil) no_an Try.func76 (by kernel_rfl) (by kernel_rfl) f76_ct fun ⟨a, b, _⟩ _ Q h => (v76 a b Q).mp (p76 h)
theorem ok33 : CallsOK Try.prog (assoc glT) 33 f33_ct :=
  callsOK_E (env (ct := [(73, f73_ct), (74, f74_ct), (76, f76_ct)]) (ios := []) (hos := []) (lits := []) (AllOK.cons ok73 (AllOK.cons ok74 (AllOK.cons ok76 AllOK.nil))) AllW.nil AllH.nil) f33_an Try.func33 (by kernel_rfl) (by kernel_rfl) f33_ct fun l _ Q h => (v33 l Q).mp (p33 h)
theorem ok46 : CallsOK Try.prog (assoc glT) 46 f46_ct :=
  callsOK_E (env (ct := []) (ios := []) (hos := []) (lits := []) AllOK.nil AllW.nil AllH.nil) f46_an Try.func46 (by kernel_rfl) (by kernel_rfl) f46_ct fun ⟨l, first, p, q, _⟩ _ Q h => (v46 l first p q Q).mp (p46 h)
theorem ok49 : CallsOK Try.prog (assoc glT) 49 f49_ct :=
  callsOK_E (env (ct := []) (ios := []) (hos := []) (lits := []) AllOK.nil AllW.nil AllH.nil) f49_an Try.func49 (by kernel_rfl) (by kernel_rfl) f49_ct fun ⟨num, den, _⟩ _ Q h => (v49 num den Q).mp (p49 h)
theorem ok45 : CallsOK Try.prog (assoc glT) 45 f45_ct :=
  callsOK_E (env (ct := []) (ios := []) (hos := []) (lits := []) AllOK.nil AllW.nil AllH.nil) no_an Try.func45 (by kernel_rfl) (by kernel_rfl) f45_ct fun ab _ Q h => (v45 ab Q).mp (p45 h)
theorem ok17 : CallsOK Try.prog (assoc glT) 17 f17_ct :=
  callsOK_E (env (ct := [(33, f33_ct), (44, f44_ct), (43, f43_ct), (45, f45_ct), (46, f46_ct), (47, f47_ct), (48, f48_ct), (49, f49_ct)]) (ios := []) (hos := []) (lits := []) (AllOK.cons ok33 (AllOK.cons ok44 (AllOK.cons ok43 (AllOK.cons ok45 (AllOK.cons ok46 (AllOK.cons ok47 (AllOK.cons ok48 (AllOK.cons ok49 AllOK.nil)))))))) AllW.nil AllH.nil) f17_an Try.func17 (by kernel_rfl) (by kernel_rfl) f17_ct fun l _ Q h => (v17 l Q).mp (p17 h)
theorem ok50 : CallsOK Try.prog (assoc glT) 50 f50_ct :=
  callsOK_E (env (ct := []) (ios := []) (hos := []) (lits := []) AllOK.nil AllW.nil AllH.nil) no_an Try.func50 (by kernel_rfl) (by kernel_rfl) f50_ct fun ⟨n, lo, hi, _⟩ _ Q h => (v50 n lo hi Q).mp (p50 h)
theorem ok36 : CallsOK Try.prog (assoc glT) 36 f36_ct :=
  callsOK_E (env (ct := [(50, f50_ct)]) (ios := []) (hos := []) (lits := []) (AllOK.cons ok50 AllOK.nil) AllW.nil AllH.nil) no_an Try.func36 (by kernel_rfl) (by kernel_rfl) f36_ct fun ⟨s, lo, hi, _⟩ _ Q h => (v36 s lo hi Q).mp (p36 h)
theorem ok14 : CallsOK Try.prog (assoc glT) 14 f14_ct :=
  callsOK_E (env (ct := [(36, f36_ct)]) (ios := []) (hos := []) (lits := []) (AllOK.cons ok36 AllOK.nil) AllW.nil AllH.nil) f14_an Try.func14 (by kernel_rfl) (by kernel_rfl) f14_ct fun f _ Q h => (v14 f Q).mp (p14 h)
theorem ok15 : CallsOK Try.prog (assoc glT) 15 f15_ct :=
  callsOK_E (env (ct := []) (ios := []) (hos := []) (lits := []) AllOK.nil AllW.nil AllH.nil) f15_an Try.func15 (by kernel_rfl) (by kernel_rfl) f15_ct fun ⟨f, g, _⟩ _ Q h => (v15 f g Q).mp (p15 h)
theorem ok11 : CallsOK Try.prog (assoc glT) 11 f11_ct :=
  callsOK_E (env (ct := []) (ios := []) (hos := []) (lits := []) AllOK.nil AllW.nil AllH.nil) no_an Try.func11 (by kernel_rfl) (by kernel_rfl) f11_ct fun f _ Q h => (v11 f Q).mp (p11 h)
theorem ok13 : CallsOK Try.prog (assoc glT) 13 f13_ct :=
  callsOK_E (env (ct := []) (ios := []) (hos := []) (lits := []) AllOK.nil AllW.nil AllH.nil) f13_an Try.func13 (by kernel_rfl) (by kernel_rfl) f13_ct fun ⟨a, b, _⟩ _ Q h => (v13 a b Q).mp (p13 h)
theorem ok40 : CallsOK Try.prog (assoc glT) 40 f40_ct :=
  callsOK_E (env (ct := []) (ios := []) (hos := []) (lits := []) AllOK.nil AllW.nil AllH.nil) cmp_an Try.func40 (by kernel_rfl) (by kernel_rfl) f40_ct fun ⟨a, b, _⟩ _ Q h => (v40 a b Q).mp (p40 h)
theorem ok41 : CallsOK Try.prog (assoc glT) 41 f41_ct :=
  callsOK_E (env (ct := []) (ios := []) (hos := []) (lits := []) AllOK.nil AllW.nil AllH.nil) cmp_an Try.func41 (by kernel_rfl) (by kernel_rfl) f41_ct fun ⟨a, b, _⟩ _ Q h => (v41 a b Q).mp (p41 h)
end Go.Proofs.Rv
set_option linter.unusedVariables false
set_option maxRecDepth 100000
namespace Go.Proofs.Rv
open Go Go.GX Go.Proofs

def V27 (a : Int) (b : Int) (Q : Int × Int → Prop) : Prop :=
  Q (a, b)
theorem v27 (a : Int) (b : Int) (Q : Int × Int → Prop) : V27 a b Q = vcFunc (S1 [] [] [] []) f27_ct.own f27_ct.fresh no_an Try.f27 (bodyOf Try.f27) f27_ct.A f27_ct.C f27_ct.R (a, b, ()) () Q := by kernel_rfl

def V39 (Q : (Int × Int) × (Int × Int) × List ((Int × Int) × Int × Int) → Prop) : Prop :=
  f27_wp ((900 : Int), (1000 : Int), ()) () fun (r : Int × Int) ↦
    f27_wp ((40 : Int), (50 : Int), ()) () fun (r_1 : Int × Int) ↦
      f27_wp ((200 : Int), (210 : Int), ()) () fun (r_2 : Int × Int) ↦
        f27_wp ((12 : Int), (12 : Int), ()) () fun (r_3 : Int × Int) ↦
          f27_wp ((100 : Int), (100 : Int), ()) () fun (r_4 : Int × Int) ↦
            f27_wp ((4 : Int), (5 : Int), ()) () fun (r_5 : Int × Int) ↦
              Q
                ((Prod.fst r, Prod.snd r), (Prod.fst r_1, Prod.snd r_1),
                  ((Prod.fst r_2, Prod.snd r_2), Prod.fst r_3, Prod.snd r_3) ::
                    ((Prod.fst r_4, Prod.snd r_4), Prod.fst r_5, Prod.snd r_5) :: ([] : List ((Int × Int) × Int × Int)))
theorem v39 (Q : (Int × Int) × (Int × Int) × List ((Int × Int) × Int × Int) → Prop) : V39 Q = vcFunc (S1 [(27, f27_ct)] [] [] [108]) f39_ct.own f39_ct.fresh no_an Try.f39 (bodyOf Try.f39) f39_ct.A f39_ct.C f39_ct.R () () Q := by kernel_rfl

end Go.Proofs.Rv
set_option linter.unusedVariables false
set_option maxRecDepth 100000
namespace Go.Proofs.Rv
open Go Go.GX Go.Proofs

theorem p27 {a b : Int} {Q : Span → Prop} (h : f27_wp (a, b, ()) () Q) : V27 a b Q := h
theorem p39 {Q : Fan → Prop} (h : f39_wp () () Q) : V39 Q := h
end Go.Proofs.Rv
set_option linter.unusedVariables false
set_option maxRecDepth 100000
namespace Go.Proofs.Rv
open Go Go.GX Go.Proofs

def V10 (Q : Bool → Prop) : Prop :=
  f39_wp () () fun (r : (Int × Int) × (Int × Int) × List ((Int × Int) × Int × Int)) ↦
    f28_wp ((Prod.fst (Prod.fst r), Prod.snd (Prod.fst r)), (Prod.fst (Prod.fst (Prod.snd r)), Prod.snd (Prod.fst (Prod.snd r))), Prod.snd (Prod.snd r))
      () fun (r : (Int × Int) × Int × Unit) ↦
      f39_wp () () fun (r_1 : (Int × Int) × (Int × Int) × List ((Int × Int) × Int × Int)) ↦
        f12_wp
          ((Prod.fst (Prod.fst r_1), Prod.snd (Prod.fst r_1)), (Prod.fst (Prod.fst (Prod.snd r_1)), Prod.snd (Prod.fst (Prod.snd r_1))),
            Prod.snd (Prod.snd r_1))
          () fun (r_2 : List Int × Int × Unit) ↦
          f39_wp () () fun (r_3 : (Int × Int) × (Int × Int) × List ((Int × Int) × Int × Int)) ↦
            f32_wp
              (((Prod.fst (Prod.fst r_3), Prod.snd (Prod.fst r_3)), (Prod.fst (Prod.fst (Prod.snd r_3)), Prod.snd (Prod.fst (Prod.snd r_3))),
                  Prod.snd (Prod.snd r_3)),
                (100 : Int), ())
              () fun (r_4 : Int × Int × Int × Unit) ↦
              f39_wp () () fun (r_5 : (Int × Int) × (Int × Int) × List ((Int × Int) × Int × Int)) ↦
                f27_wp ((10 : Int), (14 : Int), ()) () fun (r_6 : Int × Int) ↦
                  f25_wp
                    (((Prod.fst (Prod.fst r_5), Prod.snd (Prod.fst r_5)), (Prod.fst (Prod.fst (Prod.snd r_5)), Prod.snd (Prod.fst (Prod.snd r_5))),
                        Prod.snd (Prod.snd r_5)),
                      (Prod.fst r_6, Prod.snd r_6), ())
                    () fun (r_7 : List Int × Int × Unit) ↦
                    f39_wp () () fun (r_8 : (Int × Int) × (Int × Int) × List ((Int × Int) × Int × Int)) ↦
                      f30_wp
                        (((Prod.fst (Prod.fst r_8), Prod.snd (Prod.fst r_8)), (Prod.fst (Prod.fst (Prod.snd r_8)), Prod.snd (Prod.fst (Prod.snd r_8))),
                            Prod.snd (Prod.snd r_8)),
                          (45 : Int), ())
                        () fun (r_9 : Int × Int × Unit) ↦
                        f39_wp () () fun (r_10 : (Int × Int) × (Int × Int) × List ((Int × Int) × Int × Int)) ↦
                          f31_wp
                            (((Prod.fst (Prod.fst r_10), Prod.snd (Prod.fst r_10)),
                                (Prod.fst (Prod.fst (Prod.snd r_10)), Prod.snd (Prod.fst (Prod.snd r_10))), Prod.snd (Prod.snd r_10)),
                              (18 : Int), ())
                            () fun (r_11 : Int × Int × Unit) ↦
                            f27_wp ((100 : Int), (120 : Int), ()) () fun (r_12 : Int × Int) ↦
                              f27_wp ((1 : Int), (1 : Int), ()) () fun (r_13 : Int × Int) ↦
                                f27_wp ((30 : Int), (40 : Int), ()) () fun (r_14 : Int × Int) ↦
                                  f27_wp ((1 : Int), (1 : Int), ()) () fun (r_15 : Int × Int) ↦
                                    f17_wp
                                      (((Prod.fst r_12, Prod.snd r_12), (Prod.fst r_13, Prod.snd r_13), (50 : Int)) ::
                                        ((Prod.fst r_14, Prod.snd r_14), (Prod.fst r_15, Prod.snd r_15), (200 : Int)) ::
                                          ([] : List ((Int × Int) × (Int × Int) × Int)))
                                      () fun (r_16 : (Int × Int) × (Int × Int) × Int × Unit) ↦
                                      cnd (Prod.fst (Prod.snd r) != (0 : Int)) (Q false)
                                        (cnd (Prod.fst (Prod.snd r_2) != (0 : Int)) (Q false)
                                          (cnd (Prod.fst (Prod.snd (Prod.snd r_4)) != (0 : Int)) (Q false)
                                            (cnd (Prod.fst (Prod.snd r_7) != (0 : Int)) (Q false)
                                              (cnd (Prod.fst (Prod.snd r_9) != (0 : Int)) (Q false)
                                                (cnd (Prod.fst (Prod.snd r_11) != (0 : Int)) (Q false)
                                                  (cnd (Prod.fst (Prod.snd (Prod.snd r_16)) != (0 : Int)) (Q false)
                                                    (∃ (r_17 : Int × Int),
                                                      (f27_wp ((16 : Int), (19 : Int), ()) () fun (r' : Int × Int) ↦ r' = r_17) ∧
                                                        cnd (Prod.fst (Prod.fst r) == Prod.fst r_17 && (Prod.snd (Prod.fst r) == Prod.snd r_17 && true))
                                                          (∃ (r : Bool),
                                                            (f40_wp (Prod.fst r_2, (1 : Int) :: (3 : Int) :: ([] : List Int), ()) () fun (r' : Bool) ↦
                                                                r' = r) ∧
                                                              cnd r
                                                                (cnd (Prod.fst r_4 == (0 : Int))
                                                                  (cnd (Prod.fst (Prod.snd r_4) == (18 : Int))
                                                                    (∃ (r : Bool),
                                                                      (f40_wp (Prod.fst r_7, (0 : Int) :: ([] : List Int), ()) () fun (r' : Bool) ↦
                                                                          r' = r) ∧
                                                                        cnd r
                                                                          (cnd (Prod.fst r_9 == (5 : Int))
                                                                            (cnd (Prod.fst r_11 == (235 : Int))
                                                                              (cnd
                                                                                (Prod.fst (Prod.fst r_16) == (80 : Int) &&
                                                                                  (Prod.snd (Prod.fst r_16) == (1 : Int) && true))
                                                                                (Q
                                                                                  (Prod.fst (Prod.fst (Prod.snd r_16)) == (650 : Int) &&
                                                                                    (Prod.snd (Prod.fst (Prod.snd r_16)) == (7 : Int) && true)))
                                                                                (Q false))
                                                                              (Q false))
                                                                            (Q false))
                                                                          (Q false))
                                                                    (Q false))
                                                                  (Q false))
                                                                (Q false))
                                                          (Q false))))))))
theorem v10 (Q : Bool → Prop) : V10 Q = vcFunc (S1 [(39, f39_ct), (28, f28_ct), (12, f12_ct), (32, f32_ct), (27, f27_ct), (25, f25_ct), (30, f30_ct), (31, f31_ct), (17, f17_ct), (40, f40_ct), (41, f41_ct)] [] [] []) f10_ct.own f10_ct.fresh no_an Try.f10 (bodyOf Try.f10) f10_ct.A f10_ct.C f10_ct.R () () Q := by kernel_rfl

def V3 (f : (Int × Int) × (Int × Int) × List ((Int × Int) × Int × Int)) (Q : Bool → Prop) : Prop :=
  List.length (Prod.snd (Prod.snd f)) ≤ (9223372036854775807 : Nat) →
    cnd (decide ((↑(List.length (Prod.snd (Prod.snd f))) : Int) > (50 : Int))) (f10_wp () () fun (r : Bool) ↦ Q r)
      (f11_wp
        ((Prod.fst (Prod.fst f), Prod.snd (Prod.fst f)), (Prod.fst (Prod.fst (Prod.snd f)), Prod.snd (Prod.fst (Prod.snd f))), Prod.snd (Prod.snd f)) ()
        fun (r : (Int × Int) × (Int × Int) × List ((Int × Int) × Int × Int)) ↦
        f12_wp
          ((Prod.fst (Prod.fst r), Prod.snd (Prod.fst r)), (Prod.fst (Prod.fst (Prod.snd r)), Prod.snd (Prod.fst (Prod.snd r))), Prod.snd (Prod.snd r))
          () fun (r_1 : List Int × Int × Unit) ↦
          f13_wp
            (((Prod.fst (Prod.fst r), Prod.snd (Prod.fst r)), (Prod.fst (Prod.fst (Prod.snd r)), Prod.snd (Prod.fst (Prod.snd r))),
                Prod.snd (Prod.snd r)),
              ((Prod.fst (Prod.fst f), Prod.snd (Prod.fst f)), (Prod.fst (Prod.fst (Prod.snd f)), Prod.snd (Prod.fst (Prod.snd f))),
                Prod.snd (Prod.snd f)),
              ())
            () fun (r : Bool) ↦
            cnd (!r) (Q false)
              (f14_wp
                ((Prod.fst (Prod.fst f), Prod.snd (Prod.fst f)), (Prod.fst (Prod.fst (Prod.snd f)), Prod.snd (Prod.fst (Prod.snd f))),
                  Prod.snd (Prod.snd f))
                () fun (r : Int) ↦
                cnd (r != (0 : Int))
                  (cnd (Prod.fst (Prod.snd r_1) == r)
                    (List.length (Prod.fst r_1) ≤ (9223372036854775807 : Nat) →
                      cnd ((↑(List.length (Prod.fst r_1)) : Int) == (0 : Int)) (f10_wp () () fun (r : Bool) ↦ Q r) (Q false))
                    (Q false))
                  (cnd (Prod.fst (Prod.snd r_1) != (0 : Int)) (Q false)
                    (List.length (Prod.fst r_1) ≤ (9223372036854775807 : Nat) →
                      List.length (Prod.snd (Prod.snd f)) ≤ (9223372036854775807 : Nat) →
                        cnd ((↑(List.length (Prod.fst r_1)) : Int) != (↑(List.length (Prod.snd (Prod.snd f))) : Int)) (Q false)
                          (∃ (I : Int → Prop),
                            ∃ (μ : Int → Nat),
                              I (0 : Int) ∧
                                ∀ (x : Int),
                                  I x →
                                    List.length (Prod.fst r_1) ≤ (9223372036854775807 : Nat) →
                                      cnd (decide (x < (↑(List.length (Prod.fst r_1)) : Int)))
                                        ((0 : Int) ≤ x ∧
                                          x < (↑(List.length (Prod.fst r_1)) : Int) ∧
                                            (0 : Int) ≤ x ∧
                                              x < (↑(List.length (Prod.snd (Prod.snd f))) : Int) ∧
                                                ∃ (r : Int),
                                                  (f15_wp
                                                      (((Prod.fst (Prod.fst f), Prod.snd (Prod.fst f)),
                                                          (Prod.fst (Prod.fst (Prod.snd f)), Prod.snd (Prod.fst (Prod.snd f))), Prod.snd (Prod.snd f)),
                                                        ((Prod.fst
                                                              (Prod.fst
                                                                (List.getD (Prod.snd (Prod.snd f)) (Int.toNat x)
                                                                  (((0 : Int), (0 : Int)), (0 : Int), (0 : Int)))),
                                                            Prod.snd
                                                              (Prod.fst
                                                                (List.getD (Prod.snd (Prod.snd f)) (Int.toNat x)
                                                                  (((0 : Int), (0 : Int)), (0 : Int), (0 : Int))))),
                                                          Prod.fst
                                                            (Prod.snd
                                                              (List.getD (Prod.snd (Prod.snd f)) (Int.toNat x)
                                                                (((0 : Int), (0 : Int)), (0 : Int), (0 : Int)))),
                                                          Prod.snd
                                                            (Prod.snd
                                                              (List.getD (Prod.snd (Prod.snd f)) (Int.toNat x)
                                                                (((0 : Int), (0 : Int)), (0 : Int), (0 : Int))))),
                                                        ())
                                                      () fun (r' : Int) ↦ r' = r) ∧
                                                    cnd (List.getD (Prod.fst r_1) (Int.toNat x) (0 : Int) != r) (Q false)
                                                      (I (IntKind.wrap IntKind.i64 (x + (1 : Int))) ∧
                                                        μ (IntKind.wrap IntKind.i64 (x + (1 : Int))) < μ x))
                                        (f10_wp () () fun (r : Bool) ↦ Q r))))))
theorem v3 (f : (Int × Int) × (Int × Int) × List ((Int × Int) × Int × Int)) (Q : Bool → Prop) : V3 f Q = vcFunc (S1 [(10, f10_ct), (11, f11_ct), (12, f12_ct), (13, f13_ct), (14, f14_ct), (15, f15_ct)] [] [] []) f3_ct.own f3_ct.fresh f3_an Try.f3 (bodyOf Try.f3) f3_ct.A f3_ct.C f3_ct.R f () Q := by kernel_rfl

def V4 (l : List ((Int × Int) × (Int × Int) × Int)) (Q : Bool → Prop) : Prop :=
  List.length l ≤ (9223372036854775807 : Nat) →
    cnd (decide ((↑(List.length l) : Int) > (20 : Int))) (f10_wp () () fun (r : Bool) ↦ Q r)
      (f16_wp l () fun (r : List ((Int × Int) × (Int × Int) × Int)) ↦
        f17_wp r () fun (r_1 : (Int × Int) × (Int × Int) × Int × Unit) ↦
          f18_wp (r, l, ()) () fun (r : Bool) ↦
            cnd (!r) (Q false)
              (f19_wp l () fun (r : Int) ↦
                ∃ (I : Bool → Prop),
                  cnd (r == (0 : Int)) (List.length l ≤ (9223372036854775807 : Nat) → I ((↑(List.length l) : Int) == (0 : Int))) (I false) ∧
                    ∀ (x : Bool),
                      I x →
                        ∃ (I : Int → Prop),
                          cnd x (I (7 : Int)) (I r) ∧
                            ∀ (x : Int),
                              I x →
                                cnd (x != (0 : Int))
                                  (cnd (Prod.fst (Prod.snd (Prod.snd r_1)) == x)
                                    (cnd (Prod.fst (Prod.fst r_1) == (0 : Int) && (Prod.snd (Prod.fst r_1) == (0 : Int) && true))
                                      (cnd
                                        (Prod.fst (Prod.fst (Prod.snd r_1)) == (0 : Int) && (Prod.snd (Prod.fst (Prod.snd r_1)) == (0 : Int) && true))
                                        (f10_wp () () fun (r : Bool) ↦ Q r) (Q false))
                                      (Q false))
                                    (Q false))
                                  (f20_wp l () fun (r : (Int × Int) × (Int × Int) × Unit) ↦
                                    cnd (Prod.fst (Prod.snd (Prod.snd r_1)) == (0 : Int))
                                      (cnd
                                        (Prod.fst (Prod.fst r_1) == Prod.fst (Prod.fst r) && (Prod.snd (Prod.fst r_1) == Prod.snd (Prod.fst r) && true))
                                        (cnd
                                          (Prod.fst (Prod.fst (Prod.snd r_1)) == Prod.fst (Prod.fst (Prod.snd r)) &&
                                            (Prod.snd (Prod.fst (Prod.snd r_1)) == Prod.snd (Prod.fst (Prod.snd r)) && true))
                                          (f10_wp () () fun (r : Bool) ↦ Q r) (Q false))
                                        (Q false))
                                      (Q false))))
theorem v4 (l : List ((Int × Int) × (Int × Int) × Int)) (Q : Bool → Prop) : V4 l Q = vcFunc (S1 [(10, f10_ct), (16, f16_ct), (17, f17_ct), (18, f18_ct), (19, f19_ct), (20, f20_ct)] [] [] []) f4_ct.own f4_ct.fresh f4_an Try.f4 (bodyOf Try.f4) f4_ct.A f4_ct.C f4_ct.R l () Q := by kernel_rfl

end Go.Proofs.Rv
set_option linter.unusedVariables false
set_option maxRecDepth 100000
namespace Go.Proofs.Rv
open Go Go.GX Go.Proofs

theorem w28 {K : Span × Int × Unit → Prop} (h : K ((16, 19), 0, ())) : f28_wp fan0 () K := by
  have e : (if checkF fan0 = 0 then (opensF fan0, 0, ()) else ((0, 0), checkF fan0, ()) : Span × Int × Unit) = ((16, 19), 0, ()) := by decide +kernel
  show K _
  rw [e]; exact h
theorem w12 {K : List Int × Int × Unit → Prop} (h : K ([1, 3], 0, ())) : f12_wp fan0 () K := by
  have e : (if checkF fan0 = 0 then (fan0.2.2.map (stopF fan0.1 fan0.2.1), 0, ()) else ([], checkF fan0, ()) : List Int × Int × Unit) = ([1, 3], 0, ()) := by decide +kernel
  show K _
  rw [e]; exact h
theorem w32 {K : Int × Int × Int × Unit → Prop} (h : K (0, 18, 0, ())) : f32_wp (fan0, 100, ()) () K := by
  have e : widenF fan0 100 = (0, 18, 0, ()) := by decide +kernel
  show K (widenF fan0 100)
  rw [e]; exact h
theorem w25 {K : List Int × Int × Unit → Prop} (h : K ([0], 0, ())) : f25_wp (fan0, (10, 14), ()) () K := by
  have e : wrongF fan0 (10, 14) = ([0], 0, ()) := by decide +kernel
  refine ⟨fun _ _ _ _ => by show 2 ≤ 12; omega, ?_⟩
  show K (wrongF fan0 (10, 14))
  rw [e]; exact h
theorem w30 {K : Int × Int × Unit → Prop} (h : K (5, 0, ())) : f30_wp (fan0, 45, ()) () K := by
  have e : sticksF fan0 45 = (5, 0, ()) := by decide +kernel
  show K (sticksF fan0 45)
  rw [e]; exact h
theorem w31 {K : Int × Int × Unit → Prop} (h : K (235, 0, ())) : f31_wp (fan0, 18, ()) () K := by
  have e : pleatF fan0 18 = (235, 0, ()) := by decide +kernel
  show K (pleatF fan0 18)
  rw [e]; exact h
theorem w17 {K : Ratio × Ratio × Int × Unit → Prop} (h : K ((80, 1), (650, 7), 0, ())) : f17_wp [((100, 120), (1, 1), 50), ((30, 40), (1, 1), 200)] () K := by
  have e : balanceF [((100, 120), (1, 1), 50), ((30, 40), (1, 1), 200)] = ((80, 1), (650, 7), 0, ()) := by decide +kernel
  show K (balanceF _)
  rw [e]; exact h
theorem p10 {Q : Bool → Prop} (h : f10_wp () () Q) : V10 Q := by
  unfold V10 f39_wp f27_wp
  refine w28 ?_
  refine w12 ?_
  refine w32 ?_
  refine w25 ?_
  refine w30 ?_
  refine w31 ?_
  refine w17 ?_
  refine cndF (cndF (cndF (cndF (cndF (cndF (cndF ⟨_, rfl, cndT ⟨_, rfl, cndT (cndT (cndT ⟨_, rfl, cndT (cndT (cndT (cndT h)))⟩))⟩⟩))))))
theorem cnd_of {c : Bool} {p q : Prop} (hc : c = true) (h : p) : cnd c p q := by rw [hc]; exact h
theorem cnd_not {c : Bool} {p q : Prop} (hc : c = false) (h : q) : cnd c p q := by rw [hc]; exact h
theorem p3 {f : Fan} {Q : Bool → Prop} (h : f3_wp f () Q) : V3 f Q := by
  have h : Q true := h
  intro hl
  refine cnd_iff.2 ⟨fun c => h, fun c => ?_⟩
  have c : ¬ (f.2.2.length : Int) > 50 := of_decide_eq_false c
  refine ⟨by show f.2.2.length ≤ 1000000; omega, ?_⟩
  show cnd (!decide (f = f)) (Q false) (cnd (checkF f != 0) _ _)
  refine cnd_not (by simp) ?_
  refine cnd_iff.2 ⟨fun d => ?_, fun d => ?_⟩
  · have d := bne0.1.1 d
    have e : (if checkF f = 0 then (f.2.2.map (stopF f.1 f.2.1), 0, ()) else ([], checkF f, ()) : List Int × Int × Unit) = ([], checkF f, ()) := if_neg d
    show cnd ((if checkF f = 0 then (f.2.2.map (stopF f.1 f.2.1), 0, ()) else ([], checkF f, ()) : List Int × Int × Unit).2.1 == checkF f) ((if checkF f = 0 then (f.2.2.map (stopF f.1 f.2.1), 0, ()) else ([], checkF f, ()) : List Int × Int × Unit).1.length ≤ _ → cnd (((if checkF f = 0 then (f.2.2.map (stopF f.1 f.2.1), 0, ()) else ([], checkF f, ()) : List Int × Int × Unit).1.length : Int) == 0) _ _) _
    rw [e]
    exact cnd_of (by simp) fun _ => cnd_of rfl h
  · have d := bne0.2.1 d
    have ho := checkF_ok.1 d
    have e : (if checkF f = 0 then (f.2.2.map (stopF f.1 f.2.1), 0, ()) else ([], checkF f, ()) : List Int × Int × Unit) = (f.2.2.map (stopF f.1 f.2.1), 0, ()) := if_pos d
    have key : ∀ z : List Int × Int × Unit, z = (f.2.2.map (stopF f.1 f.2.1), 0, ()) → cnd (z.2.1 != 0) (Q false) (z.1.length ≤ 9223372036854775807 → f.2.2.length ≤ 9223372036854775807 → cnd ((z.1.length : Int) != (f.2.2.length : Int)) (Q false) (∃ (I : Int → Prop) (μ : Int → Nat), I 0 ∧ ∀ x, I x → z.1.length ≤ 9223372036854775807 → cnd (decide (x < (z.1.length : Int))) (0 ≤ x ∧ x < (z.1.length : Int) ∧ 0 ≤ x ∧ x < (f.2.2.length : Int) ∧ ∃ r : Int, (f15_wp (f, f.2.2.getD x.toNat g0, ()) () fun r' => r' = r) ∧ cnd (z.1.getD x.toNat 0 != r) (Q false) (I (IntKind.wrap .i64 (x + 1)) ∧ μ (IntKind.wrap .i64 (x + 1)) < μ x)) (f10_wp () () fun r => Q r))) := by
      rintro z rfl
      refine cndF fun _ _ => ?_
      have hlen : (f.2.2.map (stopF f.1 f.2.1)).length = f.2.2.length := by simp
      refine cnd_not (by simp) ?_
      refine forUpGL (n := (f.2.2.map (stopF f.1 f.2.1)).length) (fun _ => True) trivial (body := fun I μ x => 0 ≤ x ∧ x < ((f.2.2.map (stopF f.1 f.2.1)).length : Int) ∧ 0 ≤ x ∧ x < (f.2.2.length : Int) ∧ ∃ r : Int, (f15_wp (f, f.2.2.getD x.toNat g0, ()) () fun r' => r' = r) ∧ cnd ((f.2.2.map (stopF f.1 f.2.1)).getD x.toNat 0 != r) (Q false) (I (IntKind.wrap .i64 (x + 1)) ∧ μ (IntKind.wrap .i64 (x + 1)) < μ x)) (e := fun _ => f10_wp () () fun r => Q r) (fun k hk _ _ I μ hI hw => ?_) (fun _ => h)
      have hk' : k < f.2.2.length := by omega
      have hg : gapOK (f.2.2.getD k g0) = true := by
        have := ho.g _ (getD_mem (d := g0) hk')
        unfold gapOK
        rw [Bool.and_eq_true, isSpan_iff, isSpan_iff]; omega
      refine ⟨by omega, by omega, by omega, by omega, _, ⟨⟨ho, hg⟩, rfl⟩, ?_⟩
      rw [hw]
      refine cnd_not ?_ (hI trivial)
      show ((f.2.2.map (stopF f.1 f.2.1)).getD k 0 != stopF f.1 f.2.1 (f.2.2.getD k g0)) = false
      rw [getD_lt hk, getD_lt hk']
      simp
    exact key _ e
end Go.Proofs.Rv
set_option maxRecDepth 100000
namespace Go.Proofs.Rv
open Go Go.GX Go.Proofs
variable [Inhabited BaseD]
theorem ok27 : CallsOK Try.prog (assoc glT) 27 f27_ct :=
  callsOK_E (env (ct := []) (ios := []) (hos := []) (lits := []) AllOK.nil AllW.nil AllH.nil) no_an Try.func27 (by kernel_rfl) (by kernel_rfl) f27_ct fun ⟨a, b, _⟩ _ Q h => (v27 a b Q).mp (p27 h)
theorem ok39 : CallsOK Try.prog (assoc glT) 39 f39_ct :=
  callsOK_E (env (ct := [(27, f27_ct)]) (ios := []) (hos := []) (lits := [108]) (AllOK.cons ok27 AllOK.nil) AllW.nil AllH.nil) no_an Try.func39 (by kernel_rfl) (by kernel_rfl) f39_ct fun () _ Q h => (v39  Q).mp (p39 h)
set_option maxHeartbeats 2000000 in
theorem ok10 : CallsOK Try.prog (assoc glT) 10 f10_ct :=
  callsOK_E (env (ct := [(39, f39_ct), (28, f28_ct), (12, f12_ct), (32, f32_ct), (27, f27_ct), (25, f25_ct), (30, f30_ct), (31, f31_ct), (17, f17_ct), (40, f40_ct), (41, f41_ct)]) (ios := []) (hos := []) (lits := []) (AllOK.cons ok39 (AllOK.cons ok28 (AllOK.cons ok12 (AllOK.cons ok32 (AllOK.cons ok27 (AllOK.cons ok25 (AllOK.cons ok30 (AllOK.cons ok31 (AllOK.cons ok17 (AllOK.cons ok40 (AllOK.cons ok41 AllOK.nil))))))))))) AllW.nil AllH.nil) no_an Try.func10 (by kernel_rfl) (by kernel_rfl) f10_ct fun () () Q h => (v10 Q).mp (p10 (Q := Q) h)
theorem ok3 : CallsOK Try.prog (assoc glT) 3 f3_ct :=
  callsOK_E (env (ct := [(10, f10_ct), (11, f11_ct), (12, f12_ct), (13, f13_ct), (14, f14_ct), (15, f15_ct)]) (ios := []) (hos := []) (lits := []) (AllOK.cons ok10 (AllOK.cons ok11 (AllOK.cons ok12 (AllOK.cons ok13 (AllOK.cons ok14 (AllOK.cons ok15 AllOK.nil)))))) AllW.nil AllH.nil) f3_an Try.func3 (by kernel_rfl) (by kernel_rfl) f3_ct fun f _ Q h => (v3 f Q).mp (p3 h)
end Go.Proofs.Rv
