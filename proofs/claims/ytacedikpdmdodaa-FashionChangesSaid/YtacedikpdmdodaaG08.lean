/- Part 8 of the texts behind the proof: FaPe, FaM5, FaPf, FaO6, FaV9, FaPg, FaM6, FaPh, FaO7, FaM7, FaV10, FaPi, FaO8, FaM8, FaV11, FaPj, FaO9. -/
import Derived.Test.YtacedikpdmdodaaG07
import Derived.Test.YtacedikpdmdodaaProg
set_option linter.unusedSimpArgs false
set_option linter.unusedVariables false
set_option linter.unusedSectionVars false
set_option linter.unusedVariables false
namespace Go.Proofs.Fa
open Go Go.GX Go.Proofs

theorem p44 {s : Store} {Q : Store → Prop} (h : f44_wp s () Q) : V44 s Q := by
  obtain ⟨⟨h1, h2⟩, h⟩ := h
  exact ⟨by show (0 + s.1.length) * 8 ≤ _; omega, by show (0 + s.2.2.length) * 16 ≤ _; omega, h⟩
theorem p45 {f : List Spring} {Q : List Spring → Prop} (h : f45_wp f () Q) : V45 f Q := by
  obtain ⟨h1, h⟩ := h
  exact ⟨by show (0 + f.length) * 32 ≤ _; omega, h⟩
theorem modB {b m : Int} (h : byteB b) (hm : 0 < m) : Int.tmod (IntKind.wrap .i64 b) m = b % m := by
  rw [wrapS (by have := h.1; omega) (by have := h.2; omega), Int.tmod_eq_emod_of_nonneg h.1]
theorem take_last {α : Type} {l : List α} {i n : Nat} (hi : i ≤ l.length) (hn : i ≤ n) (h : ¬ (i < l.length ∧ i < n)) : l.take i = l.take n := by
  by_cases h1 : i = n
  · rw [h1]
  · rw [List.take_of_length_le (show l.length ≤ i by omega), List.take_of_length_le (show l.length ≤ n by omega)]
def sprL (v : List By4) (i : Nat) : List Spring := if v.length = 0 then (if i = 0 then [] else [sprO (12, 3, 2, 15)]) else (v.take i).map sprO
theorem p43 {x : Season} {Q : Store × List Spring × Unit → Prop} (h : f43_wp x () Q) : V43 x Q := by
  obtain ⟨ok, h⟩ := h
  have h : Q (seaS x, seaF x, ()) := h
  refine ⟨by omega, ?_⟩
  rw [modB ok.s (by omega)]
  refine ⟨fun i c => ∃ k : Nat, k ≤ x.1.length ∧ k ≤ 5 ∧ i = k ∧ c = ((x.1.take k).map fun b => 10 + b % 90, x.2.1 % 6, []), fun i _ => (5 - i).toNat, ⟨0, by omega, by omega, rfl, rfl⟩, ?_⟩
  rintro i c ⟨k, hk, hk5, rfl, rfl⟩
  refine ⟨fun b => b = decide (k < x.1.length ∧ k < 5), fun _ => cnd_iff.2 ⟨fun g => ?_, fun g => ?_⟩, ?_⟩
  · have g : (k : Int) < x.1.length := of_decide_eq_true g
    show decide ((k : Int) < 5) = _
    rw [decide_eq_decide]; omega
  · have g : ¬ (k : Int) < x.1.length := of_decide_eq_false g
    exact (decide_eq_false (by omega)).symm
  rintro _ rfl
  refine cnd_iff.2 ⟨fun g => ?_, fun g => ?_⟩
  · have g : k < x.1.length ∧ k < 5 := of_decide_eq_true g
    have hb := ok.l _ (getD_mem (d := 0) g.1)
    refine ⟨by omega, by omega, by omega, ?_⟩
    show ((((x.1.take k).map fun b => 10 + b % 90)).length + 1) * 8 ≤ _ ∧ (∃ k' : Nat, k' ≤ x.1.length ∧ k' ≤ 5 ∧ IntKind.wrap .i64 ((k : Int) + 1) = k' ∧ (((x.1.take k).map fun b => 10 + b % 90) ++ [IntKind.wrap .i64 (10 + Int.tmod (IntKind.wrap .i64 (x.1.getD k 0)) 90)], x.2.1 % 6, ([] : List (Int × Int))) = _) ∧ (5 - IntKind.wrap .i64 ((k : Int) + 1)).toNat < (5 - (k : Int)).toNat
    rw [modB hb (by omega), wrapS (x := 10 + _ % 90) (by omega) (by omega), wrapS (x := (k : Int) + 1) (by omega) (by omega)]
    refine ⟨by simp; omega, ⟨k + 1, by omega, by omega, by omega, ?_⟩, by omega⟩
    rw [take_map_succ _ _ g.1 0]
  have g : ¬ (k < x.1.length ∧ k < 5) := of_decide_eq_false g
  rw [take_last hk hk5 g]
  refine ⟨fun i c => ∃ k : Nat, k ≤ x.2.2.1.length ∧ k ≤ 4 ∧ i = k ∧ c = ((x.1.take 5).map fun b => 10 + b % 90, x.2.1 % 6, (x.2.2.1.take k).map fun v => (10 + v.1 % 40, v.2 % 120)), fun i _ => (4 - i).toNat, ⟨0, by omega, by omega, rfl, rfl⟩, ?_⟩
  rintro i c ⟨k2, hk2, hk4, rfl, rfl⟩
  refine ⟨fun b => b = decide (k2 < x.2.2.1.length ∧ k2 < 4), fun _ => cnd_iff.2 ⟨fun g => ?_, fun g => ?_⟩, ?_⟩
  · have g : (k2 : Int) < x.2.2.1.length := of_decide_eq_true g
    show decide ((k2 : Int) < 4) = _
    rw [decide_eq_decide]; omega
  · have g : ¬ (k2 : Int) < x.2.2.1.length := of_decide_eq_false g
    exact (decide_eq_false (by omega)).symm
  rintro _ rfl
  refine cnd_iff.2 ⟨fun g => ?_, fun g2 => ?_⟩
  · have g : k2 < x.2.2.1.length ∧ k2 < 4 := of_decide_eq_true g
    have hb := ok.t _ (getD_mem (d := (0, 0)) g.1)
    refine ⟨by omega, by omega, by omega, by omega, by omega, by omega, ?_⟩
    show ((((x.2.2.1.take k2).map fun v => (10 + v.1 % 40, v.2 % 120))).length + 1) * 16 ≤ _ ∧ (∃ k' : Nat, k' ≤ x.2.2.1.length ∧ k' ≤ 4 ∧ IntKind.wrap .i64 ((k2 : Int) + 1) = k' ∧ (((x.1.take 5).map fun b => 10 + b % 90), x.2.1 % 6, ((x.2.2.1.take k2).map fun v => (10 + v.1 % 40, v.2 % 120)) ++ [(IntKind.wrap .i64 (10 + Int.tmod (IntKind.wrap .i64 (x.2.2.1.getD k2 (0, 0)).1) 40), Int.tmod (IntKind.wrap .i64 (x.2.2.1.getD k2 (0, 0)).2) 120)]) = _) ∧ (4 - IntKind.wrap .i64 ((k2 : Int) + 1)).toNat < (4 - (k2 : Int)).toNat
    rw [modB hb.1 (by omega), modB hb.2 (by omega), wrapS (x := 10 + _ % 40) (by omega) (by omega), wrapS (x := (k2 : Int) + 1) (by omega) (by omega)]
    refine ⟨by simp; omega, ⟨k2 + 1, by omega, by omega, by omega, ?_⟩, by omega⟩
    rw [take_map_succ _ _ g.1 (0, 0)]
  have g2 : ¬ (k2 < x.2.2.1.length ∧ k2 < 4) := of_decide_eq_false g2
  rw [take_last hk2 hk4 g2]
  obtain ⟨vs, hvs⟩ : ∃ vs, vs = x.2.2.2 := ⟨_, rfl⟩
  have okf := ok.f
  rw [← hvs] at okf
  have eF : seaF x = if vs.length = 0 then [sprO (12, 3, 2, 15)] else (vs.take 3).map sprO := by unfold seaF; rw [hvs]
  rw [eF] at h
  rw [← hvs]
  refine ⟨fun i l => ∃ k : Nat, k ≤ 3 ∧ (0 < k → k ≤ 1 ∨ k ≤ vs.length) ∧ i = k ∧ l = sprL vs k, fun i _ => (3 - i).toNat, ⟨0, by omega, by omega, rfl, by unfold sprL; simp⟩, ?_⟩
  rintro i l ⟨k3, hk3, hkk, rfl, rfl⟩
  refine ⟨fun b => b = decide (k3 = 0 ∨ (k3 < vs.length ∧ k3 < 3)), cnd_iff.2 ⟨fun g => ?_, fun g _ => cnd_iff.2 ⟨fun g1 => ?_, fun g1 => ?_⟩⟩, ?_⟩
  · have g : (k3 : Int) = 0 := by simpa using g
    exact (decide_eq_true (.inl (by omega))).symm
  · have g : ¬ (k3 : Int) = 0 := by simpa using g
    have g1 : (k3 : Int) < vs.length := of_decide_eq_true g1
    show decide ((k3 : Int) < 3) = _
    rw [decide_eq_decide]; omega
  · have g : ¬ (k3 : Int) = 0 := by simpa using g
    have g1 : ¬ (k3 : Int) < vs.length := of_decide_eq_false g1
    exact (decide_eq_false (by omega)).symm
  rintro _ rfl
  refine cnd_iff.2 ⟨fun g _ => ?_, fun g => ?_⟩
  · have g : k3 = 0 ∨ (k3 < vs.length ∧ k3 < 3) := of_decide_eq_true g
    refine ⟨fun v => v = if k3 < vs.length then vs.getD k3 (0, 0, 0, 0) else (12, 3, 2, 15), cnd_iff.2 ⟨fun g1 => ?_, fun g1 => ?_⟩, ?_⟩
    · have g1 : (k3 : Int) < vs.length := of_decide_eq_true g1
      exact ⟨by omega, by omega, by rw [if_pos (by omega)]; rfl⟩
    · have g1 : ¬ (k3 : Int) < vs.length := of_decide_eq_false g1
      show (12, 3, 2, 15) = _
      rw [if_neg (by omega)]
    rintro v hv
    have hb : byteB v.1 ∧ byteB v.2.1 ∧ byteB v.2.2.1 ∧ byteB v.2.2.2 := by
      rw [hv]
      split
      · rename_i hh; exact okf _ (getD_mem hh)
      · exact ⟨⟨by decide, by decide⟩, ⟨by decide, by decide⟩, ⟨by decide, by decide⟩, ⟨by decide, by decide⟩⟩
    rw [modB hb.1 (by omega), modB hb.2.1 (by omega), modB hb.2.2.1 (by omega), modB hb.2.2.2 (by omega), wrapS (x := 4 + v.1 % 20) (by omega) (by omega), wrapS (x := 4 + v.1 % 20 + v.2.1 % 6) (by omega) (by omega), wrapS (x := 5 + v.2.2.2 % 35) (by omega) (by omega), wrapS (x := (k3 : Int) + 1) (by omega) (by omega)]
    have hl3 : (sprL vs k3).length ≤ 3 := by
      unfold sprL
      split
      · split <;> simp
      · simp; omega
    refine ⟨by omega, by omega, _, rfl, by omega, by omega, by show ((sprL vs k3).length + 1) * 32 ≤ _; omega, ⟨k3 + 1, ?_, ?_, by omega, ?_⟩, by dsimp only; omega⟩
    · omega
    · intro _; omega
    · show sprL vs k3 ++ [sprO v] = sprL vs (k3 + 1)
      unfold sprL
      by_cases h0 : vs.length = 0
      · rw [if_pos h0, if_pos h0, if_pos (by omega), if_neg (by omega), hv, if_neg (by omega)]; rfl
      · have hlt : k3 < vs.length := by omega
        rw [if_neg h0, if_neg h0, hv, if_pos hlt, take_map_succ _ _ hlt (0, 0, 0, 0)]
  · have g : ¬ (k3 = 0 ∨ (k3 < vs.length ∧ k3 < 3)) := of_decide_eq_false g
    have e : sprL vs k3 = if vs.length = 0 then [sprO (12, 3, 2, 15)] else (vs.take 3).map sprO := by
      unfold sprL
      by_cases h0 : vs.length = 0
      · rw [if_pos h0, if_pos h0, if_neg (by omega)]
      · rw [if_neg h0, if_neg h0, take_last (n := 3) (by omega) hk3 (by omega)]
    rw [e]
    exact h

end Go.Proofs.Fa
set_option linter.unusedVariables false
namespace Go.Proofs.Fa
open Go Go.GX Go.Proofs

abbrev noB : BinT := ((0, 0, 0, 0), (0, 0, 0, 0), 0, 0)
structure CntOK (f : List Spring) (c : List Int) : Prop where
  n : c.length = f.length
  b : ∀ j, j < f.length → 0 ≤ c.getD j 0 ∧ c.getD j 0 ≤ (f.getD j ((0, 0), 0, 0)).1.2
theorem can_mono : ∀ {bs bs' : List BinT}, Bins0 bs → Bins0 bs' → bs.length = bs'.length → (∀ i, i < bs.length → ∀ s, F5 s → GX.Fa.fitsB (bs.getD i noB) s = true → GX.Fa.fitsB (bs'.getD i noB) s = true) → ∀ {f : FansT}, F5 f → 0 ≤ tval bs f → 0 ≤ tval bs' f
  | [], [], _, _, _, _, f, _, h => h
  | [], _ :: _, _, _, h, _, _, _, _ => by simp at h
  | _ :: _, [], _, _, h, _, _, _, _ => by simp at h
  | b :: r, b' :: r', hb, hb', hl, hh, f, hf, h => by
    obtain ⟨_, x2, x3⟩ := hb.cons
    obtain ⟨_, y2, y3⟩ := hb'.cons
    rw [can_cons hf] at h ⊢
    obtain ⟨s, hle, ht, hc⟩ := h
    have h5 := le4_F5 hle hf
    refine ⟨s, hle, can_mono x3 y3 (by simpa using hl) (fun i hi => hh (i + 1) (by simp; omega)) h5.2 ht, ?_⟩
    exact (cost_fit (y2 s h5.1)).2 (hh 0 (by simp) s h5.1 ((cost_fit (x2 s h5.1)).1 hc))
theorem dot_mono {s : FansT} (h5 : F5 s) {g g' : Nat → Int} (h : ∀ i, i < 4 → g i ≤ g' i) : GX.Fa.dot s (tup4 g) ≤ GX.Fa.dot s (tup4 g') := by
  have key : ∀ i, i < 4 → at4 s i * at4 (tup4 g) i ≤ at4 s i * at4 (tup4 g') i := fun i hi => by
    rw [at4_tup _ hi, at4_tup _ hi]
    exact Int.mul_le_mul_of_nonneg_left (h i hi) (h5.at0 i hi)
  rw [dot_at, dot_at]
  have k0 := key 0 (by omega)
  have k1 := key 1 (by omega)
  have k2 := key 2 (by omega)
  have k3 := key 3 (by omega)
  omega
theorem leaves_get {ls : List Int} {seam : Int} {c : FansT} {e fi : Int} {i : Nat} (hi : i < ls.length) : (leavesR ls seam c e fi).getD i noB = (tup4 fun j => at4 c j + seam, tup4 fun _ => e, ls.getD i 0 + seam, fi) := by
  unfold leavesR
  rw [List.getD_eq_getElem?_getD, List.getElem?_map, List.getElem?_eq_getElem hi, getD_lt hi]; rfl
theorem lots_get {ls : List Lot} {f : List Spring} {c : FansT} {i : Nat} (hi : i < ls.length) : (lotsR ls f c).getD i noB = lotR f c (ls.getD i (0, 0)) := by
  unfold lotsR
  rw [List.getD_eq_getElem?_getD, List.getElem?_map, List.getElem?_eq_getElem hi, getD_lt hi]; rfl
end Go.Proofs.Fa
set_option linter.unusedVariables false
namespace Go.Proofs.Fa
open Go Go.GX Go.Proofs

theorem mod_b {x m : Int} (hm : 0 < m) : 0 ≤ x % m ∧ x % m < m := ⟨Int.emod_nonneg _ (by omega), Int.emod_lt_of_pos _ hm⟩
theorem spr_ok (v : By4) : isSprF (sprO v) = true := by
  have a := mod_b (x := v.1) (m := 20) (by omega)
  have b := mod_b (x := v.2.1) (m := 6) (by omega)
  have c := mod_b (x := v.2.2.1) (m := 5) (by omega)
  have d := mod_b (x := v.2.2.2) (m := 35) (by omega)
  unfold isSprF sprO
  simp only [Bool.and_eq_true, decide_eq_true_eq, inB_iff]
  omega
theorem seaF_mem {x : Season} {s : Spring} (h : s ∈ seaF x) : isSprF s = true := by
  unfold seaF at h
  split at h
  · rw [List.mem_singleton] at h; subst h; exact spr_ok _
  · obtain ⟨v, _, rfl⟩ := List.mem_map.1 h; exact spr_ok _
theorem seaF_len (x : Season) : 1 ≤ (seaF x).length ∧ (seaF x).length ≤ 3 := by
  unfold seaF
  split
  · simp
  · simp; omega
theorem sea_ok (x : Season) : checkF (seaS x) (seaF x) = 0 := by
  have hl := seaF_len x
  have h1 : (seaS x).1.length ≤ 5 := by simp [seaS]; omega
  have h2 : (seaS x).2.2.length ≤ 4 := by simp [seaS]; omega
  have a1 : (seaS x).1.all (inB 1 200) = true := by
    rw [List.all_eq_true]
    intro y hy
    obtain ⟨b, _, rfl⟩ := List.mem_map.1 hy
    have := mod_b (x := b) (m := 90) (by omega)
    rw [inB_iff]; omega
  have a2 : inB 0 10 (seaS x).2.1 = true := by
    have := mod_b (x := x.2.1) (m := 6) (by omega)
    rw [inB_iff]
    show 0 ≤ x.2.1 % 6 ∧ x.2.1 % 6 ≤ 10
    omega
  have a3 : (seaS x).2.2.all isLotF = true := by
    rw [List.all_eq_true]
    intro y hy
    obtain ⟨b, _, rfl⟩ := List.mem_map.1 hy
    have h1 := mod_b (x := b.1) (m := 40) (by omega)
    have h2 := mod_b (x := b.2) (m := 120) (by omega)
    unfold isLotF
    simp only [Bool.and_eq_true, inB_iff]
    omega
  unfold checkF
  rw [if_neg (by omega), if_neg (by rw [a1, a2, a3]; simp), if_neg (by rw [show inB 1 4 ((seaF x).length : Int) = true from inB_iff.2 (by omega)]; simp), if_neg]
  rw [show (seaF x).all isSprF = true from List.all_eq_true.2 fun s hs => seaF_mem hs]
  simp
end Go.Proofs.Fa
set_option maxRecDepth 100000
set_option maxHeartbeats 0
namespace Go.Proofs.Fa
open Go Go.GX Go.Proofs
variable [Inhabited BaseD]
theorem ok43 : CallsOK Try.prog (assoc glT) 43 f43_ct :=
  callsOK_mkM [] st_ok mp_ok it_ok mk_ok in_ok (AllOK.cons ok55 AllOK.nil) f43_an Try.func43 (by kernel_rfl) (by kernel_rfl) f43_ct fun x _ Q h => (v43 x Q).mp (p43 h)
theorem ok45 : CallsOK Try.prog (assoc glT) 45 f45_ct :=
  callsOK_mkM [] st_ok mp_ok it_ok mk_ok in_ok AllOK.nil no_an Try.func45 (by kernel_rfl) (by kernel_rfl) f45_ct fun f _ Q h => (v45 f Q).mp (p45 h)
end Go.Proofs.Fa
set_option linter.unusedVariables false
set_option maxRecDepth 100000
namespace Go.Proofs.Fa
open Go Go.GX Go.Proofs

def V54 (l : List Int) (Q : Int → Prop) : Prop := ∃ (I : Int → Int → Prop), ∃ (μ : Int → Int → Nat), I (0 : Int) (0 : Int) ∧ ∀ (x x_1 : Int), I x x_1 → List.length l ≤ (9223372036854775807 : Nat) → cnd (decide (x < (↑(List.length l) : Int))) ((0 : Int) ≤ x ∧ x < (↑(List.length l) : Int) ∧ I (IntKind.wrap IntKind.i64 (x + (1 : Int))) (IntKind.wrap IntKind.i64 (x_1 + List.getD l (Int.toNat x) (0 : Int))) ∧ μ (IntKind.wrap IntKind.i64 (x + (1 : Int))) (IntKind.wrap IntKind.i64 (x_1 + List.getD l (Int.toNat x) (0 : Int))) < μ x x_1) (Q x_1)
theorem v54 (l : List Int) (Q : Int → Prop) : V54 l Q = vcFunc (S0 [] []) f54_ct.own f54_ct.fresh f54_an Try.f54 (bodyOf Try.f54) f54_ct.A f54_ct.C f54_ct.R l () Q := by kernel_rfl

end Go.Proofs.Fa
set_option linter.unusedVariables false
namespace Go.Proofs.Fa
open Go Go.GX Go.Proofs

theorem p54 {l : List Int} {Q : Int → Prop} (h : f54_wp l () Q) : V54 l Q := by
  obtain ⟨⟨hn, hb⟩, h⟩ := h
  have key : ∀ k : Nat, k ≤ l.length → 0 ≤ (l.take k).sum ∧ (l.take k).sum ≤ (k : Int) * 1000000 := by
    intro k
    induction k with
    | zero => intro _; simp
    | succ k ih =>
      intro hk
      have h1 := ih (by omega)
      have h2 := hb _ (getD_mem (d := 0) (show k < l.length by omega))
      rw [take_snoc (by omega) 0, List.sum_append]
      simp only [List.sum_cons, List.sum_nil]
      push_cast
      omega
  refine forUpL (σ := Int) (n := l.length) (fun k => (l.take k).sum) rfl (fun k hk I μ hI hw => ?_) ?_
  · have h1 := key k (by omega)
    have h2 := hb _ (getD_mem (d := 0) hk)
    rw [take_snoc hk 0, List.sum_append] at hI
    simp only [List.sum_cons, List.sum_nil, Int.add_zero] at hI
    refine ⟨by omega, by omega, ?_⟩
    rw [hw]
    show I _ (IntKind.wrap .i64 ((l.take k).sum + l.getD k 0)) ∧ μ _ (IntKind.wrap .i64 ((l.take k).sum + l.getD k 0)) < _
    rw [wrapS (by omega) (by omega)]
    exact hI
  · show Q (l.take l.length).sum
    rw [List.take_length]
    exact h

structure TriOK (f : List Spring) (st : Int × List Int) : Prop where
  n : st.2.length = f.length
  b : ∀ i, i < f.length → 0 ≤ st.2.getD i 0 ∧ st.2.getD i 0 ≤ (f.getD i ((0, 0), 0, 0)).2.1
  l : 0 ≤ st.1 ∧ st.1 ≤ 400
end Go.Proofs.Fa
set_option linter.unusedVariables false
namespace Go.Proofs.Fa
open Go Go.GX Go.Proofs

def addF (a b : FansT) : FansT := (a.1 + b.1, a.2.1 + b.2.1, a.2.2.1 + b.2.2.1, a.2.2.2 + b.2.2.2)
theorem at4_add (a b : FansT) : ∀ {i : Nat}, i < 4 → at4 (addF a b) i = at4 a i + at4 b i
  | 0, _ => rfl
  | 1, _ => rfl
  | 2, _ => rfl
  | 3, _ => rfl
  | k + 4, h => absurd h (by omega)
theorem le4_mk {a b : FansT} (h : ∀ i, i < 4 → 0 ≤ at4 a i ∧ at4 a i ≤ at4 b i) : le4 a b := ⟨h 0 (by omega), h 1 (by omega), h 2 (by omega), h 3 (by omega)⟩
theorem F5_mk {a : FansT} (h : ∀ i, i < 4 → 0 ≤ at4 a i ∧ at4 a i ≤ 4) : F5 a := ⟨h 0 (by omega), h 1 (by omega), h 2 (by omega), h 3 (by omega)⟩
theorem F5_at {a : FansT} (h : F5 a) {i : Nat} (hi : i < 4) : 0 ≤ at4 a i ∧ at4 a i ≤ 4 := all4_at h hi
theorem can_snoc {b : BinT} {T : FansT} (hc : 0 ≤ costF b T) (hT : F5 T) : ∀ (A : List BinT) {F : FansT}, F5 F → F5 (addF F T) → 0 ≤ tval A F → 0 ≤ tval (A ++ [b]) (addF F T)
  | [], F, hF, hS, h => by
    have hno : GX.Fa.isNo F = true := by
      cases hh : GX.Fa.isNo F with
      | true => rfl
      | false =>
        have h : 0 ≤ (if GX.Fa.isNo F then (0 : Int) else -1) := h
        rw [hh] at h
        exact absurd h (by decide)
    show 0 ≤ tval [b] (addF F T)
    rw [can_cons hS]
    refine ⟨T, le4_mk fun i hi => ?_, ?_, hc⟩
    · have := F5_at hF hi
      have := F5_at hT hi
      rw [at4_add _ _ hi]; omega
    · have e : GX.Fa.less (addF F T) T = F := fan_ext fun i hi => by rw [at4_less _ _ hi, at4_add _ _ hi]; omega
      rw [e]
      show 0 ≤ (if GX.Fa.isNo F then (0 : Int) else -1)
      rw [hno]; decide
  | a :: A, F, hF, hS, h => by
    rw [List.cons_append, can_cons hS]
    rw [can_cons hF] at h
    obtain ⟨s, hle, ht, hca⟩ := h
    have h5 := le4_F5 hle hF
    refine ⟨s, le4_mk fun i hi => ?_, ?_, hca⟩
    · have := le4_at hle hi
      have := F5_at hT hi
      rw [at4_add _ _ hi]; omega
    · have e : GX.Fa.less (addF F T) s = addF (GX.Fa.less F s) T := fan_ext fun i hi => by
        rw [at4_less _ _ hi, at4_add _ _ hi, at4_add _ _ hi, at4_less _ _ hi]; omega
      rw [e]
      refine can_snoc hc hT A h5.2 (F5_mk fun i hi => ?_) ht
      have h1 := F5_at hS hi
      have h2 := F5_at h5.2 hi
      have h3 := F5_at hT hi
      have h4 := le4_at hle hi
      rw [at4_add _ _ hi] at h1 ⊢
      rw [at4_less _ _ hi] at h2 ⊢
      omega
theorem mnI_le (a b : Int) : mnI a b ≤ a ∧ mnI a b ≤ b ∧ (mnI a b = a ∨ mnI a b = b) := by
  unfold mnI; split <;> omega
def vecL (l : List Int) : FansT := tup4 fun i => l.getD i 0
def takesF (s : Store) (f : List Spring) (lots : Bool) : FansT := tup4 fun n => takeO s f lots n
structure TriT (s : Store) (f : List Spring) (lots : Bool) (i : Nat) (F : FansT) (st : Int × List Int) (T : FansT) : Prop where
  p : ∀ n, n < 4 → 0 ≤ at4 T n
  e : vecL st.2 = addF F T
  d : GX.Fa.dot T (takesF s f lots) = roomO s lots i - st.1
  w : lots = true → ∀ n, n < f.length → 1 ≤ at4 T n → (f.getD n ((0, 0), 0, 0)).2.2 ≤ (s.2.2.getD i (0, 0)).1
  z : supp f.length T
theorem can_zero : ∀ {bs : List BinT}, Bins0 bs → (∀ b, b ∈ bs → 0 ≤ b.2.2.1) → 0 ≤ tval bs NO4
  | [], _, _ => by show 0 ≤ (if GX.Fa.isNo NO4 then (0 : Int) else -1); decide
  | b :: r, hb, h => by
    obtain ⟨b1, b2, b3⟩ := hb.cons
    rw [can_cons NO4_5]
    refine ⟨NO4, NO4_le NO4_5, by rw [less_NO4]; exact can_zero b3 fun x hx => h x (by simp [hx]), (cost_fit (b2 _ NO4_5)).2 (decide_eq_true ?_)⟩
    have hd : GX.Fa.dot NO4 b.1 = 0 := by
      show (0 : Int) * b.1.1 + 0 * b.1.2.1 + 0 * b.1.2.2.1 + 0 * b.1.2.2.2 = 0
      simp
    rw [hd]; exact h b (by simp)
theorem en_zero {s : Store} {f : List Spring} (v : VOK s f) : enR s f (cH f) NO4 = true := by
  unfold enR
  simp only [Bool.and_eq_true, decide_eq_true_eq]
  refine ⟨can_zero (v.lvR v.cH) fun b hb => ?_, can_zero (v.ltR v.cH) fun b hb => ?_⟩
  · simp only [Fa.lvR, leavesR, List.mem_map] at hb
    obtain ⟨p, hp, rfl⟩ := hb
    have := v.lv p hp
    have := v.sm
    show 0 ≤ p + s.2.1
    omega
  · simp only [Fa.ltR, lotsR, List.mem_map] at hb
    obtain ⟨l, hl, rfl⟩ := hb
    exact (v.lt l hl).2.1
theorem most_props {s : Store} {f : List Spring} (v : VOK s f) : le4 (mostR s f) (wantF f) ∧ enR s f (cH f) (mostR s f) = true ∧ ∀ m, le4 m (wantF f) → enR s f (cH f) m = true → sumF m ≤ sumF (mostR s f) := by
  have hw : F5 (wantF f) := v.want4
  obtain ⟨b1, b2, b3⟩ := mostR_fold s f 625 (by omega)
  have b5 := most_F5 (s := s) (f := f) 625 (by omega)
  have e2 : (List.range 625).foldl (fun b (n : Nat) => mostStR s f b (atF n)) NO4 = mostR s f := rfl
  rw [e2] at b1 b2 b3 b5
  refine ⟨?_, ?_, fun m hm he => ?_⟩
  · rcases b1 with b1 | ⟨k, hk, b1, _, c2⟩
    · rw [b1]; exact NO4_le hw
    · rw [b1]; exact le4_of (atF_bnd (by omega) (by omega)) c2
  · rcases b1 with b1 | ⟨k, hk, b1, c1, _⟩
    · rw [b1]; exact en_zero v
    · rw [b1]; exact c1
  · have m5 := (le4_F5 hm hw).1
    have hi := idx_bnd m5
    have hA : atF (((idx5 m).toNat : Nat) : Int) = m := by rw [show (((idx5 m).toNat : Nat) : Int) = idx5 m by omega]; exact at_idx m5
    have := b3 (idx5 m).toNat (by omega) (by rw [hA]; exact he) (by rw [hA]; exact le4_ge hm)
    rw [hA] at this
    have hj := idx_bnd b5
    unfold keyF at this
    omega

theorem enough_eq {s : Store} {f : List Spring} (hc : checkF s f = 0) : (resEnough s f).1 = enR s f (cH f) (wantF f) ∧ (resEnough s f).2.2 = 0 := by
  have v : VOK s f := vok_of hc
  unfold resEnough
  rw [if_neg (by simp [hc]), en_eq v v.cH v.want4 (want_supp f)]
  exact ⟨rfl, rfl⟩
end Go.Proofs.Fa
set_option linter.unusedVariables false
namespace Go.Proofs.Fa
open Go Go.GX Go.Proofs

theorem getD_setG {α : Type} {l : List α} {k n : Nat} {v d : α} (hk : k < l.length) : (l.set k v).getD n d = if n = k then v else l.getD n d := by
  rw [List.getD_eq_getElem?_getD, List.getElem?_set, List.getD_eq_getElem?_getD]
  by_cases h : k = n
  · subst h; rw [if_pos rfl, if_pos hk, if_pos rfl]; rfl
  · rw [if_neg h, if_neg (fun e => h e.symm)]
theorem sum4 {n : Nat} (hn : n ≤ 4) (m : FansT) (hs : supp n m) (g : Nat → Int) (hg : ∀ i, i < n → g i = at4 m i) : (List.range n).foldl (fun a i => a + g i) 0 = sumF m := by
  have z : ∀ i, i < 4 → n ≤ i → at4 m i = 0 := hs
  match n, hn with
  | 0, _ =>
    have a := z 0 (by omega) (by omega)
    have b := z 1 (by omega) (by omega)
    have c := z 2 (by omega) (by omega)
    have d := z 3 (by omega) (by omega)
    rw [sumF_at, a, b, c, d]; rfl
  | 1, _ =>
    have a := hg 0 (by omega)
    have b := z 1 (by omega) (by omega)
    have c := z 2 (by omega) (by omega)
    have d := z 3 (by omega) (by omega)
    rw [sumF_at, b, c, d, ← a]
    show 0 + g 0 = _
    omega
  | 2, _ =>
    have a := hg 0 (by omega)
    have b := hg 1 (by omega)
    have c := z 2 (by omega) (by omega)
    have d := z 3 (by omega) (by omega)
    rw [sumF_at, c, d, ← a, ← b]
    show 0 + g 0 + g 1 = _
    omega
  | 3, _ =>
    have a := hg 0 (by omega)
    have b := hg 1 (by omega)
    have c := hg 2 (by omega)
    have d := z 3 (by omega) (by omega)
    rw [sumF_at, d, ← a, ← b, ← c]
    show 0 + g 0 + g 1 + g 2 = _
    omega
  | 4, _ =>
    have a := hg 0 (by omega)
    have b := hg 1 (by omega)
    have c := hg 2 (by omega)
    have d := hg 3 (by omega)
    rw [sumF_at, ← a, ← b, ← c, ← d]
    show 0 + g 0 + g 1 + g 2 + g 3 = _
    omega
theorem list_sum {l : List Int} : ∀ {n : Nat}, n ≤ l.length → (l.take n).sum = (List.range n).foldl (fun a i => a + l.getD i 0) 0
  | 0, _ => by simp
  | n + 1, h => by
    rw [take_snoc (by omega) 0, List.sum_append, foldl_succ, list_sum (by omega)]
    simp
end Go.Proofs.Fa
set_option maxRecDepth 100000
set_option maxHeartbeats 0
namespace Go.Proofs.Fa
open Go Go.GX Go.Proofs
variable [Inhabited BaseD]
theorem ok54 : CallsOK Try.prog (assoc glT) 54 f54_ct :=
  callsOK_mkM [] st_ok mp_ok it_ok mk_ok in_ok AllOK.nil f54_an Try.func54 (by kernel_rfl) (by kernel_rfl) f54_ct fun l _ Q h => (v54 l Q).mp (p54 h)
end Go.Proofs.Fa
set_option linter.unusedVariables false
namespace Go.Proofs.Fa
open Go Go.GX Go.Proofs

theorem check_of {s : Store} {f : List Spring} (v : VOK s f) : checkF s f = 0 := by
  have a1 : s.1.all (inB 1 200) = true := List.all_eq_true.2 fun y hy => inB_iff.2 (v.lv y hy)
  have a2 : inB 0 10 s.2.1 = true := inB_iff.2 v.sm
  have a3 : s.2.2.all isLotF = true := List.all_eq_true.2 fun y hy => by
    have := v.lt y hy
    unfold isLotF
    simp only [Bool.and_eq_true, inB_iff]
    exact this
  have a4 : inB 1 4 (f.length : Int) = true := inB_iff.2 ⟨by have := v.f1; omega, by have := v.f4; omega⟩
  have a5 : f.all isSprF = true := List.all_eq_true.2 fun y hy => by
    have := v.sp y hy
    unfold isSprF
    simp only [Bool.and_eq_true, decide_eq_true_eq, inB_iff]
    omega
  have n6 := v.n6
  have n5 := v.n5
  unfold checkF
  rw [if_neg (by omega), if_neg (by rw [a1, a2, a3]; simp), if_neg (by rw [a4]; simp), if_neg (by rw [a5]; simp)]
theorem cost_NO4 {t : FansT} {e hold fi : Int} (hh : 0 ≤ hold) (l : FansT) : 0 ≤ costF (t, l, hold, fi) NO4 := by
  have hd : ∀ t : FansT, GX.Fa.dot NO4 t = 0 := fun t => by
    show (0 : Int) * t.1 + 0 * t.2.1 + 0 * t.2.2.1 + 0 * t.2.2.2 = 0
    simp
  have hf : GX.Fa.fitsB (t, l, hold, fi) NO4 = true := decide_eq_true (by rw [hd]; exact hh)
  unfold costF
  rw [if_pos hf]
  unfold GX.Fa.lossV
  rw [hd]
  show (0 : Int) ≤ 0 + (if GX.Fa.isNo NO4 then 0 else fi)
  rw [if_pos (by rfl)]; omega
theorem NO4_at {i : Nat} (hi : i < 4) : at4 NO4 i = 0 := by
  match i, hi with
  | 0, _ => rfl
  | 1, _ => rfl
  | 2, _ => rfl
  | 3, _ => rfl
end Go.Proofs.Fa
set_option linter.unusedVariables false
set_option maxRecDepth 100000
namespace Go.Proofs.Fa
open Go Go.GX Go.Proofs

end Go.Proofs.Fa
set_option linter.unusedVariables false
namespace Go.Proofs.Fa
open Go Go.GX Go.Proofs

theorem v44o (s : Store) (Q : Store → Prop) : V44 s Q = vcFunc (S0 [] []) f44o_ct.own f44o_ct.fresh no_an Try.f44 (bodyOf Try.f44) f44o_ct.A f44o_ct.C f44o_ct.R s () Q := by kernel_rfl
theorem vok_leaves {s : Store} {f : List Spring} (v : VOK s f) {ls : List Int} (hn : ls.length ≤ 6) (hl : ∀ l, l ∈ ls → 1 ≤ l ∧ l ≤ 200) : VOK (ls, s.2.1, s.2.2) f :=
  ⟨hn, v.n5, hl, v.sm, v.lt, v.f1, v.f4, v.sp⟩
end Go.Proofs.Fa
set_option maxRecDepth 100000
set_option maxHeartbeats 0
namespace Go.Proofs.Fa
open Go Go.GX Go.Proofs
variable [Inhabited BaseD]
theorem ok44o : CallsOK Try.prog (assoc glT) 44 f44o_ct :=
  callsOK_mkM [] st_ok mp_ok it_ok mk_ok in_ok AllOK.nil no_an Try.func44 (by kernel_rfl) (by kernel_rfl) f44o_ct fun s _ Q h => (v44o s Q).mp (p44 h)
end Go.Proofs.Fa
set_option linter.unusedVariables false
namespace Go.Proofs.Fa
open Go Go.GX Go.Proofs

theorem most_list {s : Store} {f : List Spring} (v : VOK s f) : ∃ L, resMost s f = (L, 0) ∧ L.length ≤ 1000 ∧ (∀ z, z ∈ L → 0 ≤ z ∧ z ≤ 1000000) ∧ L.sum = sumF (mostR s f) := by
  have hc := check_of v
  have f4 := v.f4
  obtain ⟨mle, men, mmax⟩ := most_props v
  have m5 := (le4_F5 mle v.want4).1
  refine ⟨(l4 (mostR s f)).take f.length, by unfold resMost; rw [if_neg (by simp [hc]), most_eq v], ?_, fun z hz => ?_, ?_⟩
  · rw [List.length_take]; show min _ 4 ≤ 1000; omega
  · have hz := List.mem_of_mem_take hz
    revert hz
    generalize mostR s f = M at m5
    intro hz
    obtain ⟨b0, b1, b2, b3⟩ := m5
    simp only [l4, List.mem_cons, List.not_mem_nil, or_false] at hz
    rcases hz with rfl | rfl | rfl | rfl <;> omega
  · have hLl : ((l4 (mostR s f)).take f.length).length = f.length := by rw [List.length_take]; show min _ 4 = _; omega
    have e := list_sum (l := (l4 (mostR s f)).take f.length) (n := ((l4 (mostR s f)).take f.length).length) (Nat.le_refl _)
    rw [List.take_length, hLl] at e
    rw [e]
    refine sum4 (by omega) _ ((want_supp f).le mle).1 _ fun i hi => ?_
    rw [List.getD_eq_getElem?_getD, List.getElem?_take_of_lt hi, ← List.getD_eq_getElem?_getD]
    match i, (show i < 4 by omega) with
    | 0, _ => rfl
    | 1, _ => rfl
    | 2, _ => rfl
    | 3, _ => rfl
theorem most_tail {s s' : Store} {f f' : List Spring} (v : VOK s f) (v' : VOK s' f') (hw : wantF f' = wantF f) (hm : ∀ m, le4 m (wantF f) → enR s f (cH f) m = true → enR s' f' (cH f') m = true) {P R : Prop} (h : P) :
    cnd ((resMost s f).2 == 0) (cnd ((resMost s' f').2 == 0) (f54_wp (resMost s' f').1 () fun r => f54_wp (resMost s f).1 () fun r' => cnd (decide (r ≥ r')) P R) R) R := by
  obtain ⟨L, e1, e2, e3, e4⟩ := most_list v
  obtain ⟨L', e1', e2', e3', e4'⟩ := most_list v'
  rw [e1, e1']
  refine cndT (cndT ⟨⟨e2', e3'⟩, ⟨e2, e3⟩, cndD ?_ h⟩)
  show L'.sum ≥ L.sum
  rw [e4, e4']
  obtain ⟨mle, men, _⟩ := most_props v
  exact (most_props v').2.2 _ (by rw [hw]; exact mle) (hm _ mle men)

def setC (f : List Spring) (k : Nat) (c : Int × Int) : List Spring := f.set k (c, (f.getD k ((0, 0), 0, 0)).2.1, (f.getD k ((0, 0), 0, 0)).2.2)
theorem setC_len (f : List Spring) (k : Nat) (c : Int × Int) : (setC f k c).length = f.length := by simp [setC]
theorem setC_get {f : List Spring} {k : Nat} (hk : k < f.length) (c : Int × Int) (i : Nat) : (setC f k c).getD i ((0, 0), 0, 0) = if i = k then (c, (f.getD k ((0, 0), 0, 0)).2.1, (f.getD k ((0, 0), 0, 0)).2.2) else f.getD i ((0, 0), 0, 0) := getD_setG hk
theorem setC_2 {f : List Spring} {k : Nat} (hk : k < f.length) (c : Int × Int) (i : Nat) : ((setC f k c).getD i ((0, 0), 0, 0)).2 = (f.getD i ((0, 0), 0, 0)).2 := by
  rw [setC_get hk]
  by_cases h : i = k
  · subst h; rw [if_pos rfl]
  · rw [if_neg h]
theorem setC_ok {s : Store} {f : List Spring} (v : VOK s f) {k : Nat} (hk : k < f.length) {c : Int × Int} (hc : 2 ≤ c.1 ∧ c.1 ≤ c.2 ∧ c.2 ≤ 40) : VOK s (setC f k c) where
  n6 := v.n6
  n5 := v.n5
  lv := v.lv
  sm := v.sm
  lt := v.lt
  f1 := by rw [setC_len]; exact v.f1
  f4 := by rw [setC_len]; exact v.f4
  sp := fun x hx => by
    obtain ⟨j, hj, rfl⟩ := List.mem_iff_getElem.1 hx
    have hj' : j < f.length := by rw [setC_len] at hj; exact hj
    have e := setC_get hk c j
    rw [getD_lt hj] at e
    rw [e]
    have h1 := v.getS hj'
    have h2 := v.getS hk
    split
    · exact ⟨hc, h2.2⟩
    · exact h1
theorem setC_want {f : List Spring} {k : Nat} (hk : k < f.length) (c : Int × Int) : wantF (setC f k c) = wantF f := fan_ext fun i hi => by
  rw [want_at hi, want_at hi, setC_len, setC_2 hk]
theorem setC_cH {f : List Spring} {k : Nat} (hk : k < f.length) (h4 : f.length ≤ 4) (c : Int × Int) : cH (setC f k c) = put4 (cH f) k c.2 := fan_ext fun i hi => by
  rw [cH_at hi, setC_len, at4_put hi, cH_at hi, setC_get hk]
  by_cases h : i = k
  · subst h; rw [if_pos hk, if_pos rfl, if_pos rfl]
  · rw [if_neg h, if_neg h]
theorem setC_lt {s : Store} {f : List Spring} {k : Nat} (hk : k < f.length) (c : Int × Int) (cc : FansT) : Fa.ltR s (setC f k c) cc = Fa.ltR s f cc := by
  unfold Fa.ltR lotsR
  refine List.map_congr_left fun l _ => ?_
  unfold lotR
  simp only [setC_len, setC_2 hk]
theorem rise_spec (s : Store) (f : List Spring) (k : Nat) : ∀ N : Nat, (∃ n : Nat, 2 ≤ n ∧ n ≤ N ∧ riseGo s f k N = ((n : Int), 0) ∧ riseOK s f k n = true ∧ ∀ m : Nat, n < m → m ≤ N → riseOK s f k m = false) ∨ (riseGo s f k N = (0, 9) ∧ ∀ m : Nat, 2 ≤ m → m ≤ N → riseOK s f k m = false)
  | 0 => .inr ⟨rfl, fun m h1 h2 => by omega⟩
  | N + 1 => by
    have ih := rise_spec s f k N
    rw [riseGo]
    by_cases h2 : N + 1 < 2
    · rw [if_pos h2]
      exact .inr ⟨rfl, fun m h1 h2 => by omega⟩
    · rw [if_neg h2]
      by_cases ho : riseOK s f k ((N + 1 : Nat) : Int) = true
      · rw [if_pos ho]
        exact .inl ⟨N + 1, by omega, by omega, rfl, ho, fun m h1 h2 => by omega⟩
      · rw [if_neg ho]
        rcases ih with ⟨n, a1, a2, a3, a4, a5⟩ | ⟨a1, a2⟩
        · refine .inl ⟨n, a1, by omega, a3, a4, fun m h1 h3 => ?_⟩
          by_cases e : m = N + 1
          · subst e; exact Bool.eq_false_iff.2 ho
          · exact a5 m h1 (by omega)
        · refine .inr ⟨a1, fun m h1 h3 => ?_⟩
          by_cases e : m = N + 1
          · subst e; exact Bool.eq_false_iff.2 ho
          · exact a2 m h1 (by omega)
theorem enough_rise {s : Store} {f : List Spring} (v : VOK s f) {k : Nat} (hk : k < f.length) {c : Int} (hc : 2 ≤ c ∧ c ≤ 40) : (resEnough s (setC f k (c, c))).1 = riseOK s f k c ∧ (resEnough s (setC f k (c, c))).2.2 = 0 := by
  have v' := setC_ok v hk (c := (c, c)) ⟨hc.1, Int.le_refl _, hc.2⟩
  have e := enough_eq (check_of v')
  refine ⟨?_, e.2⟩
  rw [e.1, setC_want hk, setC_cH hk v.f4]
  unfold riseOK
  rw [en_eq v (put_40 v.cH (by omega)) v.want4 (want_supp f)]
  unfold enR
  rw [setC_lt hk]

theorem kind_count {s : Store} {f : List Spring} (v : VOK s f) {k : Nat} (hk : k < f.length) {c : Int × Int} (hc : 2 ≤ c.1 ∧ c.1 ≤ c.2 ∧ c.2 ≤ 40) (hle : c.2 ≤ (f.getD k ((0, 0), 0, 0)).1.2) {m : FansT} (hm : F5 m) (h : enR s f (cH f) m = true) : enR s (setC f k c) (cH (setC f k c)) m = true := by
  have v' := setC_ok v hk hc
  have hcc : ∀ j, j < 4 → at4 (cH (setC f k c)) j ≤ at4 (cH f) j := fun j hj => by
    rw [setC_cH hk v.f4, at4_put hj]
    by_cases e : j = k
    · subst e; rw [if_pos rfl, cH_at hj, if_pos hk]; exact hle
    · rw [if_neg e]; exact Int.le_refl _
  unfold enR at h ⊢
  simp only [Bool.and_eq_true, decide_eq_true_eq] at h ⊢
  refine ⟨can_mono (v.lvR v.cH) (v'.lvR v'.cH) (by simp [Fa.lvR, leavesR]) (fun i hi t ht hf => ?_) hm h.1, can_mono (v.ltR v.cH) (v'.ltR v'.cH) (by simp [Fa.ltR, lotsR]) (fun i hi t ht hf => ?_) hm h.2⟩
  · have hi : i < s.1.length := by simpa [Fa.lvR, leavesR] using hi
    unfold Fa.lvR at hf ⊢
    rw [leaves_get hi] at hf ⊢
    have hf : GX.Fa.dot t (tup4 fun j => at4 (cH f) j + s.2.1) ≤ s.1.getD i 0 + s.2.1 := of_decide_eq_true hf
    have := dot_mono ht (g := fun j => at4 (cH (setC f k c)) j + s.2.1) (g' := fun j => at4 (cH f) j + s.2.1) (fun j hj => by have := hcc j hj; omega)
    exact decide_eq_true (Int.le_trans this hf)
  · have hi : i < s.2.2.length := by simpa [Fa.ltR, lotsR] using hi
    rw [setC_lt hk]
    unfold Fa.ltR at hf ⊢
    rw [lots_get hi] at hf ⊢
    have hf := of_decide_eq_true hf
    refine decide_eq_true (Int.le_trans (dot_mono ht fun j hj => ?_) hf)
    have := hcc j hj
    split
    · split
      · exact Int.le_refl _
      · exact this
    · exact Int.le_refl _
theorem kind_store {s s' : Store} {f : List Spring} (v : VOK s f) (v' : VOK s' f) {m : FansT} (hm : F5 m) (hl : 0 ≤ tval (Fa.lvR s (cH f) 0 0) m → 0 ≤ tval (Fa.lvR s' (cH f) 0 0) m) (ht : 0 ≤ tval (Fa.ltR s f (cH f)) m → 0 ≤ tval (Fa.ltR s' f (cH f)) m) (h : enR s f (cH f) m = true) : enR s' f (cH f) m = true := by
  unfold enR at h ⊢
  simp only [Bool.and_eq_true, decide_eq_true_eq] at h ⊢
  exact ⟨hl h.1, ht h.2⟩
theorem kind_leaf {s : Store} {f : List Spring} (v : VOK s f) {ls : List Int} (v' : VOK (ls, s.2.1, s.2.2) f) (hn : ls.length = s.1.length) (hle : ∀ i, i < s.1.length → s.1.getD i 0 ≤ ls.getD i 0) {m : FansT} (hm : F5 m) : 0 ≤ tval (Fa.lvR s (cH f) 0 0) m → 0 ≤ tval (Fa.lvR (ls, s.2.1, s.2.2) (cH f) 0 0) m :=
  can_mono (v.lvR v.cH) (v'.lvR v'.cH) (by simp [Fa.lvR, leavesR, hn]) (fun i hi t ht hf => by
    have hi : i < s.1.length := by simpa [Fa.lvR, leavesR] using hi
    unfold Fa.lvR at hf ⊢
    rw [leaves_get hi] at hf
    rw [leaves_get (show i < ls.length by omega)]
    have hf : GX.Fa.dot t (tup4 fun j => at4 (cH f) j + s.2.1) ≤ s.1.getD i 0 + s.2.1 := of_decide_eq_true hf
    have := hle i hi
    exact decide_eq_true (show GX.Fa.dot t (tup4 fun j => at4 (cH f) j + s.2.1) ≤ ls.getD i 0 + s.2.1 by omega)) hm
theorem dot_seam (t c : FansT) (seam : Int) : GX.Fa.dot t (tup4 fun j => at4 c j + seam) = GX.Fa.dot t c + sumF t * seam := by
  have hmul : ∀ a b c : Int, a * (b + c) = a * b + a * c := Int.mul_add
  rw [dot_at, dot_at, sumF_at, Int.add_mul, Int.add_mul, Int.add_mul]
  rw [at4_tup _ (show 0 < 4 by omega), at4_tup _ (show 1 < 4 by omega), at4_tup _ (show 2 < 4 by omega), at4_tup _ (show 3 < 4 by omega)]
  rw [hmul, hmul, hmul, hmul]
  omega
theorem kind_seam {s : Store} {f : List Spring} (v : VOK s f) {q : Int} (hq : 0 ≤ q ∧ q ≤ s.2.1) (v' : VOK (s.1, q, s.2.2) f) {m : FansT} (hm : F5 m) : 0 ≤ tval (Fa.lvR s (cH f) 0 0) m → 0 ≤ tval (Fa.lvR (s.1, q, s.2.2) (cH f) 0 0) m :=
  can_mono (v.lvR v.cH) (v'.lvR v'.cH) (by simp [Fa.lvR, leavesR]) (fun i hi t ht hf => by
    have hi : i < s.1.length := by simpa [Fa.lvR, leavesR] using hi
    unfold Fa.lvR at hf ⊢
    rw [leaves_get hi] at hf ⊢
    have hf : GX.Fa.dot t (tup4 fun j => at4 (cH f) j + s.2.1) ≤ s.1.getD i 0 + s.2.1 := of_decide_eq_true hf
    refine decide_eq_true (show GX.Fa.dot t (tup4 fun j => at4 (cH f) j + q) ≤ s.1.getD i 0 + q from ?_)
    rw [dot_seam] at hf ⊢
    have hlv := v.lv _ (getD_mem (d := 0) hi)
    rcases isNo_sum ht with ⟨g1, g2⟩ | ⟨g1, g2⟩
    · have hd : GX.Fa.dot t (cH f) = 0 := by
        simp only [GX.Fa.isNo, Bool.and_eq_true, beq_iff_eq] at g1
        unfold GX.Fa.dot
        rw [g1.1, g1.2.1, g1.2.2.1, g1.2.2.2]
        simp
      rw [hd, g2, Int.zero_mul]; omega
    · have h1 : sumF t * s.2.1 = sumF t * q + sumF t * (s.2.1 - q) := by rw [← Int.mul_add]; congr 1; omega
      have h2 : 1 * (s.2.1 - q) ≤ sumF t * (s.2.1 - q) := Int.mul_le_mul_of_nonneg_right g2 (by omega)
      omega) hm
theorem kind_lot {s : Store} {f : List Spring} (v : VOK s f) {l : Lot} (v' : VOK (s.1, s.2.1, s.2.2 ++ [l]) f) {m : FansT} (hm : F5 m) : 0 ≤ tval (Fa.ltR s f (cH f)) m → 0 ≤ tval (Fa.ltR (s.1, s.2.1, s.2.2 ++ [l]) f (cH f)) m := fun h => by
  have e : Fa.ltR (s.1, s.2.1, s.2.2 ++ [l]) f (cH f) = Fa.ltR s f (cH f) ++ [lotR f (cH f) l] := by
    unfold Fa.ltR lotsR
    rw [List.map_append]; rfl
  have hl := (v'.lt l (by simp)).2
  have hz : addF m NO4 = m := fan_ext fun i hi => by rw [at4_add _ _ hi, NO4_at hi, Int.add_zero]
  have := can_snoc (b := lotR f (cH f) l) (T := NO4) (cost_NO4 (e := 0) hl.1 _) NO4_5 (Fa.ltR s f (cH f)) hm (by rw [hz]; exact hm) h
  rw [hz] at this
  rw [e]; exact this
end Go.Proofs.Fa
set_option linter.unusedVariables false
set_option maxRecDepth 100000
namespace Go.Proofs.Fa
open Go Go.GX Go.Proofs

def V15 (x : List Int × Int × List (Int × Int) × List FansT) (a : Int) (k : Int) (Q : Bool → Prop) : Prop := f43_wp (x.1, x.2.1, x.2.2.1, x.2.2.2) () fun (r : (List Int × Int × List (Int × Int)) × List Spring × Unit) ↦ List.length r.2.1 ≤ (9223372036854775807 : Nat) → (↑(List.length r.2.1) : Int) ≠ (0 : Int) ∧ f44_wp (r.1.1, r.1.2.1, r.1.2.2) () fun (r_1 : List Int × Int × List (Int × Int)) ↦ f45_wp r.2.1 () fun (r_2 : List Spring) ↦ f41_wp ((r_1.1, r_1.2.1, r_1.2.2), r_2, Int.tmod (IntKind.wrap IntKind.i64 a) (↑(List.length r.2.1) : Int), ()) () fun (r_3 : Int × Int × Unit) ↦ ∃ (I : Bool → Prop), cnd (r_3.2.1 != (0 : Int)) (cnd (r_3.2.1 != (9 : Int)) (I true) (cnd (r_3.1 != (0 : Int)) (I true) (cnd (r_3.2.1 == (0 : Int)) (cnd (decide (r_3.1 < (2 : Int))) (I true) (I (decide (r_3.1 > (40 : Int))))) (I false)))) (cnd (r_3.2.1 == (0 : Int)) (cnd (decide (r_3.1 < (2 : Int))) (I true) (I (decide (r_3.1 > (40 : Int))))) (I false)) ∧ ∀ (x : Bool), I x → cnd x (Q false) (∃ (I : Int → Prop), ∃ (μ : Int → Nat), I (0 : Int) ∧ ∀ (x : Int), I x → cnd (decide (x < (2 : Int))) (∃ (I_1 : Int → Prop), cnd (r_3.2.1 != (0 : Int)) (I_1 (2 : Int)) (I_1 (IntKind.wrap IntKind.i64 (r_3.1 + x))) ∧ ∀ (x_1 : Int), I_1 x_1 → cnd (decide (x_1 > (40 : Int))) (I (IntKind.wrap IntKind.i64 (x + (1 : Int))) ∧ μ (IntKind.wrap IntKind.i64 (x + (1 : Int))) < μ x) (f45_wp r.2.1 () fun (r_4 : List Spring) ↦ f55_wp (x_1, x_1, ()) () fun (r_5 : Int × Int) ↦ (0 : Int) ≤ Int.tmod (IntKind.wrap IntKind.i64 a) (↑(List.length r.2.1) : Int) ∧ Int.tmod (IntKind.wrap IntKind.i64 a) (↑(List.length r.2.1) : Int) < (↑(List.length r_4) : Int) ∧ f44_wp (r.1.1, r.1.2.1, r.1.2.2) () fun (r_6 : List Int × Int × List (Int × Int)) ↦ f49_wp ((r_6.1, r_6.2.1, r_6.2.2), List.set r_4 (Int.toNat (Int.tmod (IntKind.wrap IntKind.i64 a) (↑(List.length r.2.1) : Int))) ((r_5.1, r_5.2), Prod.fst (Prod.snd (List.getD r_4 (Int.toNat (Int.tmod (IntKind.wrap IntKind.i64 a) (↑(List.length r.2.1) : Int))) (((0 : Int), (0 : Int)), (0 : Int), (0 : Int)))), Prod.snd (Prod.snd (List.getD r_4 (Int.toNat (Int.tmod (IntKind.wrap IntKind.i64 a) (↑(List.length r.2.1) : Int))) (((0 : Int), (0 : Int)), (0 : Int), (0 : Int))))), ()) () fun (r : Bool × Bool × Int × Unit) ↦ ∃ (I_2 : Bool → Prop), cnd (r.2.2.1 != (0 : Int)) (I_2 true) (cnd (r_3.2.1 == (0 : Int)) (I_2 !r.1 == (x == (0 : Int))) (I_2 !r.1 == false)) ∧ ∀ (x_2 : Bool), I_2 x_2 → cnd x_2 (Q false) (I (IntKind.wrap IntKind.i64 (x + (1 : Int))) ∧ μ (IntKind.wrap IntKind.i64 (x + (1 : Int))) < μ x))) (f44_wp (r.1.1, r.1.2.1, r.1.2.2) () fun (r_4 : List Int × Int × List (Int × Int)) ↦ f45_wp r.2.1 () fun (r_5 : List Spring) ↦ f50_wp ((r_4.1, r_4.2.1, r_4.2.2), r_5, ()) () fun (r_6 : List Int × Int × Unit) ↦ f44_wp (r.1.1, r.1.2.1, r.1.2.2) () fun (r_7 : List Int × Int × List (Int × Int)) ↦ f45_wp r.2.1 () fun (r_8 : List Spring) ↦ (4 : Int) ≠ (0 : Int) ∧ cnd (Int.tmod k (4 : Int) == (0 : Int)) ((0 : Int) ≤ Int.tmod (IntKind.wrap IntKind.i64 a) (↑(List.length r.2.1) : Int) ∧ Int.tmod (IntKind.wrap IntKind.i64 a) (↑(List.length r.2.1) : Int) < (↑(List.length r.2.1) : Int) ∧ (0 : Int) ≤ Int.tmod (IntKind.wrap IntKind.i64 a) (↑(List.length r.2.1) : Int) ∧ Int.tmod (IntKind.wrap IntKind.i64 a) (↑(List.length r.2.1) : Int) < (↑(List.length r.2.1) : Int) ∧ ∃ (r_9 : Int × Int), (f55_wp (mxI (2 : Int) (IntKind.wrap IntKind.i64 (Prod.fst (Prod.fst (List.getD r.2.1 (Int.toNat (Int.tmod (IntKind.wrap IntKind.i64 a) (↑(List.length r.2.1) : Int))) (((0 : Int), (0 : Int)), (0 : Int), (0 : Int)))) - (3 : Int))), mxI (2 : Int) (IntKind.wrap IntKind.i64 (Prod.snd (Prod.fst (List.getD r.2.1 (Int.toNat (Int.tmod (IntKind.wrap IntKind.i64 a) (↑(List.length r.2.1) : Int))) (((0 : Int), (0 : Int)), (0 : Int), (0 : Int)))) - (3 : Int))), ()) () fun (r' : Int × Int) ↦ r' = r_9) ∧ (0 : Int) ≤ Int.tmod (IntKind.wrap IntKind.i64 a) (↑(List.length r.2.1) : Int) ∧ Int.tmod (IntKind.wrap IntKind.i64 a) (↑(List.length r.2.1) : Int) < (↑(List.length r_8) : Int) ∧ f50_wp ((r_7.1, r_7.2.1, r_7.2.2), List.set r_8 (Int.toNat (Int.tmod (IntKind.wrap IntKind.i64 a) (↑(List.length r.2.1) : Int))) ((r_9.1, r_9.2), Prod.fst (Prod.snd (List.getD r_8 (Int.toNat (Int.tmod (IntKind.wrap IntKind.i64 a) (↑(List.length r.2.1) : Int))) (((0 : Int), (0 : Int)), (0 : Int), (0 : Int)))), Prod.snd (Prod.snd (List.getD r_8 (Int.toNat (Int.tmod (IntKind.wrap IntKind.i64 a) (↑(List.length r.2.1) : Int))) (((0 : Int), (0 : Int)), (0 : Int), (0 : Int))))), ()) () fun (r : List Int × Int × Unit) ↦ cnd (r_6.2.1 == (0 : Int)) (cnd (r.2.1 == (0 : Int)) (f54_wp r.1 () fun (r : Int) ↦ f54_wp r_6.1 () fun (r_10 : Int) ↦ cnd (decide (r ≥ r_10)) (f17_wp () () fun (r : Bool) ↦ Q r) (Q false)) (Q false)) (Q false)) (cnd (Int.tmod k (4 : Int) == (1 : Int)) (List.length r_7.1 ≤ (9223372036854775807 : Nat) → cnd (decide ((↑(List.length r_7.1) : Int) > (0 : Int))) ((↑(List.length r_7.1) : Int) ≠ (0 : Int) ∧ (0 : Int) ≤ Int.tmod (IntKind.wrap IntKind.i64 a) (↑(List.length r_7.1) : Int) ∧ Int.tmod (IntKind.wrap IntKind.i64 a) (↑(List.length r_7.1) : Int) < (↑(List.length r_7.1) : Int) ∧ (0 : Int) ≤ Int.tmod (IntKind.wrap IntKind.i64 a) (↑(List.length r_7.1) : Int) ∧ Int.tmod (IntKind.wrap IntKind.i64 a) (↑(List.length r_7.1) : Int) < (↑(List.length r_7.1) : Int) ∧ f50_wp ((List.set r_7.1 (Int.toNat (Int.tmod (IntKind.wrap IntKind.i64 a) (↑(List.length r_7.1) : Int))) (IntKind.wrap IntKind.i64 (List.getD r_7.1 (Int.toNat (Int.tmod (IntKind.wrap IntKind.i64 a) (↑(List.length r_7.1) : Int))) (0 : Int) + (7 : Int))), r_7.2.1, r_7.2.2), r_8, ()) () fun (r : List Int × Int × Unit) ↦ cnd (r_6.2.1 == (0 : Int)) (cnd (r.2.1 == (0 : Int)) (f54_wp r.1 () fun (r : Int) ↦ f54_wp r_6.1 () fun (r_9 : Int) ↦ cnd (decide (r ≥ r_9)) (f17_wp () () fun (r : Bool) ↦ Q r) (Q false)) (Q false)) (Q false)) (f50_wp ((r_7.1, r_7.2.1, r_7.2.2), r_8, ()) () fun (r : List Int × Int × Unit) ↦ cnd (r_6.2.1 == (0 : Int)) (cnd (r.2.1 == (0 : Int)) (f54_wp r.1 () fun (r : Int) ↦ f54_wp r_6.1 () fun (r_9 : Int) ↦ cnd (decide (r ≥ r_9)) (f17_wp () () fun (r : Bool) ↦ Q r) (Q false)) (Q false)) (Q false))) (cnd (Int.tmod k (4 : Int) == (2 : Int)) ((2 : Int) ≠ (0 : Int) ∧ f50_wp ((r_7.1, IntKind.wrap IntKind.i64 (Int.tdiv r.1.2.1 (2 : Int)), r_7.2.2), r_8, ()) () fun (r : List Int × Int × Unit) ↦ cnd (r_6.2.1 == (0 : Int)) (cnd (r.2.1 == (0 : Int)) (f54_wp r.1 () fun (r : Int) ↦ f54_wp r_6.1 () fun (r_9 : Int) ↦ cnd (decide (r ≥ r_9)) (f17_wp () () fun (r : Bool) ↦ Q r) (Q false)) (Q false)) (Q false)) (cnd (Int.tmod k (4 : Int) == (3 : Int)) ((50 : Int) ≠ (0 : Int) ∧ (List.length r_7.2.2 + List.length ((IntKind.wrap IntKind.i64 ((1 : Int) + Int.tmod (IntKind.wrap IntKind.i64 a) (50 : Int)), IntKind.wrap IntKind.i64 a) :: ([] : List (Int × Int)))) * (16 : Nat) ≤ (140737488355328 : Nat) ∧ (List.length (r_7.2.2 ++ (IntKind.wrap IntKind.i64 ((1 : Int) + Int.tmod (IntKind.wrap IntKind.i64 a) (50 : Int)), IntKind.wrap IntKind.i64 a) :: ([] : List (Int × Int))) ≤ (9223372036854775807 : Nat) → (0 : Int) ≤ IntKind.wrap IntKind.i64 ((↑(List.length (r_7.2.2 ++ (IntKind.wrap IntKind.i64 ((1 : Int) + Int.tmod (IntKind.wrap IntKind.i64 a) (50 : Int)), IntKind.wrap IntKind.i64 a) :: ([] : List (Int × Int)))) : Int) - (1 : Int)) ∧ IntKind.wrap IntKind.i64 ((↑(List.length (r_7.2.2 ++ (IntKind.wrap IntKind.i64 ((1 : Int) + Int.tmod (IntKind.wrap IntKind.i64 a) (50 : Int)), IntKind.wrap IntKind.i64 a) :: ([] : List (Int × Int)))) : Int) - (1 : Int)) < (↑(List.length (r_7.2.2 ++ (IntKind.wrap IntKind.i64 ((1 : Int) + Int.tmod (IntKind.wrap IntKind.i64 a) (50 : Int)), IntKind.wrap IntKind.i64 a) :: ([] : List (Int × Int)))) : Int) ∧ f50_wp ((r_7.1, r_7.2.1, List.set (r_7.2.2 ++ (IntKind.wrap IntKind.i64 ((1 : Int) + Int.tmod (IntKind.wrap IntKind.i64 a) (50 : Int)), IntKind.wrap IntKind.i64 a) :: ([] : List (Int × Int))) (Int.toNat (IntKind.wrap IntKind.i64 ((↑(List.length (r_7.2.2 ++ (IntKind.wrap IntKind.i64 ((1 : Int) + Int.tmod (IntKind.wrap IntKind.i64 a) (50 : Int)), IntKind.wrap IntKind.i64 a) :: ([] : List (Int × Int)))) : Int) - (1 : Int)))) (Prod.fst (List.getD (r_7.2.2 ++ (IntKind.wrap IntKind.i64 ((1 : Int) + Int.tmod (IntKind.wrap IntKind.i64 a) (50 : Int)), IntKind.wrap IntKind.i64 a) :: ([] : List (Int × Int))) (Int.toNat (IntKind.wrap IntKind.i64 ((↑(List.length (r_7.2.2 ++ (IntKind.wrap IntKind.i64 ((1 : Int) + Int.tmod (IntKind.wrap IntKind.i64 a) (50 : Int)), IntKind.wrap IntKind.i64 a) :: ([] : List (Int × Int)))) : Int) - (1 : Int)))) ((0 : Int), (0 : Int))), mnI (200 : Int) (IntKind.wrap IntKind.i64 a))), r_8, ()) () fun (r : List Int × Int × Unit) ↦ cnd (r_6.2.1 == (0 : Int)) (cnd (r.2.1 == (0 : Int)) (f54_wp r.1 () fun (r : Int) ↦ f54_wp r_6.1 () fun (r_9 : Int) ↦ cnd (decide (r ≥ r_9)) (f17_wp () () fun (r : Bool) ↦ Q r) (Q false)) (Q false)) (Q false))) (f50_wp ((r_7.1, r_7.2.1, r_7.2.2), r_8, ()) () fun (r : List Int × Int × Unit) ↦ cnd (r_6.2.1 == (0 : Int)) (cnd (r.2.1 == (0 : Int)) (f54_wp r.1 () fun (r : Int) ↦ f54_wp r_6.1 () fun (r_9 : Int) ↦ cnd (decide (r ≥ r_9)) (f17_wp () () fun (r : Bool) ↦ Q r) (Q false)) (Q false)) (Q false)))))))
theorem v15 (x : List Int × Int × List (Int × Int) × List FansT) (a : Int) (k : Int) (Q : Bool → Prop) : V15 x a k Q = vcFunc (S0 [(43, f43_ct), (44, f44o_ct), (45, f45_ct), (41, f41_ct), (55, f55_ct), (49, f49_ct), (50, f50_ct), (54, f54_ct), (17, f17_ct)] []) f15_ct.own f15_ct.fresh f15_an Try.f15 (bodyOf Try.f15) f15_ct.A f15_ct.C f15_ct.R (x, a, k, ()) () Q := by kernel_rfl

end Go.Proofs.Fa
set_option linter.unusedVariables false
namespace Go.Proofs.Fa
open Go Go.GX Go.Proofs

theorem tmod_len {a : Int} (ha : byteB a) {n : Nat} (hn : 0 < n) : Int.tmod (IntKind.wrap .i64 a) (n : Int) = ((a.toNat % n : Nat) : Int) := by
  rw [wrapS (by have := ha.1; omega) (by have := ha.2; omega), Int.tmod_eq_emod_of_nonneg ha.1, Int.natCast_emod, Int.toNat_of_nonneg ha.1]
theorem p15 {x : Season} {a kd : Int} {Q : Bool → Prop} (h : f15_wp (x, a, kd, ()) () Q) : V15 x a kd Q := by
  obtain ⟨⟨okx, hab, hkb⟩, h⟩ := h
  have okx : SeaOK x := okx
  have hab : byteB a := hab
  have h : Q true := h
  have hsl := seaF_len x
  obtain ⟨f, hf⟩ : ∃ f, f = seaF x := ⟨_, rfl⟩
  obtain ⟨s, hs⟩ : ∃ s, s = seaS x := ⟨_, rfl⟩
  have hleaf : ∀ l, l ∈ s.1 → l ≤ 99 := fun l hl => by
    rw [hs] at hl
    obtain ⟨b, _, rfl⟩ := List.mem_map.1 hl
    have := mod_b (x := b) (m := 90) (by omega)
    omega
  have hlot4 : s.2.2.length ≤ 4 := by rw [hs]; simp [seaS]; omega
  have v : VOK s f := by rw [hs, hf]; exact vok_of (sea_ok x)
  rw [← hf] at hsl
  have hc := check_of v
  have n1 : s.1.length ≤ 1000 ∧ s.2.2.length ≤ 1000 := ⟨by have := v.n6; omega, by have := v.n5; omega⟩
  have n2 : f.length ≤ 1000 := by omega
  have f1 := v.f1
  have f4 := v.f4
  have sm := v.sm
  obtain ⟨K, hK⟩ : ∃ K, K = a.toNat % f.length := ⟨_, rfl⟩
  have hKl : K < f.length := by rw [hK]; exact Nat.mod_lt _ (by omega)
  have eK : Int.tmod (IntKind.wrap .i64 a) (f.length : Int) = (K : Int) := by rw [tmod_len hab (by omega), hK]
  have hsK := v.getS hKl
  have eR : resRise s f K = riseGo s f K 40 := by
    unfold resRise
    rw [if_neg (by simp [hc]), if_neg (by rw [inB_iff.2 ⟨by omega, by omega⟩]; simp), Int.toNat_natCast]
  obtain ⟨n, e, hr, hcase⟩ : ∃ n e : Int, resRise s f K = (n, e) ∧ ((e = 0 ∧ 2 ≤ n ∧ n ≤ 40 ∧ riseOK s f K n = true ∧ (n + 1 ≤ 40 → riseOK s f K (n + 1) = false)) ∨ (e = 9 ∧ n = 0 ∧ riseOK s f K 2 = false)) := by
    rcases rise_spec s f K 40 with ⟨n, a1, a2, a3, a4, a5⟩ | ⟨a1, a2⟩
    · exact ⟨n, 0, eR.trans a3, .inl ⟨rfl, by omega, by omega, a4, fun hle => by have := a5 (n + 1) (by omega) (by omega); simpa using this⟩⟩
    · exact ⟨0, 9, eR.trans a1, .inr ⟨rfl, rfl, a2 2 (by omega) (by omega)⟩⟩
  have hr1 : (resRise s f K).1 = n := by rw [hr]
  have hr2 : (resRise s f K).2 = e := by rw [hr]
  refine ⟨okx, ?_⟩
  rw [← hf, ← hs]
  refine fun _ => ⟨show (f.length : Int) ≠ 0 by omega, n1, n2, ?_⟩
  show ∃ I : Bool → Prop, cnd ((resRise s f (Int.tmod (IntKind.wrap .i64 a) (f.length : Int))).2 != 0) (cnd ((resRise s f (Int.tmod (IntKind.wrap .i64 a) (f.length : Int))).2 != 9) (I true) (cnd ((resRise s f (Int.tmod (IntKind.wrap .i64 a) (f.length : Int))).1 != 0) (I true) (cnd ((resRise s f (Int.tmod (IntKind.wrap .i64 a) (f.length : Int))).2 == 0) (cnd (decide ((resRise s f (Int.tmod (IntKind.wrap .i64 a) (f.length : Int))).1 < 2)) (I true) (I (decide ((resRise s f (Int.tmod (IntKind.wrap .i64 a) (f.length : Int))).1 > 40)))) (I false))))
    (cnd ((resRise s f (Int.tmod (IntKind.wrap .i64 a) (f.length : Int))).2 == 0) (cnd (decide ((resRise s f (Int.tmod (IntKind.wrap .i64 a) (f.length : Int))).1 < 2)) (I true) (I (decide ((resRise s f (Int.tmod (IntKind.wrap .i64 a) (f.length : Int))).1 > 40)))) (I false)) ∧ _
  rw [eK, hr1, hr2]
  refine ⟨fun b => b = false, ?_, ?_⟩
  · rcases hcase with ⟨rfl, c1, c2, _, _⟩ | ⟨rfl, rfl, _⟩
    · rw [decide_eq_false (show ¬ n < 2 by omega), decide_eq_false (show ¬ n > 40 by omega)]
      rfl
    · rfl
  rintro b rfl
  refine cndF ?_
  refine forUpG (n := 2) (by omega) (fun _ => True) trivial (fun i hi _ I μ hI hw => ?_) (fun _ => ?_)
  · show ∃ I1 : Int → Prop, cnd (e != 0) (I1 2) (I1 (IntKind.wrap .i64 (n + (i : Int)))) ∧ ∀ c, I1 c → cnd (decide (c > 40)) _ (_ ∧ (0 ≤ (K : Int) ∧ (K : Int) < (f.length : Nat) ∧ _ ∧ ∃ I2 : Bool → Prop, cnd ((resEnough s (setC f (K : Int).toNat (c, c))).2.2 != 0) (I2 true) (cnd (e == 0) (I2 (!((resEnough s (setC f (K : Int).toNat (c, c))).1 == ((i : Int) == 0)))) (I2 (!((resEnough s (setC f (K : Int).toNat (c, c))).1 == false)))) ∧ ∀ q, I2 q → cnd q (Q false) _))
    rw [hw, Int.toNat_natCast]
    have hi2 : i = 0 ∨ i = 1 := by omega
    refine ⟨fun c => 2 ≤ c ∧ (c ≤ 40 → riseOK s f K c = ((e == 0) && ((i : Int) == 0))), ?_, ?_⟩
    · rcases hcase with ⟨rfl, c1, c2, c3, c4⟩ | ⟨rfl, rfl, c3⟩
      · refine cndN rfl ?_
        show 2 ≤ IntKind.wrap .i64 (n + (i : Int)) ∧ (IntKind.wrap .i64 (n + (i : Int)) ≤ 40 → riseOK s f K (IntKind.wrap .i64 (n + (i : Int))) = _)
        rw [wrapS (by omega) (by omega)]
        refine ⟨by omega, fun hle => ?_⟩
        rcases hi2 with rfl | rfl
        · have : n + ((0 : Nat) : Int) = n := by omega
          rw [this, c3]; rfl
        · exact c4 hle
      · refine cndNe (by decide) ⟨by omega, fun _ => ?_⟩
        rw [c3]; rfl
    rintro c ⟨hc2, hcc⟩
    refine cnd_iff.2 ⟨fun _ => hI trivial, fun g => ⟨n2, by omega, by omega, n1, fun q => q = false, ?_, ?_⟩⟩
    · have g : ¬ c > 40 := of_decide_eq_false g
      obtain ⟨e1, e2⟩ := enough_rise v hKl (c := c) ⟨hc2, by omega⟩
      rw [e1, e2, hcc (by omega)]
      refine cndN rfl ?_
      rcases hcase with ⟨rfl, _⟩ | ⟨rfl, _⟩
      · refine cndE rfl ?_
        rcases hi2 with rfl | rfl <;> rfl
      · exact cndEe (by decide) rfl
    rintro q rfl
    exact cndF (hI trivial)
  have w5 : F5 (wantF f) := v.want4
  refine ⟨n1, n2, n1, n2, by omega, ?_⟩
  have same := most_tail v v rfl (fun m _ h => h) (P := f17_wp () () fun r => Q r) (R := Q false) (known h)
  refine cnd_iff.2 ⟨fun _ => ?_, fun _ => cnd_iff.2 ⟨fun _ _ => cnd_iff.2 ⟨fun g => ?_, fun _ => same⟩, fun _ => cnd_iff.2 ⟨fun _ => ?_, fun _ => cnd_iff.2 ⟨fun _ => ?_, fun _ => same⟩⟩⟩⟩
  · show 0 ≤ (K : Int) ∧ (K : Int) < (f.length : Nat) ∧ 0 ≤ (K : Int) ∧ (K : Int) < (f.length : Nat) ∧ ∃ r, (f55_wp (mxI 2 (IntKind.wrap .i64 ((f.getD (K : Int).toNat ((0, 0), 0, 0)).1.1 - 3)), mxI 2 (IntKind.wrap .i64 ((f.getD (K : Int).toNat ((0, 0), 0, 0)).1.2 - 3)), ()) () fun r' => r' = r) ∧ 0 ≤ (K : Int) ∧ (K : Int) < (f.length : Nat) ∧
      cnd ((resMost s f).2 == 0) (cnd ((resMost s (setC f (K : Int).toNat r)).2 == 0) (f54_wp (resMost s (setC f (K : Int).toNat r)).1 () fun r => f54_wp (resMost s f).1 () fun r' => cnd (decide (r ≥ r')) (f17_wp () () fun r => Q r) (Q false)) (Q false)) (Q false)
    rw [Int.toNat_natCast]
    have m1 : ∀ y : Int, mxI 2 y = if y > 2 then y else 2 := fun y => rfl
    rw [wrapS (x := (f.getD K ((0, 0), 0, 0)).1.1 - 3) (by omega) (by omega), wrapS (x := (f.getD K ((0, 0), 0, 0)).1.2 - 3) (by omega) (by omega)]
    have hb : 2 ≤ mxI 2 ((f.getD K ((0, 0), 0, 0)).1.1 - 3) ∧ mxI 2 ((f.getD K ((0, 0), 0, 0)).1.1 - 3) ≤ mxI 2 ((f.getD K ((0, 0), 0, 0)).1.2 - 3) ∧ mxI 2 ((f.getD K ((0, 0), 0, 0)).1.2 - 3) ≤ 40 ∧ mxI 2 ((f.getD K ((0, 0), 0, 0)).1.2 - 3) ≤ (f.getD K ((0, 0), 0, 0)).1.2 := by
      rw [m1, m1]; split <;> split <;> omega
    refine ⟨by omega, by omega, by omega, by omega, _, rfl, by omega, by omega, ?_⟩
    have hcc : 2 ≤ (mxI 2 ((f.getD K ((0, 0), 0, 0)).1.1 - 3), mxI 2 ((f.getD K ((0, 0), 0, 0)).1.2 - 3)).1 ∧ (mxI 2 ((f.getD K ((0, 0), 0, 0)).1.1 - 3), mxI 2 ((f.getD K ((0, 0), 0, 0)).1.2 - 3)).1 ≤ (mxI 2 ((f.getD K ((0, 0), 0, 0)).1.1 - 3), mxI 2 ((f.getD K ((0, 0), 0, 0)).1.2 - 3)).2 ∧ (mxI 2 ((f.getD K ((0, 0), 0, 0)).1.1 - 3), mxI 2 ((f.getD K ((0, 0), 0, 0)).1.2 - 3)).2 ≤ 40 := ⟨hb.1, hb.2.1, hb.2.2.1⟩
    exact most_tail v (setC_ok v hKl hcc) (setC_want hKl _) (fun m hm he => kind_count v hKl hcc hb.2.2.2 (le4_F5 hm w5).1 he) (known h)
  · have g : ((s.1.length : Nat) : Int) > 0 := of_decide_eq_true g
    obtain ⟨J, hJ⟩ : ∃ J, J = a.toNat % s.1.length := ⟨_, rfl⟩
    have hJl : J < s.1.length := by rw [hJ]; exact Nat.mod_lt _ (by omega)
    have eJ : Int.tmod (IntKind.wrap .i64 a) (s.1.length : Int) = (J : Int) := by rw [tmod_len hab (by omega), hJ]
    show (s.1.length : Int) ≠ 0 ∧ 0 ≤ Int.tmod (IntKind.wrap .i64 a) (s.1.length : Int) ∧ Int.tmod (IntKind.wrap .i64 a) (s.1.length : Int) < (s.1.length : Nat) ∧ 0 ≤ Int.tmod (IntKind.wrap .i64 a) (s.1.length : Int) ∧ Int.tmod (IntKind.wrap .i64 a) (s.1.length : Int) < (s.1.length : Nat) ∧
      cnd ((resMost s f).2 == 0) (cnd ((resMost (s.1.set (Int.tmod (IntKind.wrap .i64 a) (s.1.length : Int)).toNat (IntKind.wrap .i64 (s.1.getD (Int.tmod (IntKind.wrap .i64 a) (s.1.length : Int)).toNat 0 + 7)), s.2.1, s.2.2) f).2 == 0) (f54_wp (resMost (s.1.set (Int.tmod (IntKind.wrap .i64 a) (s.1.length : Int)).toNat (IntKind.wrap .i64 (s.1.getD (Int.tmod (IntKind.wrap .i64 a) (s.1.length : Int)).toNat 0 + 7)), s.2.1, s.2.2) f).1 () fun r => f54_wp (resMost s f).1 () fun r' => cnd (decide (r ≥ r')) (f17_wp () () fun r => Q r) (Q false)) (Q false)) (Q false)
    rw [eJ, Int.toNat_natCast]
    have hlJ := v.lv _ (getD_mem (d := 0) hJl)
    have hl9 := hleaf _ (getD_mem (d := 0) hJl)
    rw [wrapS (x := s.1.getD J 0 + 7) (by omega) (by omega)]
    have v' : VOK (s.1.set J (s.1.getD J 0 + 7), s.2.1, s.2.2) f := vok_leaves v (by rw [List.length_set]; exact v.n6) fun l hl => by
      rcases List.mem_or_eq_of_mem_set hl with hl | rfl
      · exact v.lv l hl
      · omega
    refine ⟨by omega, by omega, by omega, by omega, by omega, most_tail v v' rfl (fun m hm he => kind_store v v' (le4_F5 hm w5).1 (kind_leaf v v' (by rw [List.length_set]) (fun i hi => ?_) (le4_F5 hm w5).1) (fun h => h) he) (known h)⟩
    rw [getD_set hJl]
    split
    · rename_i e; subst e; omega
    · exact Int.le_refl _
  · have eq : IntKind.wrap .i64 (Int.tdiv s.2.1 2) = s.2.1 / 2 := by rw [Int.tdiv_eq_ediv_of_nonneg sm.1, wrapS (by omega) (by omega)]
    have v' : VOK (s.1, s.2.1 / 2, s.2.2) f := ⟨v.n6, v.n5, v.lv, ⟨by show 0 ≤ s.2.1 / 2; omega, by show s.2.1 / 2 ≤ 10; omega⟩, v.lt, v.f1, v.f4, v.sp⟩
    refine ⟨by omega, ?_⟩
    show cnd ((resMost s f).2 == 0) (cnd ((resMost (s.1, IntKind.wrap .i64 (Int.tdiv s.2.1 2), s.2.2) f).2 == 0) (f54_wp (resMost (s.1, IntKind.wrap .i64 (Int.tdiv s.2.1 2), s.2.2) f).1 () fun r => f54_wp (resMost s f).1 () fun r' => cnd (decide (r ≥ r')) (f17_wp () () fun r => Q r) (Q false)) (Q false)) (Q false)
    rw [eq]
    exact most_tail v v' rfl (fun m hm he => kind_store v v' (le4_F5 hm w5).1 (kind_seam v ⟨by omega, by omega⟩ v' (le4_F5 hm w5).1) (fun h => h) he) (known h)
  · have m50 := mod_b (x := a) (m := 50) (by omega)
    have e50 : IntKind.wrap .i64 (1 + Int.tmod (IntKind.wrap .i64 a) 50) = 1 + a % 50 := by rw [modB hab (by omega), wrapS (by omega) (by omega)]
    have ea : IntKind.wrap .i64 a = a := wrapS (by have := hab.1; omega) (by have := hab.2; omega)
    refine ⟨by omega, ?_⟩
    show (s.2.2.length + 1) * 16 ≤ 140737488355328 ∧ (_ → 0 ≤ IntKind.wrap .i64 (((s.2.2 ++ [(IntKind.wrap .i64 (1 + Int.tmod (IntKind.wrap .i64 a) 50), IntKind.wrap .i64 a)]).length : Int) - 1) ∧ IntKind.wrap .i64 (((s.2.2 ++ [(IntKind.wrap .i64 (1 + Int.tmod (IntKind.wrap .i64 a) 50), IntKind.wrap .i64 a)]).length : Int) - 1) < ((s.2.2 ++ [(IntKind.wrap .i64 (1 + Int.tmod (IntKind.wrap .i64 a) 50), IntKind.wrap .i64 a)]).length : Int) ∧
      cnd ((resMost s f).2 == 0) (cnd ((resMost (s.1, s.2.1, (s.2.2 ++ [(IntKind.wrap .i64 (1 + Int.tmod (IntKind.wrap .i64 a) 50), IntKind.wrap .i64 a)]).set (IntKind.wrap .i64 (((s.2.2 ++ [(IntKind.wrap .i64 (1 + Int.tmod (IntKind.wrap .i64 a) 50), IntKind.wrap .i64 a)]).length : Int) - 1)).toNat (((s.2.2 ++ [(IntKind.wrap .i64 (1 + Int.tmod (IntKind.wrap .i64 a) 50), IntKind.wrap .i64 a)]).getD (IntKind.wrap .i64 (((s.2.2 ++ [(IntKind.wrap .i64 (1 + Int.tmod (IntKind.wrap .i64 a) 50), IntKind.wrap .i64 a)]).length : Int) - 1)).toNat (0, 0)).1, mnI 200 (IntKind.wrap .i64 a))) f).2 == 0) (f54_wp (resMost (s.1, s.2.1, (s.2.2 ++ [(IntKind.wrap .i64 (1 + Int.tmod (IntKind.wrap .i64 a) 50), IntKind.wrap .i64 a)]).set (IntKind.wrap .i64 (((s.2.2 ++ [(IntKind.wrap .i64 (1 + Int.tmod (IntKind.wrap .i64 a) 50), IntKind.wrap .i64 a)]).length : Int) - 1)).toNat (((s.2.2 ++ [(IntKind.wrap .i64 (1 + Int.tmod (IntKind.wrap .i64 a) 50), IntKind.wrap .i64 a)]).getD (IntKind.wrap .i64 (((s.2.2 ++ [(IntKind.wrap .i64 (1 + Int.tmod (IntKind.wrap .i64 a) 50), IntKind.wrap .i64 a)]).length : Int) - 1)).toNat (0, 0)).1, mnI 200 (IntKind.wrap .i64 a))) f).1 () fun r => f54_wp (resMost s f).1 () fun r' => cnd (decide (r ≥ r')) (f17_wp () () fun r => Q r) (Q false)) (Q false)) (Q false))
    rw [e50, ea]
    have hlen : (s.2.2 ++ [((1 : Int) + a % 50, a)]).length = s.2.2.length + 1 := by simp
    have ew : IntKind.wrap .i64 (((s.2.2 ++ [((1 : Int) + a % 50, a)]).length : Int) - 1) = (s.2.2.length : Int) := by rw [hlen, wrapS (by omega) (by omega)]; omega
    have eset : (s.2.2 ++ [((1 : Int) + a % 50, a)]).set s.2.2.length (((s.2.2 ++ [((1 : Int) + a % 50, a)]).getD s.2.2.length (0, 0)).1, mnI 200 a) = s.2.2 ++ [(1 + a % 50, mnI 200 a)] := by
      rw [List.getD_eq_getElem?_getD, List.getElem?_append_right (Nat.le_refl _), List.set_append_right _ _ (Nat.le_refl _), Nat.sub_self]
      rfl
    rw [ew, Int.toNat_natCast, eset]
    have hmn := mnI_le 200 a
    have v' : VOK (s.1, s.2.1, s.2.2 ++ [(1 + a % 50, mnI 200 a)]) f := ⟨v.n6, by show (s.2.2 ++ [(1 + a % 50, mnI 200 a)]).length ≤ 5; simp; omega, v.lv, v.sm, fun l hl => by
      rcases List.mem_append.1 hl with hl | hl
      · exact v.lt l hl
      · rw [List.mem_singleton] at hl
        subst hl
        have := hab.1
        refine ⟨⟨by show 1 ≤ 1 + a % 50; omega, by show 1 + a % 50 ≤ 200; omega⟩, ⟨by show 0 ≤ mnI 200 a; omega, hmn.1⟩⟩, v.f1, v.f4, v.sp⟩
    exact ⟨by omega, fun _ => ⟨by omega, by rw [hlen]; omega, most_tail v v' rfl (fun m hm he => kind_store v v' (le4_F5 hm w5).1 (fun h => h) (kind_lot v v' (le4_F5 hm w5).1) he) (known h)⟩⟩
end Go.Proofs.Fa
set_option maxRecDepth 100000
set_option maxHeartbeats 0
namespace Go.Proofs.Fa
open Go Go.GX Go.Proofs
variable [Inhabited BaseD]
theorem ok15 : CallsOK Try.prog (assoc glT) 15 f15_ct :=
  callsOK_mkM [] st_ok mp_ok it_ok mk_ok in_ok (AllOK.cons ok43 (AllOK.cons ok44o (AllOK.cons ok45 (AllOK.cons ok41 (AllOK.cons ok55 (AllOK.cons ok49 (AllOK.cons ok50 (AllOK.cons ok54 (AllOK.cons ok17 AllOK.nil))))))))) f15_an Try.func15 (by kernel_rfl) (by kernel_rfl) f15_ct fun ⟨x, a, k, _⟩ _ Q h => (v15 x a k Q).mp (p15 h)
end Go.Proofs.Fa
