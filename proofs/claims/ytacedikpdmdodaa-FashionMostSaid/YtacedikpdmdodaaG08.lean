/- Part 8 of the texts behind the proof: FaPe, FaM5, FaPf, FaO6, FaV9, FaPg, FaM6, FaPh, FaO7. -/
import Derived.Test.YtacedikpdmdodaaG07
import Derived.Test.YtacedikpdmdodaaProg
set_option linter.unusedSimpArgs false
set_option linter.unusedVariables false
set_option linter.unusedSectionVars false
set_option linter.unusedVariables false
namespace Go.Proofs.Fa
open Go Go.GX Go.Proofs

theorem p44 {s : Store} {Q : Store → Prop} (h : f44_wp s () Q) : V44 s Q := by
  obtain ⟨⟨h1, h2⟩, h⟩ := h
  exact ⟨by show (0 + s.1.length) * 8 ≤ _; omega, by show (0 + s.2.2.length) * 16 ≤ _; omega, h⟩
theorem p45 {f : List Spring} {Q : List Spring → Prop} (h : f45_wp f () Q) : V45 f Q := by
  obtain ⟨h1, h⟩ := h
  exact ⟨by show (0 + f.length) * 32 ≤ _; omega, h⟩
theorem modB {b m : Int} (h : byteB b) (hm : 0 < m) : Int.tmod (IntKind.wrap .i64 b) m = b % m := by
  rw [wrapS (by have := h.1; omega) (by have := h.2; omega), Int.tmod_eq_emod_of_nonneg h.1]
theorem p48 {l : List Int} {i : Int} {Q : Int → Prop} (h : f48_wp (l, i, ()) () Q) : V48 l i Q := by
  obtain ⟨⟨h0, h1, hb⟩, h⟩ := h
  have h0 : 0 ≤ i := h0
  have h1 : i ≤ 1000000000 := h1
  have hb : ∀ y, y ∈ l → byteB y := hb
  have h : Q (byteAt l i.toNat) := h
  intro hl
  unfold byteAt at h
  refine cnd_iff.2 ⟨fun g => ?_, fun g _ => ?_⟩
  · have g : (l.length : Int) = 0 := by simpa using g
    rw [if_pos (by omega)] at h; exact h
  have g : ¬ (l.length : Int) = 0 := by simpa using g
  rw [if_neg (by omega)] at h
  have e : Int.tmod i (l.length : Int) = ((i.toNat % l.length : Nat) : Int) := by
    rw [Int.tmod_eq_emod_of_nonneg h0, Int.natCast_emod, Int.toNat_of_nonneg h0]
  have hlt : i.toNat % l.length < l.length := Nat.mod_lt _ (by omega)
  rw [e, Int.toNat_natCast]
  have hm := hb _ (getD_mem (d := 0) hlt)
  refine ⟨g, by omega, by omega, ?_⟩
  rw [wrapS (by have := hm.1; omega) (by have := hm.2; omega)]
  exact h
theorem byteAt_b {l : List Int} (h : ∀ y, y ∈ l → byteB y) (i : Nat) : byteB (byteAt l i) := by
  unfold byteAt
  split
  · exact ⟨by omega, by omega⟩
  · exact h _ (getD_mem (Nat.mod_lt _ (by omega)))
theorem take_last {α : Type} {l : List α} {i n : Nat} (hi : i ≤ l.length) (hn : i ≤ n) (h : ¬ (i < l.length ∧ i < n)) : l.take i = l.take n := by
  by_cases h1 : i = n
  · rw [h1]
  · rw [List.take_of_length_le (show l.length ≤ i by omega), List.take_of_length_le (show l.length ≤ n by omega)]
def sprL (v : List By4) (i : Nat) : List Spring := if v.length = 0 then (if i = 0 then [] else [sprO (12, 3, 2, 15)]) else (v.take i).map sprO
theorem p43 {x : Season} {Q : Store × List Spring × Unit → Prop} (h : f43_wp x () Q) : V43 x Q := by
  obtain ⟨ok, h⟩ := h
  have h : Q (seaS x, seaF x, ()) := h
  refine ⟨by omega, ?_⟩
  rw [modB ok.s (by omega)]
  refine ⟨fun i c => ∃ k : Nat, k ≤ x.1.length ∧ k ≤ 5 ∧ i = k ∧ c = ((x.1.take k).map fun b => 10 + b % 90, x.2.1 % 6, []), fun i _ => (5 - i).toNat, ⟨0, by omega, by omega, rfl, rfl⟩, ?_⟩
  rintro i c ⟨k, hk, hk5, rfl, rfl⟩
  refine ⟨fun b => b = decide (k < x.1.length ∧ k < 5), fun _ => cnd_iff.2 ⟨fun g => ?_, fun g => ?_⟩, ?_⟩
  · have g : (k : Int) < x.1.length := of_decide_eq_true g
    show decide ((k : Int) < 5) = _
    rw [decide_eq_decide]; omega
  · have g : ¬ (k : Int) < x.1.length := of_decide_eq_false g
    exact (decide_eq_false (by omega)).symm
  rintro _ rfl
  refine cnd_iff.2 ⟨fun g => ?_, fun g => ?_⟩
  · have g : k < x.1.length ∧ k < 5 := of_decide_eq_true g
    have hb := ok.l _ (getD_mem (d := 0) g.1)
    refine ⟨by omega, by omega, by omega, ?_⟩
    show ((((x.1.take k).map fun b => 10 + b % 90)).length + 1) * 8 ≤ _ ∧ (∃ k' : Nat, k' ≤ x.1.length ∧ k' ≤ 5 ∧ IntKind.wrap .i64 ((k : Int) + 1) = k' ∧ (((x.1.take k).map fun b => 10 + b % 90) ++ [IntKind.wrap .i64 (10 + Int.tmod (IntKind.wrap .i64 (x.1.getD k 0)) 90)], x.2.1 % 6, ([] : List (Int × Int))) = _) ∧ (5 - IntKind.wrap .i64 ((k : Int) + 1)).toNat < (5 - (k : Int)).toNat
    rw [modB hb (by omega), wrapS (x := 10 + _ % 90) (by omega) (by omega), wrapS (x := (k : Int) + 1) (by omega) (by omega)]
    refine ⟨by simp; omega, ⟨k + 1, by omega, by omega, by omega, ?_⟩, by omega⟩
    rw [take_map_succ _ _ g.1 0]
  have g : ¬ (k < x.1.length ∧ k < 5) := of_decide_eq_false g
  rw [take_last hk hk5 g]
  refine ⟨fun i c => ∃ k : Nat, k ≤ x.2.2.1.length ∧ k ≤ 4 ∧ i = k ∧ c = ((x.1.take 5).map fun b => 10 + b % 90, x.2.1 % 6, (x.2.2.1.take k).map fun v => (10 + v.1 % 40, v.2 % 120)), fun i _ => (4 - i).toNat, ⟨0, by omega, by omega, rfl, rfl⟩, ?_⟩
  rintro i c ⟨k2, hk2, hk4, rfl, rfl⟩
  refine ⟨fun b => b = decide (k2 < x.2.2.1.length ∧ k2 < 4), fun _ => cnd_iff.2 ⟨fun g => ?_, fun g => ?_⟩, ?_⟩
  · have g : (k2 : Int) < x.2.2.1.length := of_decide_eq_true g
    show decide ((k2 : Int) < 4) = _
    rw [decide_eq_decide]; omega
  · have g : ¬ (k2 : Int) < x.2.2.1.length := of_decide_eq_false g
    exact (decide_eq_false (by omega)).symm
  rintro _ rfl
  refine cnd_iff.2 ⟨fun g => ?_, fun g2 => ?_⟩
  · have g : k2 < x.2.2.1.length ∧ k2 < 4 := of_decide_eq_true g
    have hb := ok.t _ (getD_mem (d := (0, 0)) g.1)
    refine ⟨by omega, by omega, by omega, by omega, by omega, by omega, ?_⟩
    show ((((x.2.2.1.take k2).map fun v => (10 + v.1 % 40, v.2 % 120))).length + 1) * 16 ≤ _ ∧ (∃ k' : Nat, k' ≤ x.2.2.1.length ∧ k' ≤ 4 ∧ IntKind.wrap .i64 ((k2 : Int) + 1) = k' ∧ (((x.1.take 5).map fun b => 10 + b % 90), x.2.1 % 6, ((x.2.2.1.take k2).map fun v => (10 + v.1 % 40, v.2 % 120)) ++ [(IntKind.wrap .i64 (10 + Int.tmod (IntKind.wrap .i64 (x.2.2.1.getD k2 (0, 0)).1) 40), Int.tmod (IntKind.wrap .i64 (x.2.2.1.getD k2 (0, 0)).2) 120)]) = _) ∧ (4 - IntKind.wrap .i64 ((k2 : Int) + 1)).toNat < (4 - (k2 : Int)).toNat
    rw [modB hb.1 (by omega), modB hb.2 (by omega), wrapS (x := 10 + _ % 40) (by omega) (by omega), wrapS (x := (k2 : Int) + 1) (by omega) (by omega)]
    refine ⟨by simp; omega, ⟨k2 + 1, by omega, by omega, by omega, ?_⟩, by omega⟩
    rw [take_map_succ _ _ g.1 (0, 0)]
  have g2 : ¬ (k2 < x.2.2.1.length ∧ k2 < 4) := of_decide_eq_false g2
  rw [take_last hk2 hk4 g2]
  obtain ⟨vs, hvs⟩ : ∃ vs, vs = x.2.2.2 := ⟨_, rfl⟩
  have okf := ok.f
  rw [← hvs] at okf
  have eF : seaF x = if vs.length = 0 then [sprO (12, 3, 2, 15)] else (vs.take 3).map sprO := by unfold seaF; rw [hvs]
  rw [eF] at h
  rw [← hvs]
  refine ⟨fun i l => ∃ k : Nat, k ≤ 3 ∧ (0 < k → k ≤ 1 ∨ k ≤ vs.length) ∧ i = k ∧ l = sprL vs k, fun i _ => (3 - i).toNat, ⟨0, by omega, by omega, rfl, by unfold sprL; simp⟩, ?_⟩
  rintro i l ⟨k3, hk3, hkk, rfl, rfl⟩
  refine ⟨fun b => b = decide (k3 = 0 ∨ (k3 < vs.length ∧ k3 < 3)), cnd_iff.2 ⟨fun g => ?_, fun g _ => cnd_iff.2 ⟨fun g1 => ?_, fun g1 => ?_⟩⟩, ?_⟩
  · have g : (k3 : Int) = 0 := by simpa using g
    exact (decide_eq_true (.inl (by omega))).symm
  · have g : ¬ (k3 : Int) = 0 := by simpa using g
    have g1 : (k3 : Int) < vs.length := of_decide_eq_true g1
    show decide ((k3 : Int) < 3) = _
    rw [decide_eq_decide]; omega
  · have g : ¬ (k3 : Int) = 0 := by simpa using g
    have g1 : ¬ (k3 : Int) < vs.length := of_decide_eq_false g1
    exact (decide_eq_false (by omega)).symm
  rintro _ rfl
  refine cnd_iff.2 ⟨fun g _ => ?_, fun g => ?_⟩
  · have g : k3 = 0 ∨ (k3 < vs.length ∧ k3 < 3) := of_decide_eq_true g
    refine ⟨fun v => v = if k3 < vs.length then vs.getD k3 (0, 0, 0, 0) else (12, 3, 2, 15), cnd_iff.2 ⟨fun g1 => ?_, fun g1 => ?_⟩, ?_⟩
    · have g1 : (k3 : Int) < vs.length := of_decide_eq_true g1
      exact ⟨by omega, by omega, by rw [if_pos (by omega)]; rfl⟩
    · have g1 : ¬ (k3 : Int) < vs.length := of_decide_eq_false g1
      show (12, 3, 2, 15) = _
      rw [if_neg (by omega)]
    rintro v hv
    have hb : byteB v.1 ∧ byteB v.2.1 ∧ byteB v.2.2.1 ∧ byteB v.2.2.2 := by
      rw [hv]
      split
      · rename_i hh; exact okf _ (getD_mem hh)
      · exact ⟨⟨by decide, by decide⟩, ⟨by decide, by decide⟩, ⟨by decide, by decide⟩, ⟨by decide, by decide⟩⟩
    rw [modB hb.1 (by omega), modB hb.2.1 (by omega), modB hb.2.2.1 (by omega), modB hb.2.2.2 (by omega), wrapS (x := 4 + v.1 % 20) (by omega) (by omega), wrapS (x := 4 + v.1 % 20 + v.2.1 % 6) (by omega) (by omega), wrapS (x := 5 + v.2.2.2 % 35) (by omega) (by omega), wrapS (x := (k3 : Int) + 1) (by omega) (by omega)]
    have hl3 : (sprL vs k3).length ≤ 3 := by
      unfold sprL
      split
      · split <;> simp
      · simp; omega
    refine ⟨by omega, by omega, _, rfl, by omega, by omega, by show ((sprL vs k3).length + 1) * 32 ≤ _; omega, ⟨k3 + 1, ?_, ?_, by omega, ?_⟩, by dsimp only; omega⟩
    · omega
    · intro _; omega
    · show sprL vs k3 ++ [sprO v] = sprL vs (k3 + 1)
      unfold sprL
      by_cases h0 : vs.length = 0
      · rw [if_pos h0, if_pos h0, if_pos (by omega), if_neg (by omega), hv, if_neg (by omega)]; rfl
      · have hlt : k3 < vs.length := by omega
        rw [if_neg h0, if_neg h0, hv, if_pos hlt, take_map_succ _ _ hlt (0, 0, 0, 0)]
  · have g : ¬ (k3 = 0 ∨ (k3 < vs.length ∧ k3 < 3)) := of_decide_eq_false g
    have e : sprL vs k3 = if vs.length = 0 then [sprO (12, 3, 2, 15)] else (vs.take 3).map sprO := by
      unfold sprL
      by_cases h0 : vs.length = 0
      · rw [if_pos h0, if_pos h0, if_neg (by omega)]
      · rw [if_neg h0, if_neg h0, take_last (n := 3) (by omega) hk3 (by omega)]
    rw [e]
    exact h

end Go.Proofs.Fa
set_option linter.unusedVariables false
namespace Go.Proofs.Fa
open Go Go.GX Go.Proofs

abbrev noB : BinT := ((0, 0, 0, 0), (0, 0, 0, 0), 0, 0)
theorem le4_tr {a b c : FansT} (h : le4 a b) (h' : le4 b c) : le4 a c := ⟨⟨h.1.1, Int.le_trans h.1.2 h'.1.2⟩, ⟨h.2.1.1, Int.le_trans h.2.1.2 h'.2.1.2⟩, ⟨h.2.2.1.1, Int.le_trans h.2.2.1.2 h'.2.2.1.2⟩, ⟨h.2.2.2.1, Int.le_trans h.2.2.2.2 h'.2.2.2.2⟩⟩
structure CntOK (f : List Spring) (c : List Int) : Prop where
  n : c.length = f.length
  b : ∀ j, j < f.length → 0 ≤ c.getD j 0 ∧ c.getD j 0 ≤ (f.getD j ((0, 0), 0, 0)).1.2
theorem leaves_get {ls : List Int} {seam : Int} {c : FansT} {e fi : Int} {i : Nat} (hi : i < ls.length) : (leavesR ls seam c e fi).getD i noB = (tup4 fun j => at4 c j + seam, tup4 fun _ => e, ls.getD i 0 + seam, fi) := by
  unfold leavesR
  rw [List.getD_eq_getElem?_getD, List.getElem?_map, List.getElem?_eq_getElem hi, getD_lt hi]; rfl
theorem lots_get {ls : List Lot} {f : List Spring} {c : FansT} {i : Nat} (hi : i < ls.length) : (lotsR ls f c).getD i noB = lotR f c (ls.getD i (0, 0)) := by
  unfold lotsR
  rw [List.getD_eq_getElem?_getD, List.getElem?_map, List.getElem?_eq_getElem hi, getD_lt hi]; rfl
end Go.Proofs.Fa
set_option linter.unusedVariables false
namespace Go.Proofs.Fa
open Go Go.GX Go.Proofs

theorem mod_b {x m : Int} (hm : 0 < m) : 0 ≤ x % m ∧ x % m < m := ⟨Int.emod_nonneg _ (by omega), Int.emod_lt_of_pos _ hm⟩
theorem spr_ok (v : By4) : isSprF (sprO v) = true := by
  have a := mod_b (x := v.1) (m := 20) (by omega)
  have b := mod_b (x := v.2.1) (m := 6) (by omega)
  have c := mod_b (x := v.2.2.1) (m := 5) (by omega)
  have d := mod_b (x := v.2.2.2) (m := 35) (by omega)
  unfold isSprF sprO
  simp only [Bool.and_eq_true, decide_eq_true_eq, inB_iff]
  omega
theorem seaF_mem {x : Season} {s : Spring} (h : s ∈ seaF x) : isSprF s = true := by
  unfold seaF at h
  split at h
  · rw [List.mem_singleton] at h; subst h; exact spr_ok _
  · obtain ⟨v, _, rfl⟩ := List.mem_map.1 h; exact spr_ok _
theorem seaF_len (x : Season) : 1 ≤ (seaF x).length ∧ (seaF x).length ≤ 3 := by
  unfold seaF
  split
  · simp
  · simp; omega
theorem sea_ok (x : Season) : checkF (seaS x) (seaF x) = 0 := by
  have hl := seaF_len x
  have h1 : (seaS x).1.length ≤ 5 := by simp [seaS]; omega
  have h2 : (seaS x).2.2.length ≤ 4 := by simp [seaS]; omega
  have a1 : (seaS x).1.all (inB 1 200) = true := by
    rw [List.all_eq_true]
    intro y hy
    obtain ⟨b, _, rfl⟩ := List.mem_map.1 hy
    have := mod_b (x := b) (m := 90) (by omega)
    rw [inB_iff]; omega
  have a2 : inB 0 10 (seaS x).2.1 = true := by
    have := mod_b (x := x.2.1) (m := 6) (by omega)
    rw [inB_iff]
    show 0 ≤ x.2.1 % 6 ∧ x.2.1 % 6 ≤ 10
    omega
  have a3 : (seaS x).2.2.all isLotF = true := by
    rw [List.all_eq_true]
    intro y hy
    obtain ⟨b, _, rfl⟩ := List.mem_map.1 hy
    have h1 := mod_b (x := b.1) (m := 40) (by omega)
    have h2 := mod_b (x := b.2) (m := 120) (by omega)
    unfold isLotF
    simp only [Bool.and_eq_true, inB_iff]
    omega
  unfold checkF
  rw [if_neg (by omega), if_neg (by rw [a1, a2, a3]; simp), if_neg (by rw [show inB 1 4 ((seaF x).length : Int) = true from inB_iff.2 (by omega)]; simp), if_neg]
  rw [show (seaF x).all isSprF = true from List.all_eq_true.2 fun s hs => seaF_mem hs]
  simp
end Go.Proofs.Fa
set_option maxRecDepth 100000
set_option maxHeartbeats 0
namespace Go.Proofs.Fa
open Go Go.GX Go.Proofs
variable [Inhabited BaseD]
theorem ok43 : CallsOK Try.prog (assoc glT) 43 f43_ct :=
  callsOK_mkM [] st_ok mp_ok it_ok mk_ok in_ok (AllOK.cons ok55 AllOK.nil) f43_an Try.func43 (by kernel_rfl) (by kernel_rfl) f43_ct fun x _ Q h => (v43 x Q).mp (p43 h)
theorem ok44 : CallsOK Try.prog (assoc glT) 44 f44_ct :=
  callsOK_mkM [] st_ok mp_ok it_ok mk_ok in_ok AllOK.nil no_an Try.func44 (by kernel_rfl) (by kernel_rfl) f44_ct fun s _ Q h => (v44 s Q).mp (p44 h)
theorem ok45 : CallsOK Try.prog (assoc glT) 45 f45_ct :=
  callsOK_mkM [] st_ok mp_ok it_ok mk_ok in_ok AllOK.nil no_an Try.func45 (by kernel_rfl) (by kernel_rfl) f45_ct fun f _ Q h => (v45 f Q).mp (p45 h)
theorem ok48 : CallsOK Try.prog (assoc glT) 48 f48_ct :=
  callsOK_mkM [] st_ok mp_ok it_ok mk_ok in_ok AllOK.nil no_an Try.func48 (by kernel_rfl) (by kernel_rfl) f48_ct fun ⟨l, i, _⟩ _ Q h => (v48 l i Q).mp (p48 h)
end Go.Proofs.Fa
set_option linter.unusedVariables false
set_option maxRecDepth 100000
namespace Go.Proofs.Fa
open Go Go.GX Go.Proofs

def V54 (l : List Int) (Q : Int → Prop) : Prop := ∃ (I : Int → Int → Prop), ∃ (μ : Int → Int → Nat), I (0 : Int) (0 : Int) ∧ ∀ (x x_1 : Int), I x x_1 → List.length l ≤ (9223372036854775807 : Nat) → cnd (decide (x < (↑(List.length l) : Int))) ((0 : Int) ≤ x ∧ x < (↑(List.length l) : Int) ∧ I (IntKind.wrap IntKind.i64 (x + (1 : Int))) (IntKind.wrap IntKind.i64 (x_1 + List.getD l (Int.toNat x) (0 : Int))) ∧ μ (IntKind.wrap IntKind.i64 (x + (1 : Int))) (IntKind.wrap IntKind.i64 (x_1 + List.getD l (Int.toNat x) (0 : Int))) < μ x x_1) (Q x_1)
theorem v54 (l : List Int) (Q : Int → Prop) : V54 l Q = vcFunc (S0 [] []) f54_ct.own f54_ct.fresh f54_an Try.f54 (bodyOf Try.f54) f54_ct.A f54_ct.C f54_ct.R l () Q := by kernel_rfl

def V53 (s : List Int × Int × List (Int × Int)) (f : List Spring) (t : List Int) (b : Bool) (Q : List Int → Prop) : Prop := (↑(List.length f) : Int) = (↑(List.length f) : Int) ∧ (0 : Int) ≤ (↑(List.length f) : Int) ∧ (↑(List.length f) : Int) * (↑(8 : Nat) : Int) ≤ (140737488355328 : Int) ∧ ∃ (I : Int → Prop), cnd b (List.length s.2.2 ≤ (9223372036854775807 : Nat) → I (↑(List.length s.2.2) : Int)) (I (↑(List.length s.1) : Int)) ∧ ∀ (x : Int), I x → ∃ (I : Int → Int → List Int → Prop), ∃ (μ : Int → Int → List Int → Nat), I (0 : Int) (0 : Int) (List.replicate (Int.toNat (↑(List.length f) : Int)) (0 : Int)) ∧ ∀ (x_1 x_2 : Int) (x_3 : List Int), I x_1 x_2 x_3 → cnd (decide (x_1 < x)) (∃ (I_1 : Int → Prop), cnd b ((0 : Int) ≤ x_1 ∧ x_1 < (↑(List.length s.2.2) : Int) ∧ I_1 (Prod.snd (List.getD s.2.2 (Int.toNat x_1) ((0 : Int), (0 : Int))))) ((0 : Int) ≤ x_1 ∧ x_1 < (↑(List.length s.1) : Int) ∧ I_1 (IntKind.wrap IntKind.i64 (List.getD s.1 (Int.toNat x_1) (0 : Int) + s.2.1))) ∧ ∀ (x : Int), I_1 x → ∃ (I_2 : Int → Int → Int → List Int → Prop), ∃ (μ_1 : Int → Int → Int → List Int → Nat), I_2 (0 : Int) x_2 x x_3 ∧ ∀ (x x_4 x_5 : Int) (x_6 : List Int), I_2 x x_4 x_5 x_6 → cnd (decide (x < (8 : Int))) (f48_wp (t, x_4, ()) () fun (r : Int) ↦ List.length f ≤ (9223372036854775807 : Nat) → (↑(List.length f) : Int) ≠ (0 : Int) ∧ (0 : Int) ≤ Int.tmod r (↑(List.length f) : Int) ∧ Int.tmod r (↑(List.length f) : Int) < (↑(List.length f) : Int) ∧ ∃ (I : Int → Prop), cnd (!b) (I (IntKind.wrap IntKind.i64 (Prod.snd (Prod.fst (List.getD f (Int.toNat (Int.tmod r (↑(List.length f) : Int))) (((0 : Int), (0 : Int)), (0 : Int), (0 : Int)))) + s.2.1))) (I (Prod.snd (Prod.fst (List.getD f (Int.toNat (Int.tmod r (↑(List.length f) : Int))) (((0 : Int), (0 : Int)), (0 : Int), (0 : Int)))))) ∧ ∀ (x_7 : Int), I x_7 → ∃ (I : Bool → Prop), cnd (decide (x_7 > x_5)) (I true) ((0 : Int) ≤ Int.tmod r (↑(List.length f) : Int) ∧ Int.tmod r (↑(List.length f) : Int) < (↑(List.length x_6) : Int) ∧ (0 : Int) ≤ Int.tmod r (↑(List.length f) : Int) ∧ Int.tmod r (↑(List.length f) : Int) < (↑(List.length f) : Int) ∧ cnd (decide (List.getD x_6 (Int.toNat (Int.tmod r (↑(List.length f) : Int))) (0 : Int) ≥ Prod.fst (Prod.snd (List.getD f (Int.toNat (Int.tmod r (↑(List.length f) : Int))) (((0 : Int), (0 : Int)), (0 : Int), (0 : Int)))))) (I true) (cnd b ((0 : Int) ≤ Int.tmod r (↑(List.length f) : Int) ∧ Int.tmod r (↑(List.length f) : Int) < (↑(List.length f) : Int) ∧ (0 : Int) ≤ x_1 ∧ x_1 < (↑(List.length s.2.2) : Int) ∧ I (decide (Prod.snd (Prod.snd (List.getD f (Int.toNat (Int.tmod r (↑(List.length f) : Int))) (((0 : Int), (0 : Int)), (0 : Int), (0 : Int)))) > Prod.fst (List.getD s.2.2 (Int.toNat x_1) ((0 : Int), (0 : Int)))))) (I false))) ∧ ∀ (x_8 : Bool), I x_8 → cnd x_8 (I_2 (IntKind.wrap IntKind.i64 (x + (1 : Int))) (IntKind.wrap IntKind.i64 (x_4 + (1 : Int))) x_5 x_6 ∧ μ_1 (IntKind.wrap IntKind.i64 (x + (1 : Int))) (IntKind.wrap IntKind.i64 (x_4 + (1 : Int))) x_5 x_6 < μ_1 x x_4 x_5 x_6) ((0 : Int) ≤ Int.tmod r (↑(List.length f) : Int) ∧ Int.tmod r (↑(List.length f) : Int) < (↑(List.length x_6) : Int) ∧ (0 : Int) ≤ Int.tmod r (↑(List.length f) : Int) ∧ Int.tmod r (↑(List.length f) : Int) < (↑(List.length x_6) : Int) ∧ I_2 (IntKind.wrap IntKind.i64 (x + (1 : Int))) (IntKind.wrap IntKind.i64 (x_4 + (1 : Int))) (IntKind.wrap IntKind.i64 (x_5 - x_7)) (List.set x_6 (Int.toNat (Int.tmod r (↑(List.length f) : Int))) (IntKind.wrap IntKind.i64 (List.getD x_6 (Int.toNat (Int.tmod r (↑(List.length f) : Int))) (0 : Int) + (1 : Int)))) ∧ μ_1 (IntKind.wrap IntKind.i64 (x + (1 : Int))) (IntKind.wrap IntKind.i64 (x_4 + (1 : Int))) (IntKind.wrap IntKind.i64 (x_5 - x_7)) (List.set x_6 (Int.toNat (Int.tmod r (↑(List.length f) : Int))) (IntKind.wrap IntKind.i64 (List.getD x_6 (Int.toNat (Int.tmod r (↑(List.length f) : Int))) (0 : Int) + (1 : Int)))) < μ_1 x x_4 x_5 x_6)) (I (IntKind.wrap IntKind.i64 (x_1 + (1 : Int))) x_4 x_6 ∧ μ (IntKind.wrap IntKind.i64 (x_1 + (1 : Int))) x_4 x_6 < μ x_1 x_2 x_3)) (Q x_3)
theorem v53 (s : List Int × Int × List (Int × Int)) (f : List Spring) (t : List Int) (b : Bool) (Q : List Int → Prop) : V53 s f t b Q = vcFunc (S0 [(48, f48_ct)] []) f53_ct.own f53_ct.fresh f53_an Try.f53 (bodyOf Try.f53) f53_ct.A f53_ct.C f53_ct.R (s, f, t, b, ()) () Q := by kernel_rfl

def V14 (x : List Int × Int × List (Int × Int) × List FansT) (t : List Int) (u : List Int) (Q : Bool → Prop) : Prop := f43_wp (x.1, x.2.1, x.2.2.1, x.2.2.2) () fun (r : (List Int × Int × List (Int × Int)) × List Spring × Unit) ↦ f44_wp (r.1.1, r.1.2.1, r.1.2.2) () fun (r_1 : List Int × Int × List (Int × Int)) ↦ f45_wp r.2.1 () fun (r_2 : List Spring) ↦ f50_wp ((r_1.1, r_1.2.1, r_1.2.2), r_2, ()) () fun (r_3 : List Int × Int × Unit) ↦ f44_wp (r.1.1, r.1.2.1, r.1.2.2) () fun (r_4 : List Int × Int × List (Int × Int)) ↦ f45_wp r.2.1 () fun (r_5 : List Spring) ↦ f49_wp ((r_4.1, r_4.2.1, r_4.2.2), r_5, ()) () fun (r_6 : Bool × Bool × Int × Unit) ↦ ∃ (I : Bool → Prop), cnd (r_3.2.1 != (0 : Int)) (I true) (cnd (r_6.2.2.1 != (0 : Int)) (I true) (List.length r_3.1 ≤ (9223372036854775807 : Nat) → List.length r.2.1 ≤ (9223372036854775807 : Nat) → I ((↑(List.length r_3.1) : Int) != (↑(List.length r.2.1) : Int)))) ∧ ∀ (x : Bool), I x → cnd x (Q false) (∃ (r_7 : List Int), (f53_wp ((r.1.1, r.1.2.1, r.1.2.2), r.2.1, t, false, ()) () fun (r' : List Int) ↦ r' = r_7) ∧ ∃ (r_8 : List Int), (f53_wp ((r.1.1, r.1.2.1, r.1.2.2), r.2.1, u, true, ()) () fun (r' : List Int) ↦ r' = r_8) ∧ ∃ (r_9 : List Spring), (f45_wp r.2.1 () fun (r' : List Spring) ↦ r' = r_9) ∧ ∃ (I : Int → Int → Bool → List Spring → Prop), ∃ (μ : Int → Int → Bool → List Spring → Nat), I (0 : Int) (0 : Int) true r_9 ∧ ∀ (x x_1 : Int) (x_2 : Bool) (x_3 : List Spring), I x x_1 x_2 x_3 → List.length r.2.1 ≤ (9223372036854775807 : Nat) → cnd (decide (x < (↑(List.length r.2.1) : Int))) (∃ (I_1 : Bool → Prop), ((0 : Int) ≤ x ∧ x < (↑(List.length r_3.1) : Int) ∧ cnd (decide (List.getD r_3.1 (Int.toNat x) (0 : Int) < (0 : Int))) (I_1 true) ((0 : Int) ≤ x ∧ x < (↑(List.length r_3.1) : Int) ∧ (0 : Int) ≤ x ∧ x < (↑(List.length r.2.1) : Int) ∧ I_1 (decide (List.getD r_3.1 (Int.toNat x) (0 : Int) > Prod.fst (Prod.snd (List.getD r.2.1 (Int.toNat x) (((0 : Int), (0 : Int)), (0 : Int), (0 : Int)))))))) ∧ ∀ (x_4 : Bool), I_1 x_4 → cnd x_4 (Q false) ((0 : Int) ≤ x ∧ x < (↑(List.length r_7) : Int) ∧ (0 : Int) ≤ x ∧ x < (↑(List.length r_8) : Int) ∧ (0 : Int) ≤ x ∧ x < (↑(List.length r_3.1) : Int) ∧ cnd x_2 ((0 : Int) ≤ x ∧ x < (↑(List.length r_3.1) : Int) ∧ (0 : Int) ≤ x ∧ x < (↑(List.length r.2.1) : Int) ∧ (0 : Int) ≤ x ∧ x < (↑(List.length x_3) : Int) ∧ I (IntKind.wrap IntKind.i64 (x + (1 : Int))) (IntKind.wrap IntKind.i64 (x_1 + mnI (List.getD r_7 (Int.toNat x) (0 : Int)) (List.getD r_8 (Int.toNat x) (0 : Int)))) (List.getD r_3.1 (Int.toNat x) (0 : Int) == Prod.fst (Prod.snd (List.getD r.2.1 (Int.toNat x) (((0 : Int), (0 : Int)), (0 : Int), (0 : Int))))) (List.set x_3 (Int.toNat x) ((Prod.fst (Prod.fst (List.getD x_3 (Int.toNat x) (((0 : Int), (0 : Int)), (0 : Int), (0 : Int)))), Prod.snd (Prod.fst (List.getD x_3 (Int.toNat x) (((0 : Int), (0 : Int)), (0 : Int), (0 : Int))))), List.getD r_3.1 (Int.toNat x) (0 : Int), Prod.snd (Prod.snd (List.getD x_3 (Int.toNat x) (((0 : Int), (0 : Int)), (0 : Int), (0 : Int)))))) ∧ μ (IntKind.wrap IntKind.i64 (x + (1 : Int))) (IntKind.wrap IntKind.i64 (x_1 + mnI (List.getD r_7 (Int.toNat x) (0 : Int)) (List.getD r_8 (Int.toNat x) (0 : Int)))) (List.getD r_3.1 (Int.toNat x) (0 : Int) == Prod.fst (Prod.snd (List.getD r.2.1 (Int.toNat x) (((0 : Int), (0 : Int)), (0 : Int), (0 : Int))))) (List.set x_3 (Int.toNat x) ((Prod.fst (Prod.fst (List.getD x_3 (Int.toNat x) (((0 : Int), (0 : Int)), (0 : Int), (0 : Int)))), Prod.snd (Prod.fst (List.getD x_3 (Int.toNat x) (((0 : Int), (0 : Int)), (0 : Int), (0 : Int))))), List.getD r_3.1 (Int.toNat x) (0 : Int), Prod.snd (Prod.snd (List.getD x_3 (Int.toNat x) (((0 : Int), (0 : Int)), (0 : Int), (0 : Int)))))) < μ x x_1 x_2 x_3) ((0 : Int) ≤ x ∧ x < (↑(List.length x_3) : Int) ∧ I (IntKind.wrap IntKind.i64 (x + (1 : Int))) (IntKind.wrap IntKind.i64 (x_1 + mnI (List.getD r_7 (Int.toNat x) (0 : Int)) (List.getD r_8 (Int.toNat x) (0 : Int)))) false (List.set x_3 (Int.toNat x) ((Prod.fst (Prod.fst (List.getD x_3 (Int.toNat x) (((0 : Int), (0 : Int)), (0 : Int), (0 : Int)))), Prod.snd (Prod.fst (List.getD x_3 (Int.toNat x) (((0 : Int), (0 : Int)), (0 : Int), (0 : Int))))), List.getD r_3.1 (Int.toNat x) (0 : Int), Prod.snd (Prod.snd (List.getD x_3 (Int.toNat x) (((0 : Int), (0 : Int)), (0 : Int), (0 : Int)))))) ∧ μ (IntKind.wrap IntKind.i64 (x + (1 : Int))) (IntKind.wrap IntKind.i64 (x_1 + mnI (List.getD r_7 (Int.toNat x) (0 : Int)) (List.getD r_8 (Int.toNat x) (0 : Int)))) false (List.set x_3 (Int.toNat x) ((Prod.fst (Prod.fst (List.getD x_3 (Int.toNat x) (((0 : Int), (0 : Int)), (0 : Int), (0 : Int)))), Prod.snd (Prod.fst (List.getD x_3 (Int.toNat x) (((0 : Int), (0 : Int)), (0 : Int), (0 : Int))))), List.getD r_3.1 (Int.toNat x) (0 : Int), Prod.snd (Prod.snd (List.getD x_3 (Int.toNat x) (((0 : Int), (0 : Int)), (0 : Int), (0 : Int)))))) < μ x x_1 x_2 x_3))) (f44_wp (r.1.1, r.1.2.1, r.1.2.2) () fun (r_10 : List Int × Int × List (Int × Int)) ↦ f45_wp x_3 () fun (r_11 : List Spring) ↦ f49_wp ((r_10.1, r_10.2.1, r_10.2.2), r_11, ()) () fun (r_12 : Bool × Bool × Int × Unit) ↦ ∃ (I : Bool → Prop), cnd (r_12.2.2.1 != (0 : Int)) (I true) (cnd (!r_12.1) (I true) (f54_wp r_3.1 () fun (r : Int) ↦ cnd (decide (x_1 > r)) (I true) (I !r_6.1 == x_2))) ∧ ∀ (x : Bool), I x → cnd x (Q false) (∃ (I : Int → Prop), ∃ (μ : Int → Nat), I (0 : Int) ∧ ∀ (x : Int), I x → List.length r.2.1 ≤ (9223372036854775807 : Nat) → cnd (decide (x < (↑(List.length r.2.1) : Int))) ((0 : Int) ≤ x ∧ x < (↑(List.length r_3.1) : Int) ∧ (0 : Int) ≤ x ∧ x < (↑(List.length r.2.1) : Int) ∧ cnd (List.getD r_3.1 (Int.toNat x) (0 : Int) == Prod.fst (Prod.snd (List.getD r.2.1 (Int.toNat x) (((0 : Int), (0 : Int)), (0 : Int), (0 : Int))))) (I (IntKind.wrap IntKind.i64 (x + (1 : Int))) ∧ μ (IntKind.wrap IntKind.i64 (x + (1 : Int))) < μ x) (f45_wp x_3 () fun (r_13 : List Spring) ↦ (0 : Int) ≤ x ∧ x < (↑(List.length r_13) : Int) ∧ (0 : Int) ≤ x ∧ x < (↑(List.length r_13) : Int) ∧ f44_wp (r.1.1, r.1.2.1, r.1.2.2) () fun (r : List Int × Int × List (Int × Int)) ↦ f49_wp ((r.1, r.2.1, r.2.2), List.set r_13 (Int.toNat x) ((Prod.fst (Prod.fst (List.getD r_13 (Int.toNat x) (((0 : Int), (0 : Int)), (0 : Int), (0 : Int)))), Prod.snd (Prod.fst (List.getD r_13 (Int.toNat x) (((0 : Int), (0 : Int)), (0 : Int), (0 : Int))))), IntKind.wrap IntKind.i64 (Prod.fst (Prod.snd (List.getD r_13 (Int.toNat x) (((0 : Int), (0 : Int)), (0 : Int), (0 : Int)))) + (1 : Int)), Prod.snd (Prod.snd (List.getD r_13 (Int.toNat x) (((0 : Int), (0 : Int)), (0 : Int), (0 : Int))))), ()) () fun (r : Bool × Bool × Int × Unit) ↦ ∃ (I_1 : Bool → Prop), cnd (r.2.2.1 != (0 : Int)) (I_1 true) (I_1 r.1) ∧ ∀ (x_4 : Bool), I_1 x_4 → cnd x_4 (Q false) (I (IntKind.wrap IntKind.i64 (x + (1 : Int))) ∧ μ (IntKind.wrap IntKind.i64 (x + (1 : Int))) < μ x))) (f17_wp () () fun (r : Bool) ↦ Q r))))
theorem v14 (x : List Int × Int × List (Int × Int) × List FansT) (t : List Int) (u : List Int) (Q : Bool → Prop) : V14 x t u Q = vcFunc (S0 [(43, f43_ct), (44, f44_ct), (45, f45_ct), (50, f50_ct), (49, f49_ct), (53, f53_ct), (54, f54_ct), (17, f17_ct)] []) f14_ct.own f14_ct.fresh f14_an Try.f14 (bodyOf Try.f14) f14_ct.A f14_ct.C f14_ct.R (x, t, u, ()) () Q := by kernel_rfl

end Go.Proofs.Fa
set_option linter.unusedVariables false
namespace Go.Proofs.Fa
open Go Go.GX Go.Proofs

theorem p54 {l : List Int} {Q : Int → Prop} (h : f54_wp l () Q) : V54 l Q := by
  obtain ⟨⟨hn, hb⟩, h⟩ := h
  have key : ∀ k : Nat, k ≤ l.length → 0 ≤ (l.take k).sum ∧ (l.take k).sum ≤ (k : Int) * 1000000 := by
    intro k
    induction k with
    | zero => intro _; simp
    | succ k ih =>
      intro hk
      have h1 := ih (by omega)
      have h2 := hb _ (getD_mem (d := 0) (show k < l.length by omega))
      rw [take_snoc (by omega) 0, List.sum_append]
      simp only [List.sum_cons, List.sum_nil]
      push_cast
      omega
  refine forUpL (σ := Int) (n := l.length) (fun k => (l.take k).sum) rfl (fun k hk I μ hI hw => ?_) ?_
  · have h1 := key k (by omega)
    have h2 := hb _ (getD_mem (d := 0) hk)
    rw [take_snoc hk 0, List.sum_append] at hI
    simp only [List.sum_cons, List.sum_nil, Int.add_zero] at hI
    refine ⟨by omega, by omega, ?_⟩
    rw [hw]
    show I _ (IntKind.wrap .i64 ((l.take k).sum + l.getD k 0)) ∧ μ _ (IntKind.wrap .i64 ((l.take k).sum + l.getD k 0)) < _
    rw [wrapS (by omega) (by omega)]
    exact hI
  · show Q (l.take l.length).sum
    rw [List.take_length]
    exact h

structure TriOK (f : List Spring) (st : Int × List Int) : Prop where
  n : st.2.length = f.length
  b : ∀ i, i < f.length → 0 ≤ st.2.getD i 0 ∧ st.2.getD i 0 ≤ (f.getD i ((0, 0), 0, 0)).2.1
  l : 0 ≤ st.1 ∧ st.1 ≤ 400
theorem takeO_b {s : Store} {f : List Spring} (v : VOK s f) (lots : Bool) {n : Nat} (hn : n < f.length) : 0 ≤ takeO s f lots n ∧ takeO s f lots n ≤ 50 := by
  have h1 := v.getS hn
  have h2 := v.sm
  unfold takeO
  split <;> omega
theorem triIdx_lt {s : Store} {f : List Spring} (v : VOK s f) (t : List Int) (k : Nat) : triIdx f t k < f.length := Nat.mod_lt _ (by have := v.f1; omega)
theorem triStep_ok {s : Store} {f : List Spring} (v : VOK s f) {t : List Int} {lots : Bool} {i : Nat} {st : Int × List Int} (h : TriOK f st) (j : Nat) : TriOK f (triStep s f t lots i st j) := by
  have hi := triIdx_lt v t (8 * i + j)
  unfold triStep
  generalize triIdx f t (8 * i + j) = n at hi ⊢
  split
  · exact h
  · rename_i hno
    have ht := takeO_b v lots hi
    have hb := h.b n hi
    simp only [triNo, Bool.or_eq_true, decide_eq_true_eq, not_or] at hno
    refine ⟨by simp [h.n], fun m hm => ?_, ?_⟩
    · show 0 ≤ (st.2.set n _).getD m 0 ∧ (st.2.set n _).getD m 0 ≤ _
      rw [getD_set (by rw [h.n]; exact hi)]
      split
      · rename_i e; subst e; omega
      · exact h.b m hm
    · have := h.l
      show 0 ≤ st.1 - takeO s f lots n ∧ st.1 - takeO s f lots n ≤ 400
      omega
theorem room_b {s : Store} {f : List Spring} (v : VOK s f) {lots : Bool} {i : Nat} (hi : i < manyO s lots) : 0 ≤ roomO s lots i ∧ roomO s lots i ≤ 400 := by
  have hs := v.sm
  unfold roomO
  cases lots with
  | true =>
    have := v.lt _ (getD_mem (d := (0, 0)) (show i < s.2.2.length from hi))
    rw [if_pos rfl]; omega
  | false =>
    have := v.lv _ (getD_mem (d := 0) (show i < s.1.length from hi))
    rw [if_neg (by simp)]; omega
theorem triOne_ok {s : Store} {f : List Spring} (v : VOK s f) {t : List Int} {lots : Bool} {i : Nat} (hi : i < manyO s lots) {fans : List Int} (h1 : fans.length = f.length) (h2 : ∀ i, i < f.length → 0 ≤ fans.getD i 0 ∧ fans.getD i 0 ≤ (f.getD i ((0, 0), 0, 0)).2.1) : ∀ k : Nat, TriOK f (triOne s f t lots i fans k)
  | 0 => ⟨h1, h2, room_b v hi⟩
  | k + 1 => by
    have e : triOne s f t lots i fans (k + 1) = triStep s f t lots i (triOne s f t lots i fans k) k := foldl_succ _ _ _
    rw [e]
    exact triStep_ok v (triOne_ok v hi h1 h2 k) k
theorem triAll_ok {s : Store} {f : List Spring} (v : VOK s f) {t : List Int} {lots : Bool} : ∀ k : Nat, k ≤ manyO s lots → (triAll s f t lots k).length = f.length ∧ ∀ i, i < f.length → 0 ≤ (triAll s f t lots k).getD i 0 ∧ (triAll s f t lots k).getD i 0 ≤ (f.getD i ((0, 0), 0, 0)).2.1
  | 0, _ => by
    refine ⟨by simp [triAll], fun i hi => ?_⟩
    have : (triAll s f t lots 0).getD i 0 = 0 := by
      show (List.replicate f.length (0 : Int)).getD i 0 = 0
      rw [List.getD_eq_getElem?_getD, List.getElem?_replicate]; split <;> rfl
    have h2 := v.getS hi
    rw [this]; omega
  | k + 1, h => by
    have e : triAll s f t lots (k + 1) = (triOne s f t lots k (triAll s f t lots k) 8).2 := foldl_succ _ _ _
    have ih := triAll_ok v (t := t) (lots := lots) k (by omega)
    have := triOne_ok v (t := t) (show k < manyO s lots by omega) ih.1 ih.2 8
    rw [e]
    exact ⟨this.n, this.b⟩
theorem p53 {s : Store} {f : List Spring} {t : List Int} {b : Bool} {Q : List Int → Prop} (h : f53_wp (s, f, t, b, ()) () Q) : V53 s f t b Q := by
  obtain ⟨⟨hc, ht⟩, h⟩ := h
  have v : VOK s f := vok_of hc
  have ht : ∀ y, y ∈ t → byteB y := ht
  have h : Q (triAll s f t b (manyO s b)) := h
  have f1 := v.f1
  have f4 := v.f4
  have hm6 : manyO s b ≤ 6 := by
    have := v.n6
    have := v.n5
    unfold manyO; split <;> omega
  refine ⟨rfl, Int.natCast_nonneg _, by omega, fun x => x = (manyO s b : Nat), ?_, ?_⟩
  · cases b
    · exact (rfl : ((s.1.length : Nat) : Int) = _)
    · exact fun _ => (rfl : ((s.2.2.length : Nat) : Int) = _)
  rintro x rfl
  refine ⟨fun x1 x2 x3 => ∃ i : Nat, i ≤ manyO s b ∧ x1 = i ∧ x2 = ((8 * i : Nat) : Int) ∧ x3 = triAll s f t b i, fun x1 _ _ => (manyO s b - x1).toNat, ⟨0, by omega, rfl, rfl, rfl⟩, ?_⟩
  rintro x1 x2 x3 ⟨i, hi, rfl, rfl, rfl⟩
  refine cnd_iff.2 ⟨fun g1 => ?_, fun g1 => ?_⟩
  rotate_left
  · have g1 : ¬ (i : Int) < (manyO s b : Nat) := of_decide_eq_false g1
    have : i = manyO s b := by omega
    rw [this]; exact h
  have g1 : (i : Int) < (manyO s b : Nat) := of_decide_eq_true g1
  have him : i < manyO s b := by omega
  have all := triAll_ok v (t := t) (lots := b) i hi
  refine ⟨fun r => r = roomO s b i, ?_, ?_⟩
  · cases b with
    | true => exact cndT ⟨by omega, g1, by show _ = roomO s true i; unfold roomO; rw [if_pos rfl]; rfl⟩
    | false =>
      have hl := v.lv _ (getD_mem (d := 0) (show i < s.1.length from him))
      have hs := v.sm
      refine cndF ⟨by omega, g1, ?_⟩
      show IntKind.wrap .i64 (s.1.getD i 0 + s.2.1) = roomO s false i
      rw [wrapS (by omega) (by omega)]
      unfold roomO; rw [if_neg (by simp)]
  rintro r rfl
  refine ⟨fun y a l z => ∃ j : Nat, j ≤ 8 ∧ y = j ∧ a = ((8 * i + j : Nat) : Int) ∧ (l, z) = triOne s f t b i (triAll s f t b i) j, fun y _ _ _ => (8 - y).toNat, ⟨0, by omega, rfl, rfl, rfl⟩, ?_⟩
  rintro y a l z ⟨j, hj, rfl, rfl, hst⟩
  refine cnd_iff.2 ⟨fun g2 => ?_, fun g2 => ?_⟩
  rotate_left
  · have g2 : ¬ (j : Int) < 8 := of_decide_eq_false g2
    have hj : j = 8 := by omega
    subst hj
    have e : triAll s f t b (i + 1) = (triOne s f t b i (triAll s f t b i) 8).2 := foldl_succ _ _ _
    rw [wrapS (x := (i : Int) + 1) (by omega) (by omega)]
    refine ⟨⟨i + 1, by omega, by omega, by omega, ?_⟩, by dsimp only; omega⟩
    rw [e, ← hst]
  have g2 : (j : Int) < 8 := of_decide_eq_true g2
  have ok := triOne_ok v (t := t) him all.1 all.2 j
  have e1 : triOne s f t b i (triAll s f t b i) (j + 1) = triStep s f t b i (l, z) j := by rw [hst]; exact foldl_succ _ _ _
  rw [← hst] at ok
  have hn := triIdx_lt v t (8 * i + j)
  have hb := byteAt_b ht (8 * i + j)
  have em : Int.tmod (byteAt t (8 * i + j)) (f.length : Int) = ((triIdx f t (8 * i + j) : Nat) : Int) := by
    unfold triIdx
    rw [Int.tmod_eq_emod_of_nonneg hb.1, Int.natCast_emod, Int.toNat_of_nonneg hb.1]
  refine ⟨⟨by show (0 : Int) ≤ ((8 * i + j : Nat) : Int); omega, by show ((8 * i + j : Nat) : Int) ≤ 1000000000; omega, ht⟩, fun _ => ?_⟩
  show (f.length : Int) ≠ 0 ∧ 0 ≤ Int.tmod (byteAt t (8 * i + j)) (f.length : Int) ∧ Int.tmod (byteAt t (8 * i + j)) (f.length : Int) < (f.length : Nat) ∧ ∃ I : Int → Prop, cnd (!b) (I (IntKind.wrap .i64 ((f.getD (Int.tmod (byteAt t (8 * i + j)) (f.length : Int)).toNat ((0, 0), 0, 0)).1.2 + s.2.1))) (I (f.getD (Int.tmod (byteAt t (8 * i + j)) (f.length : Int)).toNat ((0, 0), 0, 0)).1.2) ∧ ∀ x7, I x7 → ∃ I : Bool → Prop,
    cnd (decide (x7 > l)) (I true) (0 ≤ Int.tmod (byteAt t (8 * i + j)) (f.length : Int) ∧ Int.tmod (byteAt t (8 * i + j)) (f.length : Int) < (z.length : Nat) ∧ 0 ≤ Int.tmod (byteAt t (8 * i + j)) (f.length : Int) ∧ Int.tmod (byteAt t (8 * i + j)) (f.length : Int) < (f.length : Nat) ∧ cnd (decide (z.getD (Int.tmod (byteAt t (8 * i + j)) (f.length : Int)).toNat 0 ≥ (f.getD (Int.tmod (byteAt t (8 * i + j)) (f.length : Int)).toNat ((0, 0), 0, 0)).2.1)) (I true) (cnd b (0 ≤ Int.tmod (byteAt t (8 * i + j)) (f.length : Int) ∧ Int.tmod (byteAt t (8 * i + j)) (f.length : Int) < (f.length : Nat) ∧ (0 : Int) ≤ i ∧ (i : Int) < (s.2.2.length : Nat) ∧ I (decide ((f.getD (Int.tmod (byteAt t (8 * i + j)) (f.length : Int)).toNat ((0, 0), 0, 0)).2.2 > (s.2.2.getD i (0, 0)).1))) (I false))) ∧
    ∀ x8, I x8 → cnd x8 ((∃ j' : Nat, j' ≤ 8 ∧ IntKind.wrap .i64 ((j : Int) + 1) = j' ∧ IntKind.wrap .i64 (((8 * i + j : Nat) : Int) + 1) = ((8 * i + j' : Nat) : Int) ∧ (l, z) = triOne s f t b i (triAll s f t b i) j') ∧ (8 - IntKind.wrap .i64 ((j : Int) + 1)).toNat < (8 - (j : Int)).toNat)
      (0 ≤ Int.tmod (byteAt t (8 * i + j)) (f.length : Int) ∧ Int.tmod (byteAt t (8 * i + j)) (f.length : Int) < (z.length : Nat) ∧ 0 ≤ Int.tmod (byteAt t (8 * i + j)) (f.length : Int) ∧ Int.tmod (byteAt t (8 * i + j)) (f.length : Int) < (z.length : Nat) ∧ (∃ j' : Nat, j' ≤ 8 ∧ IntKind.wrap .i64 ((j : Int) + 1) = j' ∧ IntKind.wrap .i64 (((8 * i + j : Nat) : Int) + 1) = ((8 * i + j' : Nat) : Int) ∧ (IntKind.wrap .i64 (l - x7), z.set (Int.tmod (byteAt t (8 * i + j)) (f.length : Int)).toNat (IntKind.wrap .i64 (z.getD (Int.tmod (byteAt t (8 * i + j)) (f.length : Int)).toNat 0 + 1))) = triOne s f t b i (triAll s f t b i) j') ∧ (8 - IntKind.wrap .i64 ((j : Int) + 1)).toNat < (8 - (j : Int)).toNat)
  rw [em, Int.toNat_natCast, wrapS (x := (j : Int) + 1) (by omega) (by omega), wrapS (x := ((8 * i + j : Nat) : Int) + 1) (by omega) (by omega)]
  have eS : triStep s f t b i (l, z) j = if triNo s f b i (l, z) (triIdx f t (8 * i + j)) then (l, z) else (l - takeO s f b (triIdx f t (8 * i + j)), z.set (triIdx f t (8 * i + j)) (z.getD (triIdx f t (8 * i + j)) 0 + 1)) := rfl
  generalize triIdx f t (8 * i + j) = n at hn eS ⊢
  have hzl : z.length = f.length := ok.n
  have hzb : 0 ≤ z.getD n 0 ∧ z.getD n 0 ≤ (f.getD n ((0, 0), 0, 0)).2.1 := ok.b n hn
  have hsp := v.getS hn
  have htk := takeO_b v b hn
  have hll : 0 ≤ l ∧ l ≤ 400 := ok.l
  refine ⟨by omega, by omega, by omega, fun x7 => x7 = takeO s f b n, ?_, ?_⟩
  · have hs := v.sm
    cases b with
    | true => exact cndF (by show _ = takeO s f true n; unfold takeO; rw [if_pos rfl, Int.add_zero])
    | false =>
      refine cndT ?_
      show IntKind.wrap .i64 ((f.getD n ((0, 0), 0, 0)).1.2 + s.2.1) = takeO s f false n
      rw [wrapS (by omega) (by omega)]
      unfold takeO; rw [if_neg (by simp)]
  rintro x7 rfl
  refine ⟨fun q => q = triNo s f b i (l, z) n, cnd_iff.2 ⟨fun g3 => ?_, fun g3 => ⟨by omega, by omega, by omega, by omega, cnd_iff.2 ⟨fun g4 => ?_, fun g4 => ?_⟩⟩⟩, ?_⟩
  · show true = triNo s f b i (l, z) n
    unfold triNo; rw [g3]; rfl
  · show true = triNo s f b i (l, z) n
    unfold triNo; rw [g3, g4]; rfl
  · have eN : triNo s f b i (l, z) n = (b && decide ((f.getD n ((0, 0), 0, 0)).2.2 > (s.2.2.getD i (0, 0)).1)) := by
      unfold triNo; rw [g3, g4, Bool.false_or, Bool.false_or]
    refine cnd_iff.2 ⟨fun hbt => ⟨by omega, by omega, by omega, ?_, ?_⟩, fun hbf => ?_⟩
    · rw [hbt] at g1; exact g1
    · show _ = triNo s f b i (l, z) n
      rw [eN, hbt, Bool.true_and]
    · show false = triNo s f b i (l, z) n
      rw [eN, hbf, Bool.false_and]
  rintro q rfl
  refine cnd_iff.2 ⟨fun g3 => ⟨⟨j + 1, by omega, by omega, by omega, ?_⟩, by omega⟩, fun g3 => ⟨by omega, by omega, by omega, by omega, ⟨j + 1, by omega, by omega, by omega, ?_⟩, by omega⟩⟩
  · rw [e1, eS, if_pos g3]
  · rw [e1, eS, if_neg (by rw [g3]; simp), wrapS (x := l - takeO s f b n) (by omega) (by omega), wrapS (x := z.getD n 0 + 1) (by omega) (by omega)]
end Go.Proofs.Fa
set_option linter.unusedVariables false
namespace Go.Proofs.Fa
open Go Go.GX Go.Proofs

def addF (a b : FansT) : FansT := (a.1 + b.1, a.2.1 + b.2.1, a.2.2.1 + b.2.2.1, a.2.2.2 + b.2.2.2)
theorem at4_add (a b : FansT) : ∀ {i : Nat}, i < 4 → at4 (addF a b) i = at4 a i + at4 b i
  | 0, _ => rfl
  | 1, _ => rfl
  | 2, _ => rfl
  | 3, _ => rfl
  | k + 4, h => absurd h (by omega)
theorem le4_mk {a b : FansT} (h : ∀ i, i < 4 → 0 ≤ at4 a i ∧ at4 a i ≤ at4 b i) : le4 a b := ⟨h 0 (by omega), h 1 (by omega), h 2 (by omega), h 3 (by omega)⟩
theorem F5_mk {a : FansT} (h : ∀ i, i < 4 → 0 ≤ at4 a i ∧ at4 a i ≤ 4) : F5 a := ⟨h 0 (by omega), h 1 (by omega), h 2 (by omega), h 3 (by omega)⟩
theorem F5_at {a : FansT} (h : F5 a) {i : Nat} (hi : i < 4) : 0 ≤ at4 a i ∧ at4 a i ≤ 4 := all4_at h hi
theorem can_snoc {b : BinT} {T : FansT} (hc : 0 ≤ costF b T) (hT : F5 T) : ∀ (A : List BinT) {F : FansT}, F5 F → F5 (addF F T) → 0 ≤ tval A F → 0 ≤ tval (A ++ [b]) (addF F T)
  | [], F, hF, hS, h => by
    have hno : GX.Fa.isNo F = true := by
      cases hh : GX.Fa.isNo F with
      | true => rfl
      | false =>
        have h : 0 ≤ (if GX.Fa.isNo F then (0 : Int) else -1) := h
        rw [hh] at h
        exact absurd h (by decide)
    show 0 ≤ tval [b] (addF F T)
    rw [can_cons hS]
    refine ⟨T, le4_mk fun i hi => ?_, ?_, hc⟩
    · have := F5_at hF hi
      have := F5_at hT hi
      rw [at4_add _ _ hi]; omega
    · have e : GX.Fa.less (addF F T) T = F := fan_ext fun i hi => by rw [at4_less _ _ hi, at4_add _ _ hi]; omega
      rw [e]
      show 0 ≤ (if GX.Fa.isNo F then (0 : Int) else -1)
      rw [hno]; decide
  | a :: A, F, hF, hS, h => by
    rw [List.cons_append, can_cons hS]
    rw [can_cons hF] at h
    obtain ⟨s, hle, ht, hca⟩ := h
    have h5 := le4_F5 hle hF
    refine ⟨s, le4_mk fun i hi => ?_, ?_, hca⟩
    · have := le4_at hle hi
      have := F5_at hT hi
      rw [at4_add _ _ hi]; omega
    · have e : GX.Fa.less (addF F T) s = addF (GX.Fa.less F s) T := fan_ext fun i hi => by
        rw [at4_less _ _ hi, at4_add _ _ hi, at4_add _ _ hi, at4_less _ _ hi]; omega
      rw [e]
      refine can_snoc hc hT A h5.2 (F5_mk fun i hi => ?_) ht
      have h1 := F5_at hS hi
      have h2 := F5_at h5.2 hi
      have h3 := F5_at hT hi
      have h4 := le4_at hle hi
      rw [at4_add _ _ hi] at h1 ⊢
      rw [at4_less _ _ hi] at h2 ⊢
      omega
def minF (a b : FansT) : FansT := tup4 fun i => mnI (at4 a i) (at4 b i)
theorem mnI_le (a b : Int) : mnI a b ≤ a ∧ mnI a b ≤ b ∧ (mnI a b = a ∨ mnI a b = b) := by
  unfold mnI; split <;> omega
theorem at4_min (a b : FansT) {i : Nat} (hi : i < 4) : at4 (minF a b) i = mnI (at4 a i) (at4 b i) := at4_tup _ hi
theorem can_down : ∀ {bs : List BinT}, Bins0 bs → (∀ b, b ∈ bs → all4 (fun x => 0 ≤ x) b.1) → ∀ {F m : FansT}, F5 F → le4 m F → 0 ≤ tval bs F → 0 ≤ tval bs m
  | [], _, _, F, m, hF, hm, h => by
    have h : 0 ≤ (if GX.Fa.isNo F then (0 : Int) else -1) := h
    cases hh : GX.Fa.isNo F with
    | false => rw [hh] at h; exact absurd h (by decide)
    | true =>
      simp only [GX.Fa.isNo, Bool.and_eq_true, beq_iff_eq] at hh
      obtain ⟨⟨a1, a2⟩, ⟨b1, b2⟩, ⟨c1, c2⟩, ⟨d1, d2⟩⟩ := hm
      have : GX.Fa.isNo m = true := by
        simp only [GX.Fa.isNo, Bool.and_eq_true, beq_iff_eq]
        exact ⟨by omega, by omega, by omega, by omega⟩
      show 0 ≤ (if GX.Fa.isNo m then (0 : Int) else -1)
      rw [this]; decide
  | b :: r, hb, h0, F, m, hF, hm, h => by
    obtain ⟨b1, b2, b3⟩ := hb.cons
    have hm5 := (le4_F5 hm hF).1
    rw [can_cons hF] at h
    rw [can_cons hm5]
    obtain ⟨s, hle, ht, hc⟩ := h
    have h5 := le4_F5 hle hF
    have hs' : le4 (minF s m) m := le4_mk fun i hi => by
      have := mnI_le (at4 s i) (at4 m i)
      have := le4_at hle hi
      have := le4_at hm hi
      rw [at4_min _ _ hi]; omega
    have hs5 := le4_F5 hs' hm5
    refine ⟨minF s m, hs', can_down b3 (fun x hx => h0 x (by simp [hx])) h5.2 (le4_mk fun i hi => ?_) ht, ?_⟩
    · have := mnI_le (at4 s i) (at4 m i)
      have := le4_at hle hi
      have := le4_at hm hi
      rw [at4_less _ _ hi, at4_less _ _ hi, at4_min _ _ hi]; omega
    · refine (cost_fit (b2 _ hs5.1)).2 (decide_eq_true ?_)
      have hf : GX.Fa.dot s b.1 ≤ b.2.2.1 := of_decide_eq_true ((cost_fit (b2 s h5.1)).1 hc)
      refine Int.le_trans ?_ hf
      have key : ∀ i, i < 4 → at4 (minF s m) i * at4 b.1 i ≤ at4 s i * at4 b.1 i := fun i hi => by
        refine Int.mul_le_mul_of_nonneg_right ?_ (all4_at (h0 b (by simp)) hi)
        rw [at4_min _ _ hi]; exact (mnI_le _ _).1
      rw [dot_at, dot_at]
      have k0 := key 0 (by omega)
      have k1 := key 1 (by omega)
      have k2 := key 2 (by omega)
      have k3 := key 3 (by omega)
      omega
theorem lvR_pos {s : Store} {f : List Spring} (v : VOK s f) {c : FansT} (hc : all4 (fun x => 0 ≤ x ∧ x ≤ 40) c) {e fi : Int} : ∀ b, b ∈ Fa.lvR s c e fi → all4 (fun x => 0 ≤ x) b.1 := fun b hb => by
  simp only [Fa.lvR, leavesR, List.mem_map] at hb
  obtain ⟨p, _, rfl⟩ := hb
  exact all4_tup fun i hi => by have := (all4_at hc hi).1; have := v.sm; omega
theorem ltR_pos {s : Store} {f : List Spring} (v : VOK s f) {c : FansT} (hc : all4 (fun x => 0 ≤ x ∧ x ≤ 40) c) : ∀ b, b ∈ Fa.ltR s f c → all4 (fun x => 0 ≤ x) b.1 := fun b hb => by
  simp only [Fa.ltR, lotsR, List.mem_map] at hb
  obtain ⟨l, _, rfl⟩ := hb
  exact all4_tup fun i hi => by
    split
    · split
      · omega
      · exact (all4_at hc hi).1
    · omega
def vecL (l : List Int) : FansT := tup4 fun i => l.getD i 0
theorem vec_at {l : List Int} {i : Nat} (hi : i < 4) : at4 (vecL l) i = l.getD i 0 := at4_tup _ hi
def takesF (s : Store) (f : List Spring) (lots : Bool) : FansT := tup4 fun n => takeO s f lots n
theorem getD_none {l : List Int} {i : Nat} (h : l.length ≤ i) : l.getD i 0 = 0 := by
  rw [List.getD_eq_getElem?_getD, List.getElem?_eq_none h]; rfl
theorem dot_bump {T t : FansT} {n : Nat} (hn : n < 4) : GX.Fa.dot (bump T n) t = GX.Fa.dot T t + at4 t n := by
  have key : ∀ i, i < 4 → at4 (bump T n) i * at4 t i = at4 T i * at4 t i + if i = n then at4 t i else 0 := fun i hi => by
    rw [bump_at (by omega) hi, Int.add_mul]
    by_cases h : i = n
    · rw [if_pos (by omega), if_pos h, Int.one_mul]
    · rw [if_neg (by omega), if_neg h, Int.zero_mul]
  rw [dot_at, dot_at, key 0 (by omega), key 1 (by omega), key 2 (by omega), key 3 (by omega)]
  match n, hn with
  | 0, _ => simp; omega
  | 1, _ => simp; omega
  | 2, _ => simp; omega
  | 3, _ => simp; omega
structure TriT (s : Store) (f : List Spring) (lots : Bool) (i : Nat) (F : FansT) (st : Int × List Int) (T : FansT) : Prop where
  p : ∀ n, n < 4 → 0 ≤ at4 T n
  e : vecL st.2 = addF F T
  d : GX.Fa.dot T (takesF s f lots) = roomO s lots i - st.1
  w : lots = true → ∀ n, n < f.length → 1 ≤ at4 T n → (f.getD n ((0, 0), 0, 0)).2.2 ≤ (s.2.2.getD i (0, 0)).1
  z : supp f.length T
theorem tri_T {s : Store} {f : List Spring} (v : VOK s f) {t : List Int} {lots : Bool} {i : Nat} (hi : i < manyO s lots) {fans : List Int} (h1 : fans.length = f.length) (h2 : ∀ i, i < f.length → 0 ≤ fans.getD i 0 ∧ fans.getD i 0 ≤ (f.getD i ((0, 0), 0, 0)).2.1) : ∀ k : Nat, ∃ T, TriT s f lots i (vecL fans) (triOne s f t lots i fans k) T
  | 0 => by
    refine ⟨NO4, ⟨fun n hn => ?_, fan_ext fun n hn => ?_, ?_, fun _ n _ hn1 => ?_, fun n hn _ => ?_⟩⟩
    · match n, hn with
      | 0, _ => exact Int.le_refl _
      | 1, _ => exact Int.le_refl _
      | 2, _ => exact Int.le_refl _
      | 3, _ => exact Int.le_refl _
    · rw [at4_add _ _ hn]
      match n, hn with
      | 0, _ => exact (Int.add_zero _).symm
      | 1, _ => exact (Int.add_zero _).symm
      | 2, _ => exact (Int.add_zero _).symm
      | 3, _ => exact (Int.add_zero _).symm
    · show (0 : Int) * _ + 0 * _ + 0 * _ + 0 * _ = roomO s lots i - roomO s lots i
      simp
    · have : at4 NO4 n = 0 := by
        match n with
        | 0 => rfl
        | 1 => rfl
        | 2 => rfl
        | 3 => rfl
        | n + 4 => rfl
      omega
    · match n, hn with
      | 0, _ => rfl
      | 1, _ => rfl
      | 2, _ => rfl
      | 3, _ => rfl
  | k + 1 => by
    obtain ⟨T, hT⟩ := tri_T v (t := t) hi h1 h2 k
    have ok := triOne_ok v (t := t) hi h1 h2 k
    have e : triOne s f t lots i fans (k + 1) = triStep s f t lots i (triOne s f t lots i fans k) k := foldl_succ _ _ _
    rw [e]
    have hn := triIdx_lt v t (8 * i + k)
    have f4 := v.f4
    unfold triStep
    generalize triIdx f t (8 * i + k) = n at hn ⊢
    generalize triOne s f t lots i fans k = st at hT ok ⊢
    split
    · exact ⟨T, hT⟩
    · rename_i hno
      simp only [triNo, Bool.or_eq_true, Bool.and_eq_true, decide_eq_true_eq, not_or, not_and] at hno
      obtain ⟨q1, q2, q3⟩ := hno
      have hn4 : n < 4 := by omega
      refine ⟨bump T n, ⟨fun m hm => ?_, fan_ext fun m hm => ?_, ?_, fun hl m hm hm1 => ?_, fun m hm hmn => ?_⟩⟩
      · have := hT.p m hm
        rw [bump_at (by omega) hm]; split <;> omega
      · have : at4 (vecL st.2) m = at4 (addF (vecL fans) T) m := congrArg (fun x => at4 x m) hT.e
        rw [vec_at hm, at4_add _ _ hm] at this
        rw [vec_at hm, at4_add _ _ hm, bump_at (by omega) hm]
        show (st.2.set n _).getD m 0 = _
        rw [getD_set (by rw [ok.n]; exact hn)]
        by_cases hmn : m = n
        · subst hmn
          rw [if_pos rfl, if_pos rfl]; omega
        · rw [if_neg hmn, if_neg (by omega)]; omega
      · rw [dot_bump hn4, hT.d]
        have : at4 (takesF s f lots) n = takeO s f lots n := at4_tup _ hn4
        rw [this]
        show _ = roomO s lots i - (st.1 - takeO s f lots n)
        omega
      · by_cases hmn : m = n
        · subst hmn
          have := q3 hl; omega
        · refine hT.w hl m hm ?_
          rw [bump_at (by omega) (by omega), if_neg (by omega)] at hm1
          omega
      · have := hT.z m hm hmn
        rw [bump_at (by omega) hm, if_neg (by omega)]; omega
def binsO (s : Store) (f : List Spring) (lots : Bool) : List BinT := if lots then Fa.ltR s f (cH f) else Fa.lvR s (cH f) 0 0
theorem binsO_ok {s : Store} {f : List Spring} (v : VOK s f) (lots : Bool) : Bins0 (binsO s f lots) ∧ (binsO s f lots).length = manyO s lots := by
  cases lots with
  | true => exact ⟨v.ltR v.cH, by show (Fa.ltR s f (cH f)).length = s.2.2.length; simp [Fa.ltR, lotsR]⟩
  | false => exact ⟨v.lvR v.cH, by show (Fa.lvR s (cH f) 0 0).length = s.1.length; simp [Fa.lvR, leavesR]⟩
theorem tri_fits {s : Store} {f : List Spring} (v : VOK s f) {lots : Bool} {i : Nat} (hi : i < manyO s lots) {F T : FansT} {st : Int × List Int} (h : TriT s f lots i F st T) (hl : 0 ≤ st.1) : GX.Fa.fitsB ((binsO s f lots).getD i noB) T = true := by
  have f4 := v.f4
  cases lots with
  | false =>
    have hi : i < s.1.length := hi
    have e : (binsO s f false).getD i noB = (tup4 fun j => at4 (cH f) j + s.2.1, tup4 fun _ => 0, s.1.getD i 0 + s.2.1, 0) := leaves_get hi
    rw [e]
    refine decide_eq_true ?_
    have hd : GX.Fa.dot T (tup4 fun j => at4 (cH f) j + s.2.1) = GX.Fa.dot T (takesF s f false) := dot_supp fun j hj => by
      by_cases hn : j < f.length
      · refine .inr ?_
        rw [cH_at hj, if_pos hn]
        unfold takeO; rw [if_neg (by simp)]
      · exact .inl (h.z j hj (by omega))
    show GX.Fa.dot T (tup4 fun j => at4 (cH f) j + s.2.1) ≤ s.1.getD i 0 + s.2.1
    rw [hd, h.d]
    unfold roomO; rw [if_neg (by simp)]; omega
  | true =>
    have hi : i < s.2.2.length := hi
    have e : (binsO s f true).getD i noB = lotR f (cH f) (s.2.2.getD i (0, 0)) := lots_get hi
    rw [e]
    refine decide_eq_true ?_
    have hd : GX.Fa.dot T (lotR f (cH f) (s.2.2.getD i (0, 0))).1 = GX.Fa.dot T (takesF s f true) := dot_supp fun j hj => by
      by_cases hn : j < f.length
      · by_cases h0 : at4 T j = 0
        · exact .inl h0
        · refine .inr ?_
          have := h.w rfl j hn (by have := h.p j hj; omega)
          rw [if_pos hn, if_neg (by omega), cH_at hj, if_pos hn]
          unfold takeO; rw [if_pos rfl, Int.add_zero]
      · exact .inl (h.z j hj (by omega))
    show GX.Fa.dot T (lotR f (cH f) (s.2.2.getD i (0, 0))).1 ≤ (s.2.2.getD i (0, 0)).2
    rw [hd, h.d]
    unfold roomO; rw [if_pos rfl]; omega
theorem vec_le {s : Store} {f : List Spring} (v : VOK s f) {l : List Int} (hl : l.length = f.length) (hb : ∀ i, i < f.length → 0 ≤ l.getD i 0 ∧ l.getD i 0 ≤ (f.getD i ((0, 0), 0, 0)).2.1) : le4 (vecL l) (wantF f) := le4_mk fun i hi => by
  rw [vec_at hi, want_at hi]
  by_cases hn : i < f.length
  · rw [if_pos hn]; exact hb i hn
  · rw [if_neg hn, getD_none (by omega)]; omega
theorem tri_can {s : Store} {f : List Spring} (v : VOK s f) {t : List Int} {lots : Bool} : ∀ k : Nat, k ≤ manyO s lots → 0 ≤ tval ((binsO s f lots).take k) (vecL (triAll s f t lots k))
  | 0, _ => by
    have e : vecL (triAll s f t lots 0) = NO4 := fan_ext fun i hi => by
      rw [vec_at hi]
      have : (triAll s f t lots 0).getD i 0 = 0 := by
        show (List.replicate f.length (0 : Int)).getD i 0 = 0
        rw [List.getD_eq_getElem?_getD, List.getElem?_replicate]; split <;> rfl
      rw [this]
      match i, hi with
      | 0, _ => rfl
      | 1, _ => rfl
      | 2, _ => rfl
      | 3, _ => rfl
    rw [e]
    show 0 ≤ (if GX.Fa.isNo NO4 then (0 : Int) else -1)
    decide
  | k + 1, h => by
    have hk : k < manyO s lots := by omega
    have ih := tri_can v (t := t) (lots := lots) k (by omega)
    have all := triAll_ok v (t := t) (lots := lots) k (by omega)
    have all1 := triAll_ok v (t := t) (lots := lots) (k + 1) h
    have e : triAll s f t lots (k + 1) = (triOne s f t lots k (triAll s f t lots k) 8).2 := foldl_succ _ _ _
    obtain ⟨T, hT⟩ := tri_T v (t := t) hk all.1 all.2 8
    have ok := triOne_ok v (t := t) hk all.1 all.2 8
    obtain ⟨hb, hlen⟩ := binsO_ok v lots
    have hw : F5 (wantF f) := v.want4
    have hF := (le4_F5 (vec_le v all.1 all.2) hw).1
    have hS := (le4_F5 (vec_le v all1.1 all1.2) hw).1
    rw [take_snoc (by omega) noB]
    have e2 : vecL (triAll s f t lots (k + 1)) = addF (vecL (triAll s f t lots k)) T := by rw [e]; exact hT.e
    rw [e2] at hS ⊢
    have hT5 : F5 T := F5_mk fun i hi => by
      have h1 := F5_at hS hi
      have h2 := F5_at hF hi
      have h3 := hT.p i hi
      rw [at4_add _ _ hi] at h1
      omega
    refine can_snoc ?_ hT5 _ hF hS ih
    have hmem : (binsO s f lots).getD k noB ∈ binsO s f lots := getD_mem (by omega)
    exact (cost_fit (hb.n _ hmem T hT5)).2 (tri_fits v hk hT ok.l.1)
theorem tried_can {s : Store} {f : List Spring} (v : VOK s f) (t : List Int) (lots : Bool) : 0 ≤ tval (binsO s f lots) (vecL (triAll s f t lots (manyO s lots))) := by
  have := tri_can v (t := t) (lots := lots) (manyO s lots) (Nat.le_refl _)
  rw [List.take_of_length_le (by rw [(binsO_ok v lots).2]; omega)] at this
  exact this

theorem can_zero : ∀ {bs : List BinT}, Bins0 bs → (∀ b, b ∈ bs → 0 ≤ b.2.2.1) → 0 ≤ tval bs NO4
  | [], _, _ => by show 0 ≤ (if GX.Fa.isNo NO4 then (0 : Int) else -1); decide
  | b :: r, hb, h => by
    obtain ⟨b1, b2, b3⟩ := hb.cons
    rw [can_cons NO4_5]
    refine ⟨NO4, NO4_le NO4_5, by rw [less_NO4]; exact can_zero b3 fun x hx => h x (by simp [hx]), (cost_fit (b2 _ NO4_5)).2 (decide_eq_true ?_)⟩
    have hd : GX.Fa.dot NO4 b.1 = 0 := by
      show (0 : Int) * b.1.1 + 0 * b.1.2.1 + 0 * b.1.2.2.1 + 0 * b.1.2.2.2 = 0
      simp
    rw [hd]; exact h b (by simp)
theorem en_zero {s : Store} {f : List Spring} (v : VOK s f) : enR s f (cH f) NO4 = true := by
  unfold enR
  simp only [Bool.and_eq_true, decide_eq_true_eq]
  refine ⟨can_zero (v.lvR v.cH) fun b hb => ?_, can_zero (v.ltR v.cH) fun b hb => ?_⟩
  · simp only [Fa.lvR, leavesR, List.mem_map] at hb
    obtain ⟨p, hp, rfl⟩ := hb
    have := v.lv p hp
    have := v.sm
    show 0 ≤ p + s.2.1
    omega
  · simp only [Fa.ltR, lotsR, List.mem_map] at hb
    obtain ⟨l, hl, rfl⟩ := hb
    exact (v.lt l hl).2.1
theorem most_props {s : Store} {f : List Spring} (v : VOK s f) : le4 (mostR s f) (wantF f) ∧ enR s f (cH f) (mostR s f) = true ∧ ∀ m, le4 m (wantF f) → enR s f (cH f) m = true → sumF m ≤ sumF (mostR s f) := by
  have hw : F5 (wantF f) := v.want4
  obtain ⟨b1, b2, b3⟩ := mostR_fold s f 625 (by omega)
  have b5 := most_F5 (s := s) (f := f) 625 (by omega)
  have e2 : (List.range 625).foldl (fun b (n : Nat) => mostStR s f b (atF n)) NO4 = mostR s f := rfl
  rw [e2] at b1 b2 b3 b5
  refine ⟨?_, ?_, fun m hm he => ?_⟩
  · rcases b1 with b1 | ⟨k, hk, b1, _, c2⟩
    · rw [b1]; exact NO4_le hw
    · rw [b1]; exact le4_of (atF_bnd (by omega) (by omega)) c2
  · rcases b1 with b1 | ⟨k, hk, b1, c1, _⟩
    · rw [b1]; exact en_zero v
    · rw [b1]; exact c1
  · have m5 := (le4_F5 hm hw).1
    have hi := idx_bnd m5
    have hA : atF (((idx5 m).toNat : Nat) : Int) = m := by rw [show (((idx5 m).toNat : Nat) : Int) = idx5 m by omega]; exact at_idx m5
    have := b3 (idx5 m).toNat (by omega) (by rw [hA]; exact he) (by rw [hA]; exact le4_ge hm)
    rw [hA] at this
    have hj := idx_bnd b5
    unfold keyF at this
    omega

def chF (f : List Spring) (g : Nat → Int) : List Spring := (List.range f.length).map fun i => ((f.getD i ((0, 0), 0, 0)).1, g i, (f.getD i ((0, 0), 0, 0)).2.2)
theorem ch_len (f : List Spring) (g : Nat → Int) : (chF f g).length = f.length := by simp [chF]
theorem ch_get {f : List Spring} {g : Nat → Int} {i : Nat} (hi : i < f.length) : (chF f g).getD i ((0, 0), 0, 0) = ((f.getD i ((0, 0), 0, 0)).1, g i, (f.getD i ((0, 0), 0, 0)).2.2) := by
  unfold chF
  rw [List.getD_eq_getElem?_getD, List.getElem?_map, List.getElem?_range hi]; rfl
theorem ch_cH (f : List Spring) (g : Nat → Int) : cH (chF f g) = cH f := fan_ext fun i hi => by
  rw [cH_at hi, cH_at hi, ch_len]
  by_cases hn : i < f.length
  · rw [if_pos hn, if_pos hn, ch_get hn]
  · rw [if_neg hn, if_neg hn]
theorem ch_want {f : List Spring} {g : Nat → Int} {i : Nat} (hi : i < 4) : at4 (wantF (chF f g)) i = if i < f.length then g i else 0 := by
  rw [want_at hi, ch_len]
  by_cases hn : i < f.length
  · rw [if_pos hn, if_pos hn, ch_get hn]
  · rw [if_neg hn, if_neg hn]
theorem ch_lt (s : Store) (f : List Spring) (g : Nat → Int) (c : FansT) : Fa.ltR s (chF f g) c = Fa.ltR s f c := by
  unfold Fa.ltR lotsR
  refine List.map_congr_left fun l _ => ?_
  have key : ∀ i, (if i < (chF f g).length then (if ((chF f g).getD i ((0, 0), 0, 0)).2.2 > l.1 then (1000 : Int) else at4 c i) else 0) = (if i < f.length then (if (f.getD i ((0, 0), 0, 0)).2.2 > l.1 then 1000 else at4 c i) else 0) := fun i => by
    rw [ch_len]
    by_cases hn : i < f.length
    · rw [if_pos hn, if_pos hn, ch_get hn]
    · rw [if_neg hn, if_neg hn]
  have key2 : ∀ i, (if i < (chF f g).length then (if ((chF f g).getD i ((0, 0), 0, 0)).2.2 > l.1 then (0 : Int) else at4 c i * (l.1 - ((chF f g).getD i ((0, 0), 0, 0)).2.2)) else 0) = (if i < f.length then (if (f.getD i ((0, 0), 0, 0)).2.2 > l.1 then 0 else at4 c i * (l.1 - (f.getD i ((0, 0), 0, 0)).2.2)) else 0) := fun i => by
    rw [ch_len]
    by_cases hn : i < f.length
    · rw [if_pos hn, if_pos hn, ch_get hn]
    · rw [if_neg hn, if_neg hn]
  unfold lotR
  simp only [key, key2]
theorem ch_check {s : Store} {f : List Spring} (hc : checkF s f = 0) {g : Nat → Int} (hg : ∀ i, i < f.length → 0 ≤ g i ∧ g i ≤ 4) : checkF s (chF f g) = 0 := by
  have v : VOK s f := vok_of hc
  have hall : (chF f g).all isSprF = true := by
    rw [List.all_eq_true]
    intro x hx
    obtain ⟨j, hj, rfl⟩ := List.mem_iff_getElem.1 hx
    have hj' : j < f.length := by rw [ch_len] at hj; exact hj
    have e := ch_get (f := f) (g := g) hj'
    rw [getD_lt hj] at e
    rw [e]
    have h1 := v.getS hj'
    have h2 := hg j hj'
    unfold isSprF
    simp only [Bool.and_eq_true, decide_eq_true_eq, inB_iff]
    omega
  unfold checkF at hc ⊢
  rw [ch_len]
  split at hc
  · cases hc
  rename_i h1
  split at hc
  · cases hc
  rename_i h2
  split at hc
  · cases hc
  rename_i h3
  rw [if_neg h1, if_neg h2, if_neg h3, if_neg (by rw [hall]; simp)]
theorem ch_en (s : Store) (f : List Spring) (g : Nat → Int) (n : FansT) : enR s (chF f g) (cH (chF f g)) n = enR s f (cH f) n := by
  unfold enR
  rw [ch_lt, ch_cH]
theorem enough_eq {s : Store} {f : List Spring} (hc : checkF s f = 0) : (resEnough s f).1 = enR s f (cH f) (wantF f) ∧ (resEnough s f).2.2 = 0 := by
  have v : VOK s f := vok_of hc
  unfold resEnough
  rw [if_neg (by simp [hc]), en_eq v v.cH v.want4 (want_supp f)]
  exact ⟨rfl, rfl⟩
end Go.Proofs.Fa
set_option linter.unusedVariables false
namespace Go.Proofs.Fa
open Go Go.GX Go.Proofs

theorem getD_setG {α : Type} {l : List α} {k n : Nat} {v d : α} (hk : k < l.length) : (l.set k v).getD n d = if n = k then v else l.getD n d := by
  rw [List.getD_eq_getElem?_getD, List.getElem?_set, List.getD_eq_getElem?_getD]
  by_cases h : k = n
  · subst h; rw [if_pos rfl, if_pos hk, if_pos rfl]; rfl
  · rw [if_neg h, if_neg (fun e => h e.symm)]
theorem ch_ext {f : List Spring} {l : List Spring} {g : Nat → Int} (hl : l.length = f.length) (h : ∀ j, j < f.length → l.getD j ((0, 0), 0, 0) = ((f.getD j ((0, 0), 0, 0)).1, g j, (f.getD j ((0, 0), 0, 0)).2.2)) : l = chF f g :=
  list_ext' ((0, 0), 0, 0) (by rw [ch_len, hl]) fun j hj => by rw [h j (by omega), ch_get (by omega)]
theorem ch_same (f : List Spring) : f = chF f (fun i => (f.getD i ((0, 0), 0, 0)).2.1) := ch_ext rfl fun j hj => rfl
theorem ch_set {f : List Spring} {g : Nat → Int} {k : Nat} (hk : k < f.length) (u : Int) : (chF f g).set k ((((chF f g).getD k ((0, 0), 0, 0)).1.1, ((chF f g).getD k ((0, 0), 0, 0)).1.2), u, ((chF f g).getD k ((0, 0), 0, 0)).2.2) = chF f (fun i => if i = k then u else g i) := by
  refine ch_ext (by simp [ch_len]) fun j hj => ?_
  rw [getD_setG (by rw [ch_len]; exact hk)]
  by_cases h : j = k
  · subst h
    rw [if_pos rfl, ch_get hj]; simp
  · rw [if_neg h, ch_get hj]; simp [h]
theorem ch_congr {f : List Spring} {g g' : Nat → Int} (h : ∀ i, i < f.length → g i = g' i) : chF f g = chF f g' := ch_ext (ch_len _ _) fun j hj => by rw [ch_get hj, h j hj]
theorem sum4 {n : Nat} (hn : n ≤ 4) (m : FansT) (hs : supp n m) (g : Nat → Int) (hg : ∀ i, i < n → g i = at4 m i) : (List.range n).foldl (fun a i => a + g i) 0 = sumF m := by
  have z : ∀ i, i < 4 → n ≤ i → at4 m i = 0 := hs
  match n, hn with
  | 0, _ =>
    have a := z 0 (by omega) (by omega)
    have b := z 1 (by omega) (by omega)
    have c := z 2 (by omega) (by omega)
    have d := z 3 (by omega) (by omega)
    rw [sumF_at, a, b, c, d]; rfl
  | 1, _ =>
    have a := hg 0 (by omega)
    have b := z 1 (by omega) (by omega)
    have c := z 2 (by omega) (by omega)
    have d := z 3 (by omega) (by omega)
    rw [sumF_at, b, c, d, ← a]
    show 0 + g 0 = _
    omega
  | 2, _ =>
    have a := hg 0 (by omega)
    have b := hg 1 (by omega)
    have c := z 2 (by omega) (by omega)
    have d := z 3 (by omega) (by omega)
    rw [sumF_at, c, d, ← a, ← b]
    show 0 + g 0 + g 1 = _
    omega
  | 3, _ =>
    have a := hg 0 (by omega)
    have b := hg 1 (by omega)
    have c := hg 2 (by omega)
    have d := z 3 (by omega) (by omega)
    rw [sumF_at, d, ← a, ← b, ← c]
    show 0 + g 0 + g 1 + g 2 = _
    omega
  | 4, _ =>
    have a := hg 0 (by omega)
    have b := hg 1 (by omega)
    have c := hg 2 (by omega)
    have d := hg 3 (by omega)
    rw [sumF_at, ← a, ← b, ← c, ← d]
    show 0 + g 0 + g 1 + g 2 + g 3 = _
    omega
theorem list_sum {l : List Int} : ∀ {n : Nat}, n ≤ l.length → (l.take n).sum = (List.range n).foldl (fun a i => a + l.getD i 0) 0
  | 0, _ => by simp
  | n + 1, h => by
    rw [take_snoc (by omega) 0, List.sum_append, foldl_succ, list_sum (by omega)]
    simp
theorem p14 {x : Season} {t u : List Int} {Q : Bool → Prop} (h : f14_wp (x, t, u, ()) () Q) : V14 x t u Q := by
  obtain ⟨⟨okx, ht, hu⟩, h⟩ := h
  have okx : SeaOK x := okx
  have ht : ∀ y, y ∈ t → byteB y := ht
  have hu : ∀ y, y ∈ u → byteB y := hu
  have h : Q true := h
  have hc := sea_ok x
  have v := vok_of hc
  have hsl := seaF_len x
  have n1 : (seaS x).1.length ≤ 1000 ∧ (seaS x).2.2.length ≤ 1000 := ⟨by have := v.n6; omega, by have := v.n5; omega⟩
  have n2 : (seaF x).length ≤ 1000 := by omega
  refine ⟨okx, n1, n2, n1, n2, fun b => b = false, ?_, ?_⟩
  all_goals
    have f4 := v.f4
    have hw : F5 (wantF (seaF x)) := v.want4
    obtain ⟨mle, men, mmax⟩ := most_props v
    have em : resMost (seaS x) (seaF x) = ((l4 (mostR (seaS x) (seaF x))).take (seaF x).length, 0) := by
      unfold resMost; rw [if_neg (by simp [hc]), most_eq v]
    have ee := enough_eq hc
    have hLl : ((l4 (mostR (seaS x) (seaF x))).take (seaF x).length).length = (seaF x).length := by
      rw [List.length_take]; show min _ 4 = _; omega
  · show cnd ((resMost (seaS x) (seaF x)).2 != 0) (true = false) (cnd ((resEnough (seaS x) (seaF x)).2.2 != 0) (true = false) (_ → _ → (((resMost (seaS x) (seaF x)).1.length : Int) != ((seaF x).length : Int)) = false))
    rw [em, ee.2]
    refine cndN rfl (cndN rfl fun _ _ => ?_)
    show (((((l4 (mostR (seaS x) (seaF x))).take (seaF x).length).length : Nat) : Int) != ((seaF x).length : Int)) = false
    rw [hLl]; simp
  rintro b rfl
  obtain ⟨M, hM⟩ : ∃ M, M = mostR (seaS x) (seaF x) := ⟨_, rfl⟩
  obtain ⟨L, hL⟩ : ∃ L, L = (l4 M).take (seaF x).length := ⟨_, rfl⟩
  rw [← hM] at mle men mmax em hLl
  rw [← hL] at em hLl
  have m5 := (le4_F5 mle hw).1
  have hLg : ∀ i, i < (seaF x).length → L.getD i 0 = at4 M i := fun i hi => by
    rw [hL, List.getD_eq_getElem?_getD, List.getElem?_take_of_lt hi, ← List.getD_eq_getElem?_getD]
    match i, (show i < 4 by omega) with
    | 0, _ => rfl
    | 1, _ => rfl
    | 2, _ => rfl
    | 3, _ => rfl
  have hLb : ∀ i, i < (seaF x).length → 0 ≤ L.getD i 0 ∧ L.getD i 0 ≤ ((seaF x).getD i ((0, 0), 0, 0)).2.1 ∧ ((seaF x).getD i ((0, 0), 0, 0)).2.1 ≤ 4 := fun i hi => by
    have h1 := le4_at mle (show i < 4 by omega)
    rw [want_at (by omega), if_pos hi] at h1
    have h2 := v.getS hi
    rw [hLg i hi]; omega
  obtain ⟨A, hA⟩ : ∃ A, A = triAll (seaS x) (seaF x) t false (manyO (seaS x) false) := ⟨_, rfl⟩
  obtain ⟨B, hB⟩ : ∃ B, B = triAll (seaS x) (seaF x) u true (manyO (seaS x) true) := ⟨_, rfl⟩
  have oA := triAll_ok v (t := t) (lots := false) _ (Nat.le_refl _)
  have oB := triAll_ok v (t := u) (lots := true) _ (Nat.le_refl _)
  have cA := tried_can v t false
  have cB := tried_can v u true
  rw [← hA] at oA cA
  rw [← hB] at oB cB
  have msupp : supp (seaF x).length M := ((want_supp (seaF x)).le mle).1

  have both : (List.range (seaF x).length).foldl (fun a i => a + mnI (A.getD i 0) (B.getD i 0)) 0 ≤ sumF M := by
    have lA := vec_le v oA.1 oA.2
    have lB := vec_le v oB.1 oB.2
    have hm : le4 (minF (vecL A) (vecL B)) (vecL A) := le4_mk fun i hi => by
      have := mnI_le (at4 (vecL A) i) (at4 (vecL B) i)
      have := le4_at lA hi
      have := le4_at lB hi
      rw [at4_min _ _ hi]; omega
    have hm' : le4 (minF (vecL A) (vecL B)) (vecL B) := le4_mk fun i hi => by
      have := mnI_le (at4 (vecL A) i) (at4 (vecL B) i)
      have := le4_at lA hi
      have := le4_at lB hi
      rw [at4_min _ _ hi]; omega
    have hen : enR (seaS x) (seaF x) (cH (seaF x)) (minF (vecL A) (vecL B)) = true := by
      unfold enR
      simp only [Bool.and_eq_true, decide_eq_true_eq]
      exact ⟨can_down (v.lvR v.cH) (lvR_pos v v.cH) (le4_F5 lA hw).1 hm cA, can_down (v.ltR v.cH) (ltR_pos v v.cH) (le4_F5 lB hw).1 hm' cB⟩
    have := mmax _ (le4_tr hm lA) hen
    rw [sum4 (by omega) (minF (vecL A) (vecL B)) ((want_supp (seaF x)).le (le4_tr hm lA)).1 (fun i => mnI (A.getD i 0) (B.getD i 0)) (fun i hi => by rw [at4_min _ _ (by omega), vec_at (by omega), vec_at (by omega)])]
    exact this
  have hLs : L.sum = sumF M := by
    have e := list_sum (l := L) (n := L.length) (Nat.le_refl _)
    rw [List.take_length, hLl] at e
    rw [e]
    exact sum4 (by omega) M msupp _ hLg
  have eM : (resMost (seaS x) (seaF x)).1 = L := by rw [em]
  refine cndF ⟨_, ⟨⟨hc, ht⟩, rfl⟩, _, ⟨⟨hc, hu⟩, rfl⟩, _, ⟨n2, rfl⟩, ?_⟩
  rw [← hA, ← hB]
  obtain ⟨f, hf⟩ : ∃ f, f = seaF x := ⟨_, rfl⟩
  obtain ⟨p, hp⟩ : ∃ p : Nat → Bool, p = fun i => L.getD i 0 == (f.getD i ((0, 0), 0, 0)).2.1 := ⟨_, rfl⟩
  obtain ⟨g, hg⟩ : ∃ g : Nat → Nat → Int, g = fun k i => if i < k then L.getD i 0 else (f.getD i ((0, 0), 0, 0)).2.1 := ⟨_, rfl⟩
  have g0 : f = chF f (g 0) := by rw [hg]; exact ch_same f
  show ∃ (I : Int → Int → Bool → List Spring → Prop) (μ : Int → Int → Bool → List Spring → Nat), I 0 0 true (seaF x) ∧ _
  rw [eM]
  rw [← hf] at hLl hLb hLg both msupp f4 oA oB hsl v hc mle hw mmax men ee n2 ⊢
  refine ⟨fun y a q l => ∃ k : Nat, k ≤ f.length ∧ y = k ∧ a = (List.range k).foldl (fun a i => a + mnI (A.getD i 0) (B.getD i 0)) 0 ∧ q = (List.range k).all p ∧ l = chF f (g k), fun y _ _ _ => (f.length - y).toNat, ⟨0, by omega, rfl, rfl, rfl, g0⟩, ?_⟩
  rintro y a q l ⟨k, hk, rfl, ha, hq, hl⟩ _
  refine cnd_iff.2 ⟨fun g1 => ?_, fun g1 => ?_⟩
  · have g1 : (k : Int) < f.length := of_decide_eq_true g1
    have hkl : k < f.length := by omega
    have hb := hLb k hkl
    have hsum : 0 ≤ a ∧ a ≤ (k : Int) * 4 := by
      have : ∀ m : Nat, m ≤ f.length → 0 ≤ (List.range m).foldl (fun a i => a + mnI (A.getD i 0) (B.getD i 0)) 0 ∧ (List.range m).foldl (fun a i => a + mnI (A.getD i 0) (B.getD i 0)) 0 ≤ (m : Int) * 4 := by
        intro m
        induction m with
        | zero => intro _; simp
        | succ m ih =>
          intro hm
          have h1 := ih (by omega)
          have h2 := oA.2 m (by omega)
          have h3 := oB.2 m (by omega)
          have h4 := mnI_le (A.getD m 0) (B.getD m 0)
          have h5 := hLb m (by omega)
          rw [foldl_succ]
          push_cast
          omega
      rw [ha]; exact this k hk
    have hA2 := oA.2 k hkl
    have hB2 := oB.2 k hkl
    have hmn := mnI_le (A.getD k 0) (B.getD k 0)
    refine ⟨fun b => b = false, ⟨by omega, by rw [hLl]; exact g1, ?_⟩, ?_⟩
    · rw [Int.toNat_natCast]
      refine cnd_iff.2 ⟨fun g2 => ?_, fun _ => ⟨by omega, by rw [hLl]; exact g1, by omega, g1, ?_⟩⟩
      · have g2 : L.getD k 0 < 0 := of_decide_eq_true g2; omega
      · exact decide_eq_false (show ¬ L.getD k 0 > (f.getD k ((0, 0), 0, 0)).2.1 by omega)
    rintro b rfl
    have e1 : IntKind.wrap .i64 ((k : Int) + 1) = ((k + 1 : Nat) : Int) := by rw [wrapS (by omega) (by omega)]; omega
    have e2 : IntKind.wrap .i64 (a + mnI (A.getD k 0) (B.getD k 0)) = (List.range (k + 1)).foldl (fun a i => a + mnI (A.getD i 0) (B.getD i 0)) 0 := by
      rw [wrapS (by omega) (by omega), foldl_succ, ha]
    have e3 : l.set k (((l.getD k ((0, 0), 0, 0)).1.1, (l.getD k ((0, 0), 0, 0)).1.2), L.getD k 0, (l.getD k ((0, 0), 0, 0)).2.2) = chF f (g (k + 1)) := by
      rw [hl, ch_set hkl]
      refine ch_congr fun i hi => ?_
      rw [hg]
      show (if i = k then _ else if i < k then _ else _) = if i < k + 1 then _ else _
      by_cases h1 : i = k
      · subst h1; rw [if_pos rfl, if_pos (by omega)]
      · rw [if_neg h1]
        by_cases h2 : i < k
        · rw [if_pos h2, if_pos (by omega)]
        · rw [if_neg h2, if_neg (by omega)]
    have hll : l.length = f.length := by rw [hl, ch_len]
    refine cndF ⟨by omega, by omega, by omega, by omega, by omega, by rw [hLl]; exact g1, ?_⟩
    rw [Int.toNat_natCast]
    have done : ∀ q', q' = (List.range (k + 1)).all p → (∃ k' : Nat, k' ≤ f.length ∧ IntKind.wrap .i64 ((k : Int) + 1) = k' ∧ IntKind.wrap .i64 (a + mnI (A.getD k 0) (B.getD k 0)) = (List.range k').foldl (fun a i => a + mnI (A.getD i 0) (B.getD i 0)) 0 ∧ q' = (List.range k').all p ∧ l.set k (((l.getD k ((0, 0), 0, 0)).1.1, (l.getD k ((0, 0), 0, 0)).1.2), L.getD k 0, (l.getD k ((0, 0), 0, 0)).2.2) = chF f (g k')) ∧ (f.length - IntKind.wrap .i64 ((k : Int) + 1)).toNat < (f.length - (k : Int)).toNat := fun q' hq' => by
      rw [e1]
      exact ⟨⟨k + 1, by omega, rfl, e2, hq', e3⟩, by omega⟩
    refine cnd_iff.2 ⟨fun gq => ⟨by omega, by rw [hLl]; exact g1, by omega, g1, by omega, by omega, done _ ?_⟩, fun gq => ⟨by omega, by omega, done _ ?_⟩⟩
    · rw [all_succ, ← hq, gq, Bool.true_and, hp]
    · rw [all_succ, ← hq, gq, Bool.false_and]
  have g1 : ¬ (k : Int) < f.length := of_decide_eq_false g1
  have hkn : k = f.length := by omega
  subst hkn
  have hlL : ∀ i, i < f.length → g f.length i = L.getD i 0 := fun i hi => by rw [hg]; exact if_pos hi
  have hgb : ∀ i, i < f.length → 0 ≤ g f.length i ∧ g f.length i ≤ 4 := fun i hi => by have := hLb i hi; rw [hlL i hi]; omega
  have hll : l.length = f.length := by rw [hl, ch_len]
  have hc' := ch_check hc hgb
  have hwM : wantF (chF f (g f.length)) = M := fan_ext fun i hi => by
    rw [ch_want hi]
    by_cases hn : i < f.length
    · rw [if_pos hn, hlL i hn, hLg i hn]
    · rw [if_neg hn, msupp i hi (by omega)]
  have ee' := enough_eq hc'
  rw [ch_en, hwM] at ee'
  refine ⟨n1, by rw [hll]; exact n2, fun b => b = false, ?_, ?_⟩
  · rw [hl]
    show cnd ((resEnough (seaS x) (chF f (g f.length))).2.2 != 0) (true = false) (cnd (!(resEnough (seaS x) (chF f (g f.length))).1) (true = false) (f54_wp L () fun r => cnd (decide (a > r)) (true = false) ((!((resEnough (seaS x) f).1 == q)) = false)))
    rw [ee'.1, ee'.2, men]
    refine cndN rfl (cndF ⟨⟨by rw [hLl]; exact n2, fun z hz => ?_⟩, ?_⟩)
    · obtain ⟨j, hj, rfl⟩ := List.mem_iff_getElem.1 hz
      have := hLb j (by omega)
      rw [getD_lt hj] at this
      omega
    · show cnd (decide (a > L.sum)) (true = false) ((!((resEnough (seaS x) f).1 == q)) = false)
      rw [decide_eq_false (show ¬ a > L.sum by rw [ha, hLs]; omega)]
      refine cndF ?_
      rw [ee.1]
      have : enR (seaS x) f (cH f) (wantF f) = q := by
        rw [hq, Bool.eq_iff_iff]
        have hall : (List.range f.length).all p = true ↔ ∀ i, i < f.length → L.getD i 0 = (f.getD i ((0, 0), 0, 0)).2.1 := by
          rw [List.all_eq_true, hp]
          simp
        rw [hall]
        have wle : le4 (wantF f) (wantF f) := le4_mk fun i hi => by have := F5_at hw hi; omega
        constructor
        · intro he i hi
          have h1 := mmax _ wle he
          have h2 : ∀ j, j < 4 → at4 M j ≤ at4 (wantF f) j := fun j hj => (le4_at mle hj).2
          have a0 := h2 0 (by omega)
          have a1 := h2 1 (by omega)
          have a2 := h2 2 (by omega)
          have a3 := h2 3 (by omega)
          rw [sumF_at, sumF_at] at h1
          have hi4 : i < 4 := by omega
          have : at4 M i = at4 (wantF f) i := by
            match i, hi4 with
            | 0, _ => omega
            | 1, _ => omega
            | 2, _ => omega
            | 3, _ => omega
          rw [hLg i hi, this, want_at hi4, if_pos hi]
        · intro hh
          have : M = wantF f := fan_ext fun i hi => by
            rw [want_at hi]
            by_cases hn : i < f.length
            · rw [if_pos hn, ← hLg i hn]; exact hh i hn
            · rw [if_neg hn, msupp i hi (by omega)]
          rw [← this]; exact men
      rw [this]; simp
  rintro b rfl
  refine cndF ?_
  refine forUpGL (n := f.length) (fun _ => True) trivial (fun j hj _ _ I2 μ2 hI2 hw2 => ?_) (fun _ => known h)
  have hb := hLb j hj
  refine ⟨by omega, by rw [hLl]; omega, by omega, by show (j : Int) < (f.length : Nat); omega, ?_⟩
  rw [hw2, Int.toNat_natCast]
  refine cnd_iff.2 ⟨fun _ => hI2 trivial, fun g2 => ?_⟩
  have g2 : ¬ L.getD j 0 = (f.getD j ((0, 0), 0, 0)).2.1 := by simpa using g2
  refine ⟨by rw [hll]; exact n2, by omega, by rw [hll]; omega, by omega, by rw [hll]; omega, n1, ?_⟩
  have e3 : l.set j (((l.getD j ((0, 0), 0, 0)).1.1, (l.getD j ((0, 0), 0, 0)).1.2), IntKind.wrap .i64 ((l.getD j ((0, 0), 0, 0)).2.1 + 1), (l.getD j ((0, 0), 0, 0)).2.2) = chF f (fun i => if i = j then L.getD j 0 + 1 else g f.length i) := by
    have e4 : (l.getD j ((0, 0), 0, 0)).2.1 = L.getD j 0 := by rw [hl, ch_get hj]; exact hlL j hj
    rw [e4, wrapS (x := L.getD j 0 + 1) (by omega) (by omega), hl, ch_set hj]
  have hc2 : checkF (seaS x) (chF f (fun i => if i = j then L.getD j 0 + 1 else g f.length i)) = 0 := ch_check hc fun i hi => by
    show 0 ≤ (if i = j then _ else _) ∧ (if i = j then _ else _) ≤ 4
    split
    · omega
    · exact hgb i hi
  have hw2' : wantF (chF f (fun i => if i = j then L.getD j 0 + 1 else g f.length i)) = bump M j := fan_ext fun i hi => by
    rw [ch_want hi, bump_at (by omega) hi]
    by_cases hn : i < f.length
    · rw [if_pos hn]
      by_cases hij : i = j
      · subst hij; rw [if_pos rfl, if_pos rfl, hLg i hn]
      · rw [if_neg hij, if_neg (by omega), hlL i hn, hLg i hn, Int.add_zero]
    · rw [if_neg hn, if_neg (by omega), msupp i hi (by omega)]; rfl
  have ee2 := enough_eq hc2
  rw [ch_en, hw2'] at ee2
  have hno : enR (seaS x) f (cH f) (bump M j) = false := by
    cases hh : enR (seaS x) f (cH f) (bump M j) with
    | false => rfl
    | true =>
      exfalso
      have hj4 : j < 4 := by omega
      have hle : le4 (bump M j) (wantF f) := le4_mk fun i hi => by
        have h1 := le4_at mle hi
        rw [bump_at (by omega) hi]
        by_cases hij : i = j
        · subst hij
          have h3 : at4 (wantF f) i = (f.getD i ((0, 0), 0, 0)).2.1 := by rw [want_at hi, if_pos hj]
          rw [if_pos rfl, h3, ← hLg i hj]; omega
        · rw [if_neg (by omega)]; omega
      have h1 := mmax _ hle hh
      have h2 : sumF (bump M j) = sumF M + 1 := by
        have b0 := bump_at (t := M) (k := (j : Int)) (by omega) (i := 0) (by omega)
        have b1 := bump_at (t := M) (k := (j : Int)) (by omega) (i := 1) (by omega)
        have b2 := bump_at (t := M) (k := (j : Int)) (by omega) (i := 2) (by omega)
        have b3 := bump_at (t := M) (k := (j : Int)) (by omega) (i := 3) (by omega)
        rw [sumF_at, sumF_at, b0, b1, b2, b3]
        match j, hj4 with
        | 0, _ => simp; omega
        | 1, _ => simp; omega
        | 2, _ => simp; omega
        | 3, _ => simp; omega
      omega
  refine ⟨fun b => b = false, ?_, ?_⟩
  · show cnd ((resEnough (seaS x) (l.set j (((l.getD j ((0, 0), 0, 0)).1.1, (l.getD j ((0, 0), 0, 0)).1.2), IntKind.wrap .i64 ((l.getD j ((0, 0), 0, 0)).2.1 + 1), (l.getD j ((0, 0), 0, 0)).2.2))).2.2 != 0) (true = false) ((resEnough (seaS x) (l.set j (((l.getD j ((0, 0), 0, 0)).1.1, (l.getD j ((0, 0), 0, 0)).1.2), IntKind.wrap .i64 ((l.getD j ((0, 0), 0, 0)).2.1 + 1), (l.getD j ((0, 0), 0, 0)).2.2))).1 = false)
    rw [e3, ee2.2, ee2.1, hno]
    exact cndN rfl rfl
  rintro b rfl
  exact cndF (hI2 trivial)
end Go.Proofs.Fa
set_option maxRecDepth 100000
set_option maxHeartbeats 0
namespace Go.Proofs.Fa
open Go Go.GX Go.Proofs
variable [Inhabited BaseD]
theorem ok54 : CallsOK Try.prog (assoc glT) 54 f54_ct :=
  callsOK_mkM [] st_ok mp_ok it_ok mk_ok in_ok AllOK.nil f54_an Try.func54 (by kernel_rfl) (by kernel_rfl) f54_ct fun l _ Q h => (v54 l Q).mp (p54 h)
theorem ok53 : CallsOK Try.prog (assoc glT) 53 f53_ct :=
  callsOK_mkM [] st_ok mp_ok it_ok mk_ok in_ok (AllOK.cons ok48 AllOK.nil) f53_an Try.func53 (by kernel_rfl) (by kernel_rfl) f53_ct fun ⟨s, f, t, b, _⟩ _ Q h => (v53 s f t b Q).mp (p53 h)
theorem ok14 : CallsOK Try.prog (assoc glT) 14 f14_ct :=
  callsOK_mkM [] st_ok mp_ok it_ok mk_ok in_ok (AllOK.cons ok43 (AllOK.cons ok44 (AllOK.cons ok45 (AllOK.cons ok50 (AllOK.cons ok49 (AllOK.cons ok53 (AllOK.cons ok54 (AllOK.cons ok17 AllOK.nil)))))))) f14_an Try.func14 (by kernel_rfl) (by kernel_rfl) f14_ct fun ⟨x, t, u, _⟩ _ Q h => (v14 x t u Q).mp (p14 h)
end Go.Proofs.Fa
