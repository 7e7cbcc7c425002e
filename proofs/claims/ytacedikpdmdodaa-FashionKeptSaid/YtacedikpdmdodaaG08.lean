/- Part 8 of the texts behind the proof: FaPe, FaM5, FaPf, FaO6, FaC8, FaV9, FaPg, FaM6, FaPh, FaO7, FaM7, FaC9, FaV10, FaPi, FaO8, FaM8, FaC10, FaV11, FaPj, FaO9, FaM9, FaM10, FaC11, FaV12, FaPk, FaPl, FaPm, FaO10. -/
import Derived.Test.YtacedikpdmdodaaG07
import Derived.Test.YtacedikpdmdodaaProg
set_option linter.unusedSimpArgs false
set_option linter.unusedVariables false
set_option linter.unusedSectionVars false
set_option linter.unusedVariables false
namespace Go.Proofs.Fa
open Go Go.GX Go.Proofs

theorem p44 {s : Store} {Q : Store → Prop} (h : f44_wp s () Q) : V44 s Q := by
  obtain ⟨⟨h1, h2⟩, h⟩ := h
  exact ⟨by show (0 + s.1.length) * 8 ≤ _; omega, by show (0 + s.2.2.length) * 16 ≤ _; omega, h⟩
theorem p45 {f : List Spring} {Q : List Spring → Prop} (h : f45_wp f () Q) : V45 f Q := by
  obtain ⟨h1, h⟩ := h
  exact ⟨by show (0 + f.length) * 32 ≤ _; omega, h⟩
theorem modB {b m : Int} (h : byteB b) (hm : 0 < m) : Int.tmod (IntKind.wrap .i64 b) m = b % m := by
  rw [wrapS (by have := h.1; omega) (by have := h.2; omega), Int.tmod_eq_emod_of_nonneg h.1]
theorem p48 {l : List Int} {i : Int} {Q : Int → Prop} (h : f48_wp (l, i, ()) () Q) : V48 l i Q := by
  obtain ⟨⟨h0, h1, hb⟩, h⟩ := h
  have h0 : 0 ≤ i := h0
  have h1 : i ≤ 1000000000 := h1
  have hb : ∀ y, y ∈ l → byteB y := hb
  have h : Q (byteAt l i.toNat) := h
  intro hl
  unfold byteAt at h
  refine cnd_iff.2 ⟨fun g => ?_, fun g _ => ?_⟩
  · have g : (l.length : Int) = 0 := by simpa using g
    rw [if_pos (by omega)] at h; exact h
  have g : ¬ (l.length : Int) = 0 := by simpa using g
  rw [if_neg (by omega)] at h
  have e : Int.tmod i (l.length : Int) = ((i.toNat % l.length : Nat) : Int) := by
    rw [Int.tmod_eq_emod_of_nonneg h0, Int.natCast_emod, Int.toNat_of_nonneg h0]
  have hlt : i.toNat % l.length < l.length := Nat.mod_lt _ (by omega)
  rw [e, Int.toNat_natCast]
  have hm := hb _ (getD_mem (d := 0) hlt)
  refine ⟨g, by omega, by omega, ?_⟩
  rw [wrapS (by have := hm.1; omega) (by have := hm.2; omega)]
  exact h
theorem byteAt_b {l : List Int} (h : ∀ y, y ∈ l → byteB y) (i : Nat) : byteB (byteAt l i) := by
  unfold byteAt
  split
  · exact ⟨by omega, by omega⟩
  · exact h _ (getD_mem (Nat.mod_lt _ (by omega)))
theorem map_range_succ {α : Type} (g : Nat → α) (k : Nat) : (List.range (k + 1)).map g = (List.range k).map g ++ [g k] := by rw [List.range_succ, List.map_append]; rfl
theorem p46 {f : List Spring} {t : List Int} {Q : List Int → Prop} (h : f46_wp (f, t, ()) () Q) : V46 f t Q := by
  obtain ⟨⟨hs, ht, hn⟩, h⟩ := h
  have hs : ∀ s, s ∈ f → 0 ≤ s.1.1 ∧ s.1.1 ≤ s.1.2 ∧ s.1.2 ≤ 1000 := hs
  have ht : ∀ y, y ∈ t → byteB y := ht
  have hn : f.length ≤ 1000 := hn
  refine forUpL (σ := List Int) (n := f.length) (fun k => (List.range k).map (cntO f t)) rfl (fun k hk I μ hI hw => ?_) h
  have hg := hs _ (getD_mem (d := ((0, 0), 0, 0)) hk)
  rw [map_range_succ] at hI
  have hlen : ((List.range k).map (cntO f t)).length = k := by simp
  rw [hw]
  refine ⟨by omega, by omega, fun _ => cnd_iff.2 ⟨fun g => ?_, fun g => ?_⟩⟩
  · have g : (t.length : Int) > 0 := of_decide_eq_true g
    have hb := byteAt_b ht k
    refine ⟨by omega, by omega, _, ⟨⟨by show (0 : Int) ≤ k; omega, by show (k : Int) ≤ 1000000000; omega, ht⟩, rfl⟩, by omega, by omega, by omega, ?_⟩
    show (((List.range k).map (cntO f t)).length + 1) * 8 ≤ _ ∧ I _ (_ ++ [IntKind.wrap .i64 ((f.getD k ((0, 0), 0, 0)).1.1 + IntKind.wrap .i64 (Int.tdiv (IntKind.wrap .i64 (byteAt t k * IntKind.wrap .i64 ((f.getD k ((0, 0), 0, 0)).1.2 - (f.getD k ((0, 0), 0, 0)).1.1))) 255))]) ∧ μ _ (_ ++ [IntKind.wrap .i64 ((f.getD k ((0, 0), 0, 0)).1.1 + IntKind.wrap .i64 (Int.tdiv (IntKind.wrap .i64 (byteAt t k * IntKind.wrap .i64 ((f.getD k ((0, 0), 0, 0)).1.2 - (f.getD k ((0, 0), 0, 0)).1.1))) 255))]) < _
    have m0 : 0 ≤ byteAt t k * ((f.getD k ((0, 0), 0, 0)).1.2 - (f.getD k ((0, 0), 0, 0)).1.1) := Int.mul_nonneg hb.1 (by omega)
    have m1 : byteAt t k * ((f.getD k ((0, 0), 0, 0)).1.2 - (f.getD k ((0, 0), 0, 0)).1.1) ≤ 255 * 1000 := Int.mul_le_mul hb.2 (by omega) (by omega) (by omega)
    rw [wrapS (x := (f.getD k ((0, 0), 0, 0)).1.2 - (f.getD k ((0, 0), 0, 0)).1.1) (by omega) (by omega), wrapS (x := byteAt t k * _) (by omega) (by omega), Int.tdiv_eq_ediv_of_nonneg m0]
    generalize hz : byteAt t k * ((f.getD k ((0, 0), 0, 0)).1.2 - (f.getD k ((0, 0), 0, 0)).1.1) = z at m0 m1
    rw [wrapS (x := z / 255) (by omega) (by omega), wrapS (by omega) (by omega)]
    have e : cntO f t k = (f.getD k ((0, 0), 0, 0)).1.1 + z / 255 := by
      unfold cntO; rw [if_pos (by omega), hz]
    rw [e] at hI
    exact ⟨by omega, hI⟩
  · have g : ¬ (t.length : Int) > 0 := of_decide_eq_false g
    have e : cntO f t k = (f.getD k ((0, 0), 0, 0)).1.2 := by unfold cntO; rw [if_neg (by omega)]
    rw [e] at hI
    exact ⟨by show (((List.range k).map (cntO f t)).length + 1) * 8 ≤ _; omega, hI⟩

theorem take_last {α : Type} {l : List α} {i n : Nat} (hi : i ≤ l.length) (hn : i ≤ n) (h : ¬ (i < l.length ∧ i < n)) : l.take i = l.take n := by
  by_cases h1 : i = n
  · rw [h1]
  · rw [List.take_of_length_le (show l.length ≤ i by omega), List.take_of_length_le (show l.length ≤ n by omega)]
def sprL (v : List By4) (i : Nat) : List Spring := if v.length = 0 then (if i = 0 then [] else [sprO (12, 3, 2, 15)]) else (v.take i).map sprO
theorem p43 {x : Season} {Q : Store × List Spring × Unit → Prop} (h : f43_wp x () Q) : V43 x Q := by
  obtain ⟨ok, h⟩ := h
  have h : Q (seaS x, seaF x, ()) := h
  refine ⟨by omega, ?_⟩
  rw [modB ok.s (by omega)]
  refine ⟨fun i c => ∃ k : Nat, k ≤ x.1.length ∧ k ≤ 5 ∧ i = k ∧ c = ((x.1.take k).map fun b => 10 + b % 90, x.2.1 % 6, []), fun i _ => (5 - i).toNat, ⟨0, by omega, by omega, rfl, rfl⟩, ?_⟩
  rintro i c ⟨k, hk, hk5, rfl, rfl⟩
  refine ⟨fun b => b = decide (k < x.1.length ∧ k < 5), fun _ => cnd_iff.2 ⟨fun g => ?_, fun g => ?_⟩, ?_⟩
  · have g : (k : Int) < x.1.length := of_decide_eq_true g
    show decide ((k : Int) < 5) = _
    rw [decide_eq_decide]; omega
  · have g : ¬ (k : Int) < x.1.length := of_decide_eq_false g
    exact (decide_eq_false (by omega)).symm
  rintro _ rfl
  refine cnd_iff.2 ⟨fun g => ?_, fun g => ?_⟩
  · have g : k < x.1.length ∧ k < 5 := of_decide_eq_true g
    have hb := ok.l _ (getD_mem (d := 0) g.1)
    refine ⟨by omega, by omega, by omega, ?_⟩
    show ((((x.1.take k).map fun b => 10 + b % 90)).length + 1) * 8 ≤ _ ∧ (∃ k' : Nat, k' ≤ x.1.length ∧ k' ≤ 5 ∧ IntKind.wrap .i64 ((k : Int) + 1) = k' ∧ (((x.1.take k).map fun b => 10 + b % 90) ++ [IntKind.wrap .i64 (10 + Int.tmod (IntKind.wrap .i64 (x.1.getD k 0)) 90)], x.2.1 % 6, ([] : List (Int × Int))) = _) ∧ (5 - IntKind.wrap .i64 ((k : Int) + 1)).toNat < (5 - (k : Int)).toNat
    rw [modB hb (by omega), wrapS (x := 10 + _ % 90) (by omega) (by omega), wrapS (x := (k : Int) + 1) (by omega) (by omega)]
    refine ⟨by simp; omega, ⟨k + 1, by omega, by omega, by omega, ?_⟩, by omega⟩
    rw [take_map_succ _ _ g.1 0]
  have g : ¬ (k < x.1.length ∧ k < 5) := of_decide_eq_false g
  rw [take_last hk hk5 g]
  refine ⟨fun i c => ∃ k : Nat, k ≤ x.2.2.1.length ∧ k ≤ 4 ∧ i = k ∧ c = ((x.1.take 5).map fun b => 10 + b % 90, x.2.1 % 6, (x.2.2.1.take k).map fun v => (10 + v.1 % 40, v.2 % 120)), fun i _ => (4 - i).toNat, ⟨0, by omega, by omega, rfl, rfl⟩, ?_⟩
  rintro i c ⟨k2, hk2, hk4, rfl, rfl⟩
  refine ⟨fun b => b = decide (k2 < x.2.2.1.length ∧ k2 < 4), fun _ => cnd_iff.2 ⟨fun g => ?_, fun g => ?_⟩, ?_⟩
  · have g : (k2 : Int) < x.2.2.1.length := of_decide_eq_true g
    show decide ((k2 : Int) < 4) = _
    rw [decide_eq_decide]; omega
  · have g : ¬ (k2 : Int) < x.2.2.1.length := of_decide_eq_false g
    exact (decide_eq_false (by omega)).symm
  rintro _ rfl
  refine cnd_iff.2 ⟨fun g => ?_, fun g2 => ?_⟩
  · have g : k2 < x.2.2.1.length ∧ k2 < 4 := of_decide_eq_true g
    have hb := ok.t _ (getD_mem (d := (0, 0)) g.1)
    refine ⟨by omega, by omega, by omega, by omega, by omega, by omega, ?_⟩
    show ((((x.2.2.1.take k2).map fun v => (10 + v.1 % 40, v.2 % 120))).length + 1) * 16 ≤ _ ∧ (∃ k' : Nat, k' ≤ x.2.2.1.length ∧ k' ≤ 4 ∧ IntKind.wrap .i64 ((k2 : Int) + 1) = k' ∧ (((x.1.take 5).map fun b => 10 + b % 90), x.2.1 % 6, ((x.2.2.1.take k2).map fun v => (10 + v.1 % 40, v.2 % 120)) ++ [(IntKind.wrap .i64 (10 + Int.tmod (IntKind.wrap .i64 (x.2.2.1.getD k2 (0, 0)).1) 40), Int.tmod (IntKind.wrap .i64 (x.2.2.1.getD k2 (0, 0)).2) 120)]) = _) ∧ (4 - IntKind.wrap .i64 ((k2 : Int) + 1)).toNat < (4 - (k2 : Int)).toNat
    rw [modB hb.1 (by omega), modB hb.2 (by omega), wrapS (x := 10 + _ % 40) (by omega) (by omega), wrapS (x := (k2 : Int) + 1) (by omega) (by omega)]
    refine ⟨by simp; omega, ⟨k2 + 1, by omega, by omega, by omega, ?_⟩, by omega⟩
    rw [take_map_succ _ _ g.1 (0, 0)]
  have g2 : ¬ (k2 < x.2.2.1.length ∧ k2 < 4) := of_decide_eq_false g2
  rw [take_last hk2 hk4 g2]
  obtain ⟨vs, hvs⟩ : ∃ vs, vs = x.2.2.2 := ⟨_, rfl⟩
  have okf := ok.f
  rw [← hvs] at okf
  have eF : seaF x = if vs.length = 0 then [sprO (12, 3, 2, 15)] else (vs.take 3).map sprO := by unfold seaF; rw [hvs]
  rw [eF] at h
  rw [← hvs]
  refine ⟨fun i l => ∃ k : Nat, k ≤ 3 ∧ (0 < k → k ≤ 1 ∨ k ≤ vs.length) ∧ i = k ∧ l = sprL vs k, fun i _ => (3 - i).toNat, ⟨0, by omega, by omega, rfl, by unfold sprL; simp⟩, ?_⟩
  rintro i l ⟨k3, hk3, hkk, rfl, rfl⟩
  refine ⟨fun b => b = decide (k3 = 0 ∨ (k3 < vs.length ∧ k3 < 3)), cnd_iff.2 ⟨fun g => ?_, fun g _ => cnd_iff.2 ⟨fun g1 => ?_, fun g1 => ?_⟩⟩, ?_⟩
  · have g : (k3 : Int) = 0 := by simpa using g
    exact (decide_eq_true (.inl (by omega))).symm
  · have g : ¬ (k3 : Int) = 0 := by simpa using g
    have g1 : (k3 : Int) < vs.length := of_decide_eq_true g1
    show decide ((k3 : Int) < 3) = _
    rw [decide_eq_decide]; omega
  · have g : ¬ (k3 : Int) = 0 := by simpa using g
    have g1 : ¬ (k3 : Int) < vs.length := of_decide_eq_false g1
    exact (decide_eq_false (by omega)).symm
  rintro _ rfl
  refine cnd_iff.2 ⟨fun g _ => ?_, fun g => ?_⟩
  · have g : k3 = 0 ∨ (k3 < vs.length ∧ k3 < 3) := of_decide_eq_true g
    refine ⟨fun v => v = if k3 < vs.length then vs.getD k3 (0, 0, 0, 0) else (12, 3, 2, 15), cnd_iff.2 ⟨fun g1 => ?_, fun g1 => ?_⟩, ?_⟩
    · have g1 : (k3 : Int) < vs.length := of_decide_eq_true g1
      exact ⟨by omega, by omega, by rw [if_pos (by omega)]; rfl⟩
    · have g1 : ¬ (k3 : Int) < vs.length := of_decide_eq_false g1
      show (12, 3, 2, 15) = _
      rw [if_neg (by omega)]
    rintro v hv
    have hb : byteB v.1 ∧ byteB v.2.1 ∧ byteB v.2.2.1 ∧ byteB v.2.2.2 := by
      rw [hv]
      split
      · rename_i hh; exact okf _ (getD_mem hh)
      · exact ⟨⟨by decide, by decide⟩, ⟨by decide, by decide⟩, ⟨by decide, by decide⟩, ⟨by decide, by decide⟩⟩
    rw [modB hb.1 (by omega), modB hb.2.1 (by omega), modB hb.2.2.1 (by omega), modB hb.2.2.2 (by omega), wrapS (x := 4 + v.1 % 20) (by omega) (by omega), wrapS (x := 4 + v.1 % 20 + v.2.1 % 6) (by omega) (by omega), wrapS (x := 5 + v.2.2.2 % 35) (by omega) (by omega), wrapS (x := (k3 : Int) + 1) (by omega) (by omega)]
    have hl3 : (sprL vs k3).length ≤ 3 := by
      unfold sprL
      split
      · split <;> simp
      · simp; omega
    refine ⟨by omega, by omega, _, rfl, by omega, by omega, by show ((sprL vs k3).length + 1) * 32 ≤ _; omega, ⟨k3 + 1, ?_, ?_, by omega, ?_⟩, by dsimp only; omega⟩
    · omega
    · intro _; omega
    · show sprL vs k3 ++ [sprO v] = sprL vs (k3 + 1)
      unfold sprL
      by_cases h0 : vs.length = 0
      · rw [if_pos h0, if_pos h0, if_pos (by omega), if_neg (by omega), hv, if_neg (by omega)]; rfl
      · have hlt : k3 < vs.length := by omega
        rw [if_neg h0, if_neg h0, hv, if_pos hlt, take_map_succ _ _ hlt (0, 0, 0, 0)]
  · have g : ¬ (k3 = 0 ∨ (k3 < vs.length ∧ k3 < 3)) := of_decide_eq_false g
    have e : sprL vs k3 = if vs.length = 0 then [sprO (12, 3, 2, 15)] else (vs.take 3).map sprO := by
      unfold sprL
      by_cases h0 : vs.length = 0
      · rw [if_pos h0, if_pos h0, if_neg (by omega)]
      · rw [if_neg h0, if_neg h0, take_last (n := 3) (by omega) hk3 (by omega)]
    rw [e]
    exact h

def cntN (n : Nat) (xs : List Int) : List Int := (List.range n).map fun (i : Nat) => ((xs.count (i : Int) : Nat) : Int)
theorem cntN_len (n : Nat) (xs : List Int) : (cntN n xs).length = n := by simp [cntN]
theorem cntN_get {n : Nat} {xs : List Int} {i : Nat} (hi : i < n) : (cntN n xs).getD i 0 = (xs.count (i : Int) : Nat) := by
  unfold cntN
  rw [List.getD_eq_getElem?_getD, List.getElem?_map, List.getElem?_range hi]
  rfl
theorem cntN_snoc {n : Nat} {xs : List Int} {v : Int} (h0 : 0 ≤ v) (hn : v < n) : (cntN n xs).set v.toNat ((cntN n xs).getD v.toNat 0 + 1) = cntN n (xs ++ [v]) := by
  refine list_ext' 0 (by simp [cntN]) fun j hj => ?_
  have hj : j < n := by simpa [cntN] using hj
  rw [getD_set (by rw [cntN_len]; omega), cntN_get hj, cntN_get hj, cntN_get (by omega), List.count_append]
  have e : ((v.toNat : Nat) : Int) = v := by omega
  by_cases hjv : j = v.toNat
  · subst hjv
    rw [if_pos rfl, e, List.count_singleton]
    simp
  · rw [if_neg hjv, List.count_singleton]
    have : ¬ v = (j : Int) := by omega
    simp [this]
theorem usedO_bnd {seam : Int} {c : List Int} {lots : Bool} {l : List Int} (hc : ∀ x, x ∈ c → 0 ≤ x ∧ x ≤ 1000) (hs : 0 ≤ seam ∧ seam ≤ 1000) : ∀ k : Nat, 0 ≤ usedO seam c lots l k ∧ usedO seam c lots l k ≤ (k : Int) * 2000
  | 0 => ⟨Int.le_refl _, by simp [usedO]⟩
  | k + 1 => by
    have ih := usedO_bnd hc hs (lots := lots) (l := l) k
    have hg : 0 ≤ c.getD (l.getD k 0).toNat 0 ∧ c.getD (l.getD k 0).toNat 0 ≤ 1000 := by
      by_cases hl : (l.getD k 0).toNat < c.length
      · exact hc _ (getD_mem hl)
      · rw [List.getD_eq_getElem?_getD, List.getElem?_eq_none (by omega)]; exact ⟨Int.le_refl _, by show (0 : Int) ≤ 1000; omega⟩
    simp only [usedO]
    push_cast
    split <;> omega
theorem flat_take {l : List (List Int)} {i : Nat} (hi : i < l.length) : (l.take (i + 1)).flatten = (l.take i).flatten ++ l.getD i [] := by
  rw [take_snoc hi [], List.flatten_append]; simp
theorem p47 {s : Store} {f : List Spring} {c : List Int} {l : List (List Int)} {b : Bool} {Q : List Int × Bool × Unit → Prop} (h : f47_wp (s, f, c, l, b, ()) () Q) : V47 s f c l b Q := by
  obtain ⟨⟨⟨hfn, hcl, hc0, hseam, hln, hl30⟩, hmany, hok⟩, h⟩ := h
  have hfn : f.length ≤ 1000 := hfn
  have hcl : c.length = f.length := hcl
  have hc0 : ∀ x, x ∈ c → 0 ≤ x ∧ x ≤ 1000 := hc0
  have hseam : 0 ≤ s.2.1 ∧ s.2.1 ≤ 1000 := hseam
  have hln : l.length ≤ 1000 := hln
  have hl30 : ∀ x, x ∈ l → x.length ≤ 1000 := hl30
  have hmany : l.length = manyO s b := hmany
  have hok : ∀ i, i < l.length → okList s f c b i (l.getD i []) := hok
  have h : Q (cntN f.length l.flatten, true, ()) := h
  refine ⟨rfl, Int.natCast_nonneg _, by omega, fun x => x = (manyO s b : Nat), ?_, ?_⟩
  · cases b
    · exact (rfl : ((s.1.length : Nat) : Int) = _)
    · exact fun _ => (rfl : ((s.2.2.length : Nat) : Int) = _)
  rintro x rfl _
  refine cndN (by rw [hmany]) ?_
  refine ⟨fun x1 x2 _ _ => ∃ i : Nat, i ≤ l.length ∧ x1 = i ∧ x2 = cntN f.length (l.take i).flatten, fun x1 _ _ _ => (l.length - x1).toNat, ⟨0, by omega, rfl, ?_⟩, ?_⟩
  · refine (List.eq_replicate_iff.2 ⟨cntN_len _ _, fun b hb => ?_⟩).symm
    unfold cntN at hb
    obtain ⟨j, _, rfl⟩ := List.mem_map.1 hb
    rfl
  rintro x1 x2 x3 x4 ⟨i, hi, rfl, rfl⟩
  refine cnd_iff.2 ⟨fun g1 => ?_, fun g1 => ?_⟩
  rotate_left
  · have g1 : ¬ (i : Int) < (manyO s b : Nat) := of_decide_eq_false g1
    have : i = l.length := by omega
    rw [this, List.take_length]
    exact h
  have g1 : (i : Int) < (manyO s b : Nat) := of_decide_eq_true g1
  have hil : i < l.length := by omega
  obtain ⟨o1, o2⟩ := hok i hil
  have hL30 := hl30 _ (getD_mem (d := []) hil)
  obtain ⟨L, hL⟩ : ∃ L, L = l.getD i [] := ⟨_, rfl⟩
  rw [← hL] at o1 o2 hL30
  refine ⟨fun y u z _ _ => ∃ k : Nat, k ≤ L.length ∧ y = k ∧ u = usedO s.2.1 c b L k ∧ z = cntN f.length ((l.take i).flatten ++ L.take k), fun y _ _ _ _ => (L.length - y).toNat, ⟨0, by omega, rfl, rfl, by simp⟩, ?_⟩
  rintro y u z z1 z2 ⟨k, hk, rfl, rfl, rfl⟩
  refine ⟨by omega, by omega, ?_⟩
  show (l.getD i []).length ≤ _ → _
  rw [Int.toNat_natCast, ← hL]
  intro _
  have ub := usedO_bnd (l := L) (lots := b) hc0 hseam k
  refine cnd_iff.2 ⟨fun g2 => ?_, fun g2 => ?_⟩
  · have g2 : (k : Int) < L.length := of_decide_eq_true g2
    obtain ⟨⟨e1, e2⟩, e3, e4⟩ := o1 k (by omega)
    have hkN : ((k : Int)).toNat = k := Int.toNat_natCast k
    refine ⟨by omega, by omega, by omega, g2, fun t => t = false, ?_, ?_⟩
    · rw [hkN]
      have lotB : b = true → (decide ((f.getD (L.getD k 0).toNat ((0, 0), 0, 0)).2.2 > (s.2.2.getD i (0, 0)).1)) = false ∧ (i : Int) < s.2.2.length := fun hb => by
        refine ⟨decide_eq_false ?_, ?_⟩
        · have := e4 hb; omega
        · rw [hb] at g1; exact g1
      have tail : cnd b (0 ≤ L.getD k 0 ∧ L.getD k 0 < (f.length : Nat) ∧ (0 : Int) ≤ i ∧ (i : Int) < (s.2.2.length : Nat) ∧ decide ((f.getD (L.getD k 0).toNat ((0, 0), 0, 0)).2.2 > (s.2.2.getD i (0, 0)).1) = false) ((false : Bool) = false) := by
        refine cnd_iff.2 ⟨fun hb => ?_, fun _ => rfl⟩
        obtain ⟨q1, q2⟩ := lotB hb
        exact ⟨e1, e2, by omega, q2, q1⟩
      refine cnd_iff.2 ⟨fun g => ?_, fun _ => cnd_iff.2 ⟨fun g => ?_, fun _ => cnd_iff.2 ⟨fun g => ?_, fun _ => tail⟩⟩⟩
      · have g : L.getD k 0 < 0 := of_decide_eq_true g; omega
      · have g : L.getD k 0 ≥ f.length := of_decide_eq_true g; omega
      · have g : (k : Int) > 0 := of_decide_eq_true g
        have ew : IntKind.wrap .i64 ((k : Int) - 1) = (k : Int) - 1 := wrapS (by omega) (by omega)
        rw [ew]
        have e5 := e3 (by omega)
        refine ⟨by omega, by omega, by omega, by omega, cnd_iff.2 ⟨fun g3 => ?_, fun _ => tail⟩⟩
        have g3 : L.getD k 0 < L.getD ((k : Int) - 1).toNat 0 := of_decide_eq_true g3
        rw [show ((k : Int) - 1).toNat = k - 1 by omega] at g3
        omega
    rintro t rfl
    rw [hkN]
    have hzl : (cntN f.length ((l.take i).flatten ++ L.take k)).length = f.length := cntN_len _ _
    have hcb : 0 ≤ c.getD (L.getD k 0).toNat 0 ∧ c.getD (L.getD k 0).toNat 0 ≤ 1000 := hc0 _ (getD_mem (by omega))
    have hset : (cntN f.length ((l.take i).flatten ++ L.take k)).set (L.getD k 0).toNat (IntKind.wrap .i64 ((cntN f.length ((l.take i).flatten ++ L.take k)).getD (L.getD k 0).toNat 0 + 1)) = cntN f.length ((l.take i).flatten ++ L.take (k + 1)) := by
      have hx : (l.take i).flatten.length ≤ 1000000000 := by
        have : ∀ (m : List (List Int)), (∀ x, x ∈ m → x.length ≤ 1000) → m.flatten.length ≤ m.length * 1000 := by
          intro m
          induction m with
          | nil => intro _; simp
          | cons a m ih =>
            intro hm
            have h1 := ih fun x hx => hm x (by simp [hx])
            have h2 := hm a (by simp)
            simp only [List.flatten_cons, List.length_append, List.length_cons]
            omega
        have h1 := this (l.take i) fun x hx => hl30 x (List.mem_of_mem_take hx)
        have h2 : (l.take i).length ≤ 1000 := by rw [List.length_take]; omega
        omega
      have hcnt : (((l.take i).flatten ++ L.take k).count (((L.getD k 0).toNat : Nat) : Int)) ≤ 1000001000 := by
        have := List.count_le_length (a := (((L.getD k 0).toNat : Nat) : Int)) (l := (l.take i).flatten ++ L.take k)
        rw [List.length_append, List.length_take] at this
        omega
      rw [cntN_get (by omega), wrapS (by omega) (by omega), ← cntN_get (n := f.length) (by omega), cntN_snoc e1 (by omega), List.append_assoc, ← take_snoc (by omega) 0]
    rw [hset]
    have fin : ∀ u, u = usedO s.2.1 c b L (k + 1) → (∃ k' : Nat, k' ≤ L.length ∧ IntKind.wrap .i64 ((k : Int) + 1) = k' ∧ u = usedO s.2.1 c b L k' ∧ cntN f.length ((l.take i).flatten ++ L.take (k + 1)) = cntN f.length ((l.take i).flatten ++ L.take k')) ∧ (L.length - IntKind.wrap .i64 ((k : Int) + 1)).toNat < (L.length - (k : Int)).toNat := fun u hu => by
      rw [wrapS (by omega) (by omega)]
      exact ⟨⟨k + 1, by omega, by omega, hu, rfl⟩, by omega⟩
    have w1 : IntKind.wrap .i64 (usedO s.2.1 c b L k + c.getD (L.getD k 0).toNat 0) = usedO s.2.1 c b L k + c.getD (L.getD k 0).toNat 0 := wrapS (by omega) (by omega)
    have w2 : IntKind.wrap .i64 (usedO s.2.1 c b L k + c.getD (L.getD k 0).toNat 0 + s.2.1) = usedO s.2.1 c b L k + c.getD (L.getD k 0).toNat 0 + s.2.1 := wrapS (by omega) (by omega)
    rw [w1, w2]
    refine ⟨e1, by omega, e1, by omega, e1, by omega, cnd_iff.2 ⟨fun g => ?_, fun g => ?_⟩⟩
    · have g : (k : Int) > 0 := of_decide_eq_true g
      refine ⟨fun u => u = usedO s.2.1 c b L (k + 1), cnd_iff.2 ⟨fun gb => ?_, fun gb => ?_⟩, fun u hu => fin u hu⟩
      · show _ = usedO s.2.1 c b L (k + 1)
        simp only [usedO]
        rw [if_pos (by rw [gb]; simp; omega)]
      · show _ = usedO s.2.1 c b L (k + 1)
        simp only [usedO]
        rw [if_neg (by rw [gb]; simp), Int.add_zero]
    · have g : ¬ (k : Int) > 0 := of_decide_eq_false g
      refine ⟨fun u => u = usedO s.2.1 c b L (k + 1), ?_, fun u hu => fin u hu⟩
      show _ = usedO s.2.1 c b L (k + 1)
      simp only [usedO]
      rw [if_neg (by simp; omega), Int.add_zero]
  · have g2 : ¬ (k : Int) < L.length := of_decide_eq_false g2
    have hk : k = L.length := by omega
    subst hk
    refine ⟨fun t => t = false, ?_, ?_⟩
    · cases b with
      | true =>
        have o2 : usedO s.2.1 c true L L.length ≤ (s.2.2.getD i (0, 0)).2 := o2
        refine cndT ⟨by omega, g1, ?_⟩
        refine cnd_iff.2 ⟨fun g => ?_, fun _ => cndF rfl⟩
        have g : usedO s.2.1 c true L L.length > (s.2.2.getD i (0, 0)).2 := of_decide_eq_true g
        omega
      | false =>
        have o2 : usedO s.2.1 c false L L.length ≤ s.1.getD i 0 := o2
        refine cndF (cndT ⟨by omega, g1, ?_⟩)
        exact decide_eq_false (show ¬ usedO s.2.1 c false L L.length > s.1.getD i 0 by omega)
    rintro t rfl
    refine cndF ⟨⟨i + 1, by omega, ?_, ?_⟩, ?_⟩
    · rw [wrapS (by omega) (by omega)]; omega
    · rw [List.take_length, flat_take hil, hL]
    · show (l.length - IntKind.wrap .i64 ((i : Int) + 1)).toNat < (l.length - (i : Int)).toNat
      rw [wrapS (by omega) (by omega)]; omega
end Go.Proofs.Fa
set_option linter.unusedVariables false
namespace Go.Proofs.Fa
open Go Go.GX Go.Proofs

def sumAt (ss : List FansT) (j : Nat) : Int := (ss.map fun s => at4 s j).sum
abbrev noB : BinT := ((0, 0, 0, 0), (0, 0, 0, 0), 0, 0)
theorem le4_tr {a b c : FansT} (h : le4 a b) (h' : le4 b c) : le4 a c := ⟨⟨h.1.1, Int.le_trans h.1.2 h'.1.2⟩, ⟨h.2.1.1, Int.le_trans h.2.1.2 h'.2.1.2⟩, ⟨h.2.2.1.1, Int.le_trans h.2.2.1.2 h'.2.2.1.2⟩, ⟨h.2.2.2.1, Int.le_trans h.2.2.2.2 h'.2.2.2.2⟩⟩
theorem less_le {f s : FansT} (h : le4 s f) : le4 (GX.Fa.less f s) f := by
  obtain ⟨⟨a1, a2⟩, ⟨b1, b2⟩, ⟨c1, c2⟩, ⟨d1, d2⟩⟩ := h
  refine ⟨⟨?_, ?_⟩, ⟨?_, ?_⟩, ⟨?_, ?_⟩, ⟨?_, ?_⟩⟩ <;> simp only [GX.Fa.less] <;> omega
theorem smR_ok : ∀ {bs : List BinT}, Bins0 bs → ∀ {f : FansT}, F5 f → 0 ≤ tval bs f → ∃ ss : List FansT, smR bs (tval bs f) f = ss.map listF ∧ ss.length = bs.length ∧ (∀ i, i < bs.length → le4 (ss.getD i NO4) f ∧ GX.Fa.fitsB (bs.getD i noB) (ss.getD i NO4) = true) ∧ ∀ j, j < 4 → sumAt ss j = at4 f j
  | [], _, f, hf, h => by
    refine ⟨[], rfl, rfl, fun i hi => absurd hi (Nat.not_lt_zero _), fun j hj => ?_⟩
    have h : 0 ≤ (if GX.Fa.isNo f then (0 : Int) else -1) := h
    cases hn : GX.Fa.isNo f with
    | false => rw [hn] at h; exact absurd h (by decide)
    | true =>
      simp only [GX.Fa.isNo, Bool.and_eq_true, beq_iff_eq] at hn
      match j, hj with
      | 0, _ => exact hn.1.symm
      | 1, _ => exact hn.2.1.symm
      | 2, _ => exact hn.2.2.1.symm
      | 3, _ => exact hn.2.2.2.symm
  | b :: r, hb, f, hf, h0 => by
    obtain ⟨b1, b2, b3⟩ := hb.cons
    obtain ⟨s0, hle0, hok0⟩ : ∃ s, le4 s f ∧ smOK b r (tval (b :: r) f) f (listF s) = true := by
      have e : tval (b :: r) f = lstR b (tval r) f := rfl
      rcases lstR_spec (b := b) (rest := tval r) hf with ⟨v, hno⟩ | ⟨s, hle, ht, hc, v, hmin⟩
      · rw [e, v] at h0; omega
      · refine ⟨s, hle, ?_⟩
        unfold smOK
        rw [numF_list (le4_F5 hle hf).1.fok, decide_eq_true hc, decide_eq_true ht, e, v]
        simp
    simp only [smR]
    cases hfd : (allL f).find? (smOK b r (tval (b :: r) f) f) with
    | none =>
      have := List.find?_eq_none.1 hfd (listF s0) ((allL_mem hf).2 ⟨s0, hle0, rfl⟩)
      exact absurd hok0 this
    | some l =>
      have q1 := List.find?_some hfd
      obtain ⟨s, hle, rfl⟩ := (allL_mem hf).1 (List.mem_of_find?_eq_some hfd)
      have hsf := le4_F5 hle hf
      simp only
      unfold smOK at q1
      rw [numF_list hsf.1.fok] at q1 ⊢
      simp only [Bool.and_eq_true, decide_eq_true_eq] at q1
      obtain ⟨⟨c1, c2⟩, c3⟩ := q1
      have hfit := (cost_fit (b2 s hsf.1)).1 c1
      have e3 : tval (b :: r) f - costF b s = tval r (GX.Fa.less f s) := by omega
      obtain ⟨ss, g1, g2, g3, g4⟩ := smR_ok b3 hsf.2 c2
      refine ⟨s :: ss, by rw [e3, g1]; rfl, by simp [g2], fun i hi => ?_, fun j hj => ?_⟩
      · cases i with
        | zero => exact ⟨hle, hfit⟩
        | succ i =>
          obtain ⟨k1, k2⟩ := g3 i (by simpa using hi)
          exact ⟨le4_tr k1 (less_le hle), k2⟩
      · have := g4 j hj
        rw [at4_less _ _ hj] at this
        show at4 s j + sumAt ss j = at4 f j
        omega
theorem sum_rep (n : Nat) (x : Int) : (List.replicate n x).sum = n * x := by
  induction n with
  | zero => simp
  | succ n ih => rw [List.replicate_succ, List.sum_cons, ih]; push_cast; rw [Int.add_mul]; omega
theorem listF_sum {s : FansT} (hs : F5 s) (g : Int → Int) : ((listF s).map g).sum = at4 s 0 * g 0 + at4 s 1 * g 1 + at4 s 2 * g 2 + at4 s 3 * g 3 := by
  obtain ⟨⟨a1, a2⟩, ⟨b1, b2⟩, ⟨c1, c2⟩, ⟨d1, d2⟩⟩ := hs
  unfold listF
  simp only [List.map_append, List.sum_append, List.map_replicate, sum_rep]
  rw [Int.toNat_of_nonneg a1, Int.toNat_of_nonneg b1, Int.toNat_of_nonneg c1, Int.toNat_of_nonneg d1]
  rfl
theorem listF_len {s : FansT} (hs : F5 s) : ((listF s).length : Int) = sumF s := by
  have := num_sum (listF_in4 s)
  rw [numF_list hs.fok] at this
  exact this.symm
theorem usedO_sum (seam : Int) (c : List Int) (lots : Bool) (L : List Int) : ∀ k : Nat, k ≤ L.length → usedO seam c lots L k = ((L.take k).map fun v => c.getD v.toNat 0).sum + (if lots then 0 else if k = 0 then 0 else ((k : Int) - 1) * seam)
  | 0, _ => by cases lots <;> simp [usedO]
  | k + 1, h => by
    rw [take_snoc (by omega) 0, List.map_append, List.sum_append]
    simp only [usedO]
    rw [usedO_sum seam c lots L k (by omega)]
    simp only [List.map_cons, List.map_nil, List.sum_cons, List.sum_nil, Int.add_zero]
    cases lots with
    | true => simp
    | false =>
      by_cases hk : k = 0
      · subst hk; simp
      · have h1 : (if decide (k > 0) && !false then seam else 0) = seam := if_pos (by simp; omega)
        have h2 : (if (false = true) then (0 : Int) else if k = 0 then 0 else ((k : Int) - 1) * seam) = ((k : Int) - 1) * seam := by rw [if_neg (by simp), if_neg hk]
        have h3 : (if (false = true) then (0 : Int) else if k + 1 = 0 then 0 else (((k + 1 : Nat) : Int) - 1) * seam) = (((k + 1 : Nat) : Int) - 1) * seam := by rw [if_neg (by simp), if_neg (Nat.succ_ne_zero k)]
        rw [h1, h2, h3]
        have e : ((((k + 1 : Nat) : Int)) - 1) * seam = ((k : Int) - 1) * seam + seam := by
          rw [show (((k + 1 : Nat) : Int)) - 1 = ((k : Int) - 1) + 1 by omega, Int.add_mul, Int.one_mul]
        rw [e]; omega
theorem listF_mem {s : FansT} {v : Int} (h : v ∈ listF s) : 0 ≤ v ∧ v < 4 ∧ 1 ≤ at4 s v.toNat := by
  simp only [listF, List.mem_append, List.mem_replicate] at h
  rcases h with ((⟨h, rfl⟩ | ⟨h, rfl⟩) | ⟨h, rfl⟩) | ⟨h, rfl⟩
  · refine ⟨by omega, by omega, ?_⟩; show 1 ≤ s.1; omega
  · refine ⟨by omega, by omega, ?_⟩; show 1 ≤ s.2.1; omega
  · refine ⟨by omega, by omega, ?_⟩; show 1 ≤ s.2.2.1; omega
  · refine ⟨by omega, by omega, ?_⟩; show 1 ≤ s.2.2.2; omega

structure CntOK (f : List Spring) (c : List Int) : Prop where
  n : c.length = f.length
  b : ∀ j, j < f.length → 0 ≤ c.getD j 0 ∧ c.getD j 0 ≤ (f.getD j ((0, 0), 0, 0)).1.2
theorem cntle {f : List Spring} {c : List Int} (hc : CntOK f c) {s : FansT} (h5 : F5 s) (hs : supp f.length s) {T : Nat → Int} (hT : ∀ j, j < f.length → (f.getD j ((0, 0), 0, 0)).1.2 ≤ T j ∨ at4 s j = 0) : ((listF s).map fun v => c.getD v.toNat 0).sum ≤ GX.Fa.dot s (tup4 T) := by
  rw [listF_sum h5, dot_at]
  have key : ∀ j, j < 4 → at4 s j * c.getD ((j : Int)).toNat 0 ≤ at4 s j * at4 (tup4 T) j := fun j hj => by
    rw [at4_tup _ hj, Int.toNat_natCast]
    by_cases hn : j < f.length
    · rcases hT j hn with h | h
      · exact Int.mul_le_mul_of_nonneg_left (by have := hc.b j hn; omega) (h5.at0 j hj)
      · rw [h, Int.zero_mul, Int.zero_mul]; exact Int.le_refl _
    · rw [hs j hj (by omega), Int.zero_mul, Int.zero_mul]; exact Int.le_refl _
  have k0 := key 0 (by omega)
  have k1 := key 1 (by omega)
  have k2 := key 2 (by omega)
  have k3 := key 3 (by omega)
  have e0 : c.getD (Int.toNat 0) 0 = c.getD (((0 : Nat) : Int)).toNat 0 := rfl
  have e1 : c.getD (Int.toNat 1) 0 = c.getD (((1 : Nat) : Int)).toNat 0 := rfl
  have e2 : c.getD (Int.toNat 2) 0 = c.getD (((2 : Nat) : Int)).toNat 0 := rfl
  have e3 : c.getD (Int.toNat 3) 0 = c.getD (((3 : Nat) : Int)).toNat 0 := rfl
  rw [e0, e1, e2, e3]
  omega
theorem okOne_list {s : Store} {f : List Spring} {lots : Bool} {i : Nat} {t : FansT} (hs : supp f.length t) (hw : lots = true → ∀ j, j < f.length → 1 ≤ at4 t j → (f.getD j ((0, 0), 0, 0)).2.2 ≤ (s.2.2.getD i (0, 0)).1) {k : Nat} (hk : k < (listF t).length) : okOne s f lots i (listF t) k := by
  obtain ⟨m1, m2, m3⟩ := listF_mem (getD_mem (d := 0) hk)
  have hn : ((listF t).getD k 0).toNat < f.length := by
    by_cases h : ((listF t).getD k 0).toNat < f.length
    · exact h
    · have := hs ((listF t).getD k 0).toNat (by omega) (by omega)
      omega
  refine ⟨⟨m1, by omega⟩, fun h0 => ?_, fun hl => hw hl _ hn m3⟩
  have := (List.pairwise_iff_getElem.1 (listF_asc t)) (k - 1) k (by omega) hk (by omega)
  rw [getD_lt hk, getD_lt (by omega)]
  exact this
theorem leaf_list {s : Store} {f : List Spring} (v : VOK s f) {c : List Int} (hc : CntOK f c) {i : Nat} (hi : i < s.1.length) {t : FansT} (h5 : F5 t) (hs : supp f.length t) {e fi : Int} (hfit : GX.Fa.fitsB ((Fa.lvR s (cH f) e fi).getD i noB) t = true) : okList s f c false i (listF t) := by
  refine ⟨fun k hk => okOne_list hs (fun h => by cases h) hk, ?_⟩
  have hg : (Fa.lvR s (cH f) e fi).getD i noB = (tup4 fun j => at4 (cH f) j + s.2.1, tup4 fun _ => e, s.1.getD i 0 + s.2.1, fi) := by
    unfold Fa.lvR leavesR
    rw [List.getD_eq_getElem?_getD, List.getElem?_map, List.getElem?_eq_getElem hi, getD_lt hi]; rfl
  rw [hg] at hfit
  have hfit : GX.Fa.dot t (tup4 fun j => at4 (cH f) j + s.2.1) ≤ s.1.getD i 0 + s.2.1 := of_decide_eq_true hfit
  show usedO s.2.1 c false (listF t) (listF t).length ≤ s.1.getD i 0
  rw [usedO_sum _ _ _ _ _ (Nat.le_refl _), List.take_length]
  have hlv := v.lv _ (getD_mem (d := 0) hi)
  have hle := cntle hc h5 hs (T := fun j => at4 (cH f) j) (fun j hj => .inl (by rw [cH_at (by have := v.f4; omega), if_pos hj]; exact Int.le_refl _))
  have hd : GX.Fa.dot t (tup4 fun j => at4 (cH f) j + s.2.1) = GX.Fa.dot t (tup4 fun j => at4 (cH f) j) + sumF t * s.2.1 := by
    have hmul : ∀ a b c : Int, a * (b + c) = a * b + a * c := Int.mul_add
    rw [dot_at, dot_at, sumF_at, Int.add_mul, Int.add_mul, Int.add_mul]
    rw [at4_tup _ (show 0 < 4 by omega), at4_tup _ (show 1 < 4 by omega), at4_tup _ (show 2 < 4 by omega), at4_tup _ (show 3 < 4 by omega), at4_tup _ (show 0 < 4 by omega), at4_tup _ (show 1 < 4 by omega), at4_tup _ (show 2 < 4 by omega), at4_tup _ (show 3 < 4 by omega)]
    rw [hmul, hmul, hmul, hmul]
    omega
  have hlen := listF_len h5
  rw [if_neg (by simp)]
  by_cases h0 : (listF t).length = 0
  · rw [if_pos h0]
    have : listF t = [] := List.length_eq_zero_iff.1 h0
    rw [this]
    show (0 : Int) + 0 ≤ _
    omega
  · rw [if_neg h0, hlen, Int.sub_mul, Int.one_mul]
    omega
theorem lot_list {s : Store} {f : List Spring} (v : VOK s f) {c : List Int} (hc : CntOK f c) {i : Nat} (hi : i < s.2.2.length) {t : FansT} (h5 : F5 t) (hs : supp f.length t) (hfit : GX.Fa.fitsB ((Fa.ltR s f (cH f)).getD i noB) t = true) : okList s f c true i (listF t) := by
  have hg : (Fa.ltR s f (cH f)).getD i noB = lotR f (cH f) (s.2.2.getD i (0, 0)) := by
    unfold Fa.ltR lotsR
    rw [List.getD_eq_getElem?_getD, List.getElem?_map, List.getElem?_eq_getElem hi, getD_lt hi]; rfl
  rw [hg] at hfit
  obtain ⟨l, hl⟩ : ∃ l, l = s.2.2.getD i (0, 0) := ⟨_, rfl⟩
  have hlt := v.lt _ (getD_mem (d := (0, 0)) hi)
  rw [← hl] at hfit hlt
  obtain ⟨T, hT⟩ : ∃ T : Nat → Int, T = fun j => if j < f.length then (if (f.getD j ((0, 0), 0, 0)).2.2 > l.1 then 1000 else at4 (cH f) j) else 0 := ⟨_, rfl⟩
  have hfit : GX.Fa.dot t (tup4 T) ≤ l.2 := by rw [hT]; exact of_decide_eq_true hfit
  have hT0 : ∀ j, j < 4 → 0 ≤ T j := fun j hj => by
    rw [hT]
    show 0 ≤ if j < f.length then _ else _
    split
    · split
      · omega
      · exact (all4_at v.cH hj).1
    · omega
  have hw : ∀ j, j < f.length → 1 ≤ at4 t j → (f.getD j ((0, 0), 0, 0)).2.2 ≤ l.1 := fun j hj h1 => by
    by_cases hgt : (f.getD j ((0, 0), 0, 0)).2.2 > l.1
    · have h := dot_ge (s := t) h5.at0 hT0 (show j < 4 by have := v.f4; omega)
      have e : T j = 1000 := by rw [hT]; show (if j < f.length then _ else _) = _; rw [if_pos hj, if_pos hgt]
      rw [e] at h
      omega
    · omega
  refine ⟨fun k hk => okOne_list hs (fun _ => by rw [← hl]; exact hw) hk, ?_⟩
  show usedO s.2.1 c true (listF t) (listF t).length ≤ (s.2.2.getD i (0, 0)).2
  rw [usedO_sum _ _ _ _ _ (Nat.le_refl _), List.take_length, if_pos rfl, Int.add_zero, ← hl]
  have hle := cntle hc h5 hs (T := T) (fun j hj => by
    by_cases h0 : at4 t j = 0
    · exact .inr h0
    · refine .inl ?_
      have hj4 : j < 4 := by have := v.f4; omega
      have := hw j hj (by have := h5.at0 j hj4; omega)
      have e : T j = at4 (cH f) j := by rw [hT]; show (if j < f.length then _ else _) = _; rw [if_pos hj, if_neg (by omega)]
      rw [e, cH_at hj4, if_pos hj]; exact Int.le_refl _)
  omega
theorem flat_count {ss : List FansT} (h : ∀ s, s ∈ ss → F5 s) {j : Nat} (hj : j < 4) : (((ss.map listF).flatten.count (j : Int) : Nat) : Int) = sumAt ss j := by
  induction ss with
  | nil => rfl
  | cons s ss ih =>
    have ih := ih fun x hx => h x (by simp [hx])
    have h5 := h s (by simp)
    have e := num_at (listF_in4 s) hj
    rw [numF_list h5.fok] at e
    rw [List.map_cons, List.flatten_cons, List.count_append]
    push_cast
    rw [ih, ← e]
    rfl

theorem lists_fine {s : Store} {f : List Spring} (v : VOK s f) {bs : List BinT} (hb : Bins0 bs) (h0 : 0 ≤ tval bs (wantF f)) {lots : Bool} (hn : bs.length = manyO s lots) {c : List Int}
    (hone : ∀ i, i < bs.length → ∀ t, F5 t → supp f.length t → GX.Fa.fitsB (bs.getD i noB) t = true → okList s f c lots i (listF t)) :
    okLists s f c (smR bs (tval bs (wantF f)) (wantF f)) lots ∧ fansO f (smR bs (tval bs (wantF f)) (wantF f)) = f.map (fun x => x.2.1) ∧ ∀ l, l ∈ smR bs (tval bs (wantF f)) (wantF f) → l.length ≤ 1000 := by
  have hw : F5 (wantF f) := v.want4
  obtain ⟨ss, g1, g2, g3, g4⟩ := smR_ok hb hw h0
  rw [g1]
  have h5 : ∀ s, s ∈ ss → F5 s := fun s hs => by
    obtain ⟨j, hj, rfl⟩ := List.mem_iff_getElem.1 hs
    have := (g3 j (by omega)).1
    rw [getD_lt hj] at this
    exact (le4_F5 this hw).1
  refine ⟨⟨by rw [List.length_map, g2, hn], fun i hi => ?_⟩, ?_, fun l hl => ?_⟩
  · have hi : i < ss.length := by simpa using hi
    have e : (ss.map listF).getD i [] = listF (ss.getD i NO4) := by
      rw [List.getD_eq_getElem?_getD, List.getElem?_map, List.getElem?_eq_getElem hi, getD_lt hi]; rfl
    rw [e]
    obtain ⟨k1, k2⟩ := g3 i (by omega)
    exact hone i (by omega) _ (le4_F5 k1 hw).1 ((want_supp f).le k1).1 k2
  · refine list_ext' 0 (by simp [fansO]) fun j hj => ?_
    have hj : j < f.length := by simpa [fansO] using hj
    have hj4 : j < 4 := by have := v.f4; omega
    have e1 : (fansO f (ss.map listF)).getD j 0 = (((ss.map listF).flatten.count (j : Int) : Nat) : Int) := cntN_get hj
    rw [e1, flat_count h5 hj4, g4 j hj4, want_at hj4, if_pos hj]
    rw [List.getD_eq_getElem?_getD (l := f.map _), List.getElem?_map, List.getElem?_eq_getElem hj, getD_lt hj]
    rfl
  · obtain ⟨t, ht, rfl⟩ := List.mem_map.1 hl
    have h6 := h5 t ht
    have := listF_len h6
    obtain ⟨⟨a1, a2⟩, ⟨b1, b2⟩, ⟨c1, c2⟩, ⟨d1, d2⟩⟩ := h6
    unfold sumF at this
    omega

theorem can_mono : ∀ {bs bs' : List BinT}, Bins0 bs → Bins0 bs' → bs.length = bs'.length → (∀ i, i < bs.length → ∀ s, F5 s → GX.Fa.fitsB (bs.getD i noB) s = true → GX.Fa.fitsB (bs'.getD i noB) s = true) → ∀ {f : FansT}, F5 f → 0 ≤ tval bs f → 0 ≤ tval bs' f
  | [], [], _, _, _, _, f, _, h => h
  | [], _ :: _, _, _, h, _, _, _, _ => by simp at h
  | _ :: _, [], _, _, h, _, _, _, _ => by simp at h
  | b :: r, b' :: r', hb, hb', hl, hh, f, hf, h => by
    obtain ⟨_, x2, x3⟩ := hb.cons
    obtain ⟨_, y2, y3⟩ := hb'.cons
    rw [can_cons hf] at h ⊢
    obtain ⟨s, hle, ht, hc⟩ := h
    have h5 := le4_F5 hle hf
    refine ⟨s, hle, can_mono x3 y3 (by simpa using hl) (fun i hi => hh (i + 1) (by simp; omega)) h5.2 ht, ?_⟩
    exact (cost_fit (y2 s h5.1)).2 (hh 0 (by simp) s h5.1 ((cost_fit (x2 s h5.1)).1 hc))
theorem leaves_get {ls : List Int} {seam : Int} {c : FansT} {e fi : Int} {i : Nat} (hi : i < ls.length) : (leavesR ls seam c e fi).getD i noB = (tup4 fun j => at4 c j + seam, tup4 fun _ => e, ls.getD i 0 + seam, fi) := by
  unfold leavesR
  rw [List.getD_eq_getElem?_getD, List.getElem?_map, List.getElem?_eq_getElem hi, getD_lt hi]; rfl
theorem lots_get {ls : List Lot} {f : List Spring} {c : FansT} {i : Nat} (hi : i < ls.length) : (lotsR ls f c).getD i noB = lotR f c (ls.getD i (0, 0)) := by
  unfold lotsR
  rw [List.getD_eq_getElem?_getD, List.getElem?_map, List.getElem?_eq_getElem hi, getD_lt hi]; rfl
theorem VOK.lv1 {s : Store} {f : List Spring} (v : VOK s f) {c : FansT} (hc : all4 (fun x => 0 ≤ x ∧ x ≤ 40) c) : Bins0 (Fa.lvR s c 0 1) :=
  leavesR_ok (by have := v.n6; omega) v.lv4 v.sm4 (cnt400 hc) ⟨by omega, by omega⟩ ⟨by omega, by omega⟩ (by omega) (by omega)
theorem lv_iff {s : Store} {f : List Spring} (v : VOK s f) {n : FansT} (hn : F5 n) : 0 ≤ tval (Fa.lvR s (cH f) 0 1) n ↔ 0 ≤ tval (Fa.lvR s (cH f) 0 0) n := by
  have l1 : (Fa.lvR s (cH f) 0 1).length = s.1.length := by simp [Fa.lvR, leavesR]
  have l0 : (Fa.lvR s (cH f) 0 0).length = s.1.length := by simp [Fa.lvR, leavesR]
  constructor
  · refine can_mono (v.lv1 v.cH) (v.lvR v.cH) (by rw [l1, l0]) (fun i hi t ht h => ?_) hn
    unfold Fa.lvR at h ⊢
    rw [leaves_get (by omega)] at h ⊢
    exact h
  · refine can_mono (v.lvR v.cH) (v.lv1 v.cH) (by rw [l1, l0]) (fun i hi t ht h => ?_) hn
    unfold Fa.lvR at h ⊢
    rw [leaves_get (by omega)] at h ⊢
    exact h
end Go.Proofs.Fa
set_option linter.unusedVariables false
namespace Go.Proofs.Fa
open Go Go.GX Go.Proofs

theorem mod_b {x m : Int} (hm : 0 < m) : 0 ≤ x % m ∧ x % m < m := ⟨Int.emod_nonneg _ (by omega), Int.emod_lt_of_pos _ hm⟩
theorem spr_ok (v : By4) : isSprF (sprO v) = true := by
  have a := mod_b (x := v.1) (m := 20) (by omega)
  have b := mod_b (x := v.2.1) (m := 6) (by omega)
  have c := mod_b (x := v.2.2.1) (m := 5) (by omega)
  have d := mod_b (x := v.2.2.2) (m := 35) (by omega)
  unfold isSprF sprO
  simp only [Bool.and_eq_true, decide_eq_true_eq, inB_iff]
  omega
theorem seaF_mem {x : Season} {s : Spring} (h : s ∈ seaF x) : isSprF s = true := by
  unfold seaF at h
  split at h
  · rw [List.mem_singleton] at h; subst h; exact spr_ok _
  · obtain ⟨v, _, rfl⟩ := List.mem_map.1 h; exact spr_ok _
theorem seaF_len (x : Season) : 1 ≤ (seaF x).length ∧ (seaF x).length ≤ 3 := by
  unfold seaF
  split
  · simp
  · simp; omega
theorem sea_ok (x : Season) : checkF (seaS x) (seaF x) = 0 := by
  have hl := seaF_len x
  have h1 : (seaS x).1.length ≤ 5 := by simp [seaS]; omega
  have h2 : (seaS x).2.2.length ≤ 4 := by simp [seaS]; omega
  have a1 : (seaS x).1.all (inB 1 200) = true := by
    rw [List.all_eq_true]
    intro y hy
    obtain ⟨b, _, rfl⟩ := List.mem_map.1 hy
    have := mod_b (x := b) (m := 90) (by omega)
    rw [inB_iff]; omega
  have a2 : inB 0 10 (seaS x).2.1 = true := by
    have := mod_b (x := x.2.1) (m := 6) (by omega)
    rw [inB_iff]
    show 0 ≤ x.2.1 % 6 ∧ x.2.1 % 6 ≤ 10
    omega
  have a3 : (seaS x).2.2.all isLotF = true := by
    rw [List.all_eq_true]
    intro y hy
    obtain ⟨b, _, rfl⟩ := List.mem_map.1 hy
    have h1 := mod_b (x := b.1) (m := 40) (by omega)
    have h2 := mod_b (x := b.2) (m := 120) (by omega)
    unfold isLotF
    simp only [Bool.and_eq_true, inB_iff]
    omega
  unfold checkF
  rw [if_neg (by omega), if_neg (by rw [a1, a2, a3]; simp), if_neg (by rw [show inB 1 4 ((seaF x).length : Int) = true from inB_iff.2 (by omega)]; simp), if_neg]
  rw [show (seaF x).all isSprF = true from List.all_eq_true.2 fun s hs => seaF_mem hs]
  simp
theorem cnt_ok {s : Store} {f : List Spring} (v : VOK s f) {t : List Int} (ht : ∀ y, y ∈ t → byteB y) : CntOK f ((List.range f.length).map (cntO f t)) where
  n := by simp
  b := fun j hj => by
    have e : ((List.range f.length).map (cntO f t)).getD j 0 = cntO f t j := by
      rw [List.getD_eq_getElem?_getD, List.getElem?_map, List.getElem?_range hj]; rfl
    have hs := v.getS hj
    rw [e]
    unfold cntO
    split
    · have hb := byteAt_b ht j
      obtain ⟨lo, hlo⟩ : ∃ lo, lo = (f.getD j ((0, 0), 0, 0)).1.1 := ⟨_, rfl⟩
      obtain ⟨hi, hhi⟩ : ∃ hi, hi = (f.getD j ((0, 0), 0, 0)).1.2 := ⟨_, rfl⟩
      rw [← hlo, ← hhi] at hs ⊢
      have m0 : 0 ≤ byteAt t j * (hi - lo) := Int.mul_nonneg hb.1 (by omega)
      have m1 : byteAt t j * (hi - lo) ≤ 255 * (hi - lo) := Int.mul_le_mul_of_nonneg_right hb.2 (by omega)
      generalize byteAt t j * (hi - lo) = z at m0 m1
      omega
    · omega
theorem cut_leaves {s : Store} {f : List Spring} (v : VOK s f) (hc : checkF s f = 0) {c : List Int} (hcn : CntOK f c) (h0 : (resLeaves s f).2 = 0) : okLists s f c (resLeaves s f).1 false ∧ fansO f (resLeaves s f).1 = f.map (fun x => x.2.1) ∧ ∀ l, l ∈ (resLeaves s f).1 → l.length ≤ 1000 := by
  have e : resLeaves s f = if (smallR (Fa.lvR s (cH f) 0 1) (wantF f)).2 then ((smallR (Fa.lvR s (cH f) 0 1) (wantF f)).1, 0) else ([], 9) := by
    unfold resLeaves
    rw [if_neg (by simp [hc])]
    exact small_eq v.lva (v.lv1 v.cH) v.want4 (want_supp f)
  rw [e] at h0 ⊢
  by_cases ht : tval (Fa.lvR s (cH f) 0 1) (wantF f) < 0
  · have : smallR (Fa.lvR s (cH f) 0 1) (wantF f) = ([], false) := by unfold smallR; rw [if_pos ht]
    rw [this] at h0; cases h0
  · have : smallR (Fa.lvR s (cH f) 0 1) (wantF f) = (smR (Fa.lvR s (cH f) 0 1) (tval (Fa.lvR s (cH f) 0 1) (wantF f)) (wantF f), true) := by unfold smallR; rw [if_neg ht]
    rw [this]
    have hl : (Fa.lvR s (cH f) 0 1).length = s.1.length := by simp [Fa.lvR, leavesR]
    exact lists_fine (lots := false) v (v.lv1 v.cH) (by omega) hl fun i hi t h5 hs hf => leaf_list v hcn (by omega) h5 hs hf
theorem cut_lots {s : Store} {f : List Spring} (v : VOK s f) (hc : checkF s f = 0) {c : List Int} (hcn : CntOK f c) (h0 : (resLots s f).2 = 0) : okLists s f c (resLots s f).1 true ∧ fansO f (resLots s f).1 = f.map (fun x => x.2.1) ∧ ∀ l, l ∈ (resLots s f).1 → l.length ≤ 1000 := by
  have e : resLots s f = if (smallR (Fa.ltR s f (cH f)) (wantF f)).2 then ((smallR (Fa.ltR s f (cH f)) (wantF f)).1, 0) else ([], 9) := by
    unfold resLots
    rw [if_neg (by simp [hc])]
    exact small_eq (v.lta v.cH) (v.ltR v.cH) v.want4 (want_supp f)
  rw [e] at h0 ⊢
  by_cases ht : tval (Fa.ltR s f (cH f)) (wantF f) < 0
  · have : smallR (Fa.ltR s f (cH f)) (wantF f) = ([], false) := by unfold smallR; rw [if_pos ht]
    rw [this] at h0; cases h0
  · have : smallR (Fa.ltR s f (cH f)) (wantF f) = (smR (Fa.ltR s f (cH f)) (tval (Fa.ltR s f (cH f)) (wantF f)) (wantF f), true) := by unfold smallR; rw [if_neg ht]
    rw [this]
    have hl : (Fa.ltR s f (cH f)).length = s.2.2.length := by simp [Fa.ltR, lotsR]
    exact lists_fine (lots := true) v (v.ltR v.cH) (by omega) hl fun i hi t h5 hs hf => lot_list v hcn (by omega) h5 hs hf
theorem code_leaves {s : Store} {f : List Spring} (v : VOK s f) (hc : checkF s f = 0) : (resLeaves s f).2 = if 0 ≤ tval (Fa.lvR s (cH f) 0 0) (wantF f) then 0 else 9 := by
  have e : resLeaves s f = if (smallR (Fa.lvR s (cH f) 0 1) (wantF f)).2 then ((smallR (Fa.lvR s (cH f) 0 1) (wantF f)).1, 0) else ([], 9) := by
    unfold resLeaves
    rw [if_neg (by simp [hc])]
    exact small_eq v.lva (v.lv1 v.cH) v.want4 (want_supp f)
  have hi := lv_iff v (n := wantF f) v.want4
  rw [e]
  by_cases ht : tval (Fa.lvR s (cH f) 0 1) (wantF f) < 0
  · have : smallR (Fa.lvR s (cH f) 0 1) (wantF f) = ([], false) := by unfold smallR; rw [if_pos ht]
    rw [this]
    refine Eq.trans (b := (9 : Int)) rfl ?_
    rw [if_neg (by omega)]
  · have : (smallR (Fa.lvR s (cH f) 0 1) (wantF f)).2 = true := by unfold smallR; rw [if_neg ht]
    rw [if_pos this]
    refine Eq.trans (b := (0 : Int)) rfl ?_
    rw [if_pos (by omega)]
theorem code_lots {s : Store} {f : List Spring} (v : VOK s f) (hc : checkF s f = 0) : (resLots s f).2 = if 0 ≤ tval (Fa.ltR s f (cH f)) (wantF f) then 0 else 9 := by
  have e : resLots s f = if (smallR (Fa.ltR s f (cH f)) (wantF f)).2 then ((smallR (Fa.ltR s f (cH f)) (wantF f)).1, 0) else ([], 9) := by
    unfold resLots
    rw [if_neg (by simp [hc])]
    exact small_eq (v.lta v.cH) (v.ltR v.cH) v.want4 (want_supp f)
  rw [e]
  by_cases ht : tval (Fa.ltR s f (cH f)) (wantF f) < 0
  · have : smallR (Fa.ltR s f (cH f)) (wantF f) = ([], false) := by unfold smallR; rw [if_pos ht]
    rw [this]
    refine Eq.trans (b := (9 : Int)) rfl ?_
    rw [if_neg (by omega)]
  · have : (smallR (Fa.ltR s f (cH f)) (wantF f)).2 = true := by unfold smallR; rw [if_neg ht]
    rw [if_pos this]
    refine Eq.trans (b := (0 : Int)) rfl ?_
    rw [if_pos (by omega)]
end Go.Proofs.Fa
set_option maxRecDepth 100000
set_option maxHeartbeats 0
namespace Go.Proofs.Fa
open Go Go.GX Go.Proofs
variable [Inhabited BaseD]
theorem ok43 : CallsOK Try.prog (assoc glT) 43 f43_ct :=
  callsOK_mkM [] st_ok mp_ok it_ok mk_ok in_ok (AllOK.cons ok55 AllOK.nil) f43_an Try.func43 (by kernel_rfl) (by kernel_rfl) f43_ct fun x _ Q h => (v43 x Q).mp (p43 h)
theorem ok44 : CallsOK Try.prog (assoc glT) 44 f44_ct :=
  callsOK_mkM [] st_ok mp_ok it_ok mk_ok in_ok AllOK.nil no_an Try.func44 (by kernel_rfl) (by kernel_rfl) f44_ct fun s _ Q h => (v44 s Q).mp (p44 h)
theorem ok45 : CallsOK Try.prog (assoc glT) 45 f45_ct :=
  callsOK_mkM [] st_ok mp_ok it_ok mk_ok in_ok AllOK.nil no_an Try.func45 (by kernel_rfl) (by kernel_rfl) f45_ct fun f _ Q h => (v45 f Q).mp (p45 h)
theorem ok48 : CallsOK Try.prog (assoc glT) 48 f48_ct :=
  callsOK_mkM [] st_ok mp_ok it_ok mk_ok in_ok AllOK.nil no_an Try.func48 (by kernel_rfl) (by kernel_rfl) f48_ct fun ⟨l, i, _⟩ _ Q h => (v48 l i Q).mp (p48 h)
theorem ok46 : CallsOK Try.prog (assoc glT) 46 f46_ct :=
  callsOK_mkM [] st_ok mp_ok it_ok mk_ok in_ok (AllOK.cons ok48 AllOK.nil) f46_an Try.func46 (by kernel_rfl) (by kernel_rfl) f46_ct fun ⟨f, t, _⟩ _ Q h => (v46 f t Q).mp (p46 h)
theorem ok47 : CallsOK Try.prog (assoc glT) 47 f47_ct :=
  callsOK_mkM [] st_ok mp_ok it_ok mk_ok in_ok AllOK.nil f47_an Try.func47 (by kernel_rfl) (by kernel_rfl) f47_ct fun ⟨s, f, c, l, b, _⟩ _ Q h => (v47 s f c l b Q).mp (p47 h)
end Go.Proofs.Fa
namespace Go.Proofs.Fa
open Go Go.GX Go.Proofs

def takeO (s : Store) (f : List Spring) (lots : Bool) (n : Nat) : Int := (f.getD n ((0, 0), 0, 0)).1.2 + if lots then 0 else s.2.1
def roomO (s : Store) (lots : Bool) (i : Nat) : Int := if lots then (s.2.2.getD i (0, 0)).2 else s.1.getD i 0 + s.2.1
end Go.Proofs.Fa
set_option linter.unusedVariables false
set_option maxRecDepth 100000
namespace Go.Proofs.Fa
open Go Go.GX Go.Proofs

end Go.Proofs.Fa
set_option linter.unusedVariables false
namespace Go.Proofs.Fa
open Go Go.GX Go.Proofs

structure TriOK (f : List Spring) (st : Int × List Int) : Prop where
  n : st.2.length = f.length
  b : ∀ i, i < f.length → 0 ≤ st.2.getD i 0 ∧ st.2.getD i 0 ≤ (f.getD i ((0, 0), 0, 0)).2.1
  l : 0 ≤ st.1 ∧ st.1 ≤ 400
end Go.Proofs.Fa
set_option linter.unusedVariables false
namespace Go.Proofs.Fa
open Go Go.GX Go.Proofs

def addF (a b : FansT) : FansT := (a.1 + b.1, a.2.1 + b.2.1, a.2.2.1 + b.2.2.1, a.2.2.2 + b.2.2.2)
theorem le4_mk {a b : FansT} (h : ∀ i, i < 4 → 0 ≤ at4 a i ∧ at4 a i ≤ at4 b i) : le4 a b := ⟨h 0 (by omega), h 1 (by omega), h 2 (by omega), h 3 (by omega)⟩
theorem F5_mk {a : FansT} (h : ∀ i, i < 4 → 0 ≤ at4 a i ∧ at4 a i ≤ 4) : F5 a := ⟨h 0 (by omega), h 1 (by omega), h 2 (by omega), h 3 (by omega)⟩
theorem F5_at {a : FansT} (h : F5 a) {i : Nat} (hi : i < 4) : 0 ≤ at4 a i ∧ at4 a i ≤ 4 := all4_at h hi
def vecL (l : List Int) : FansT := tup4 fun i => l.getD i 0
def takesF (s : Store) (f : List Spring) (lots : Bool) : FansT := tup4 fun n => takeO s f lots n
theorem getD_none {l : List Int} {i : Nat} (h : l.length ≤ i) : l.getD i 0 = 0 := by
  rw [List.getD_eq_getElem?_getD, List.getElem?_eq_none h]; rfl
theorem dot_bump {T t : FansT} {n : Nat} (hn : n < 4) : GX.Fa.dot (bump T n) t = GX.Fa.dot T t + at4 t n := by
  have key : ∀ i, i < 4 → at4 (bump T n) i * at4 t i = at4 T i * at4 t i + if i = n then at4 t i else 0 := fun i hi => by
    rw [bump_at (by omega) hi, Int.add_mul]
    by_cases h : i = n
    · rw [if_pos (by omega), if_pos h, Int.one_mul]
    · rw [if_neg (by omega), if_neg h, Int.zero_mul]
  rw [dot_at, dot_at, key 0 (by omega), key 1 (by omega), key 2 (by omega), key 3 (by omega)]
  match n, hn with
  | 0, _ => simp; omega
  | 1, _ => simp; omega
  | 2, _ => simp; omega
  | 3, _ => simp; omega
structure TriT (s : Store) (f : List Spring) (lots : Bool) (i : Nat) (F : FansT) (st : Int × List Int) (T : FansT) : Prop where
  p : ∀ n, n < 4 → 0 ≤ at4 T n
  e : vecL st.2 = addF F T
  d : GX.Fa.dot T (takesF s f lots) = roomO s lots i - st.1
  w : lots = true → ∀ n, n < f.length → 1 ≤ at4 T n → (f.getD n ((0, 0), 0, 0)).2.2 ≤ (s.2.2.getD i (0, 0)).1
  z : supp f.length T
end Go.Proofs.Fa
set_option linter.unusedVariables false
namespace Go.Proofs.Fa
open Go Go.GX Go.Proofs

end Go.Proofs.Fa
set_option maxRecDepth 100000
set_option maxHeartbeats 0
namespace Go.Proofs.Fa
open Go Go.GX Go.Proofs
variable [Inhabited BaseD]
end Go.Proofs.Fa
set_option linter.unusedVariables false
namespace Go.Proofs.Fa
open Go Go.GX Go.Proofs

theorem check_of {s : Store} {f : List Spring} (v : VOK s f) : checkF s f = 0 := by
  have a1 : s.1.all (inB 1 200) = true := List.all_eq_true.2 fun y hy => inB_iff.2 (v.lv y hy)
  have a2 : inB 0 10 s.2.1 = true := inB_iff.2 v.sm
  have a3 : s.2.2.all isLotF = true := List.all_eq_true.2 fun y hy => by
    have := v.lt y hy
    unfold isLotF
    simp only [Bool.and_eq_true, inB_iff]
    exact this
  have a4 : inB 1 4 (f.length : Int) = true := inB_iff.2 ⟨by have := v.f1; omega, by have := v.f4; omega⟩
  have a5 : f.all isSprF = true := List.all_eq_true.2 fun y hy => by
    have := v.sp y hy
    unfold isSprF
    simp only [Bool.and_eq_true, decide_eq_true_eq, inB_iff]
    omega
  have n6 := v.n6
  have n5 := v.n5
  unfold checkF
  rw [if_neg (by omega), if_neg (by rw [a1, a2, a3]; simp), if_neg (by rw [a4]; simp), if_neg (by rw [a5]; simp)]
theorem NO4_at {i : Nat} (hi : i < 4) : at4 NO4 i = 0 := by
  match i, hi with
  | 0, _ => rfl
  | 1, _ => rfl
  | 2, _ => rfl
  | 3, _ => rfl
end Go.Proofs.Fa
namespace Go.Proofs.Fa
open Go Go.GX Go.Proofs

end Go.Proofs.Fa
set_option linter.unusedVariables false
set_option maxRecDepth 100000
namespace Go.Proofs.Fa
open Go Go.GX Go.Proofs

end Go.Proofs.Fa
set_option linter.unusedVariables false
namespace Go.Proofs.Fa
open Go Go.GX Go.Proofs

end Go.Proofs.Fa
set_option maxRecDepth 100000
set_option maxHeartbeats 0
namespace Go.Proofs.Fa
open Go Go.GX Go.Proofs
variable [Inhabited BaseD]
end Go.Proofs.Fa
set_option linter.unusedVariables false
namespace Go.Proofs.Fa
open Go Go.GX Go.Proofs

end Go.Proofs.Fa
namespace Go.Proofs.Fa
open Go Go.GX Go.Proofs

end Go.Proofs.Fa
set_option linter.unusedVariables false
set_option maxRecDepth 100000
namespace Go.Proofs.Fa
open Go Go.GX Go.Proofs

end Go.Proofs.Fa
set_option linter.unusedVariables false
namespace Go.Proofs.Fa
open Go Go.GX Go.Proofs

end Go.Proofs.Fa
set_option maxRecDepth 100000
set_option maxHeartbeats 0
namespace Go.Proofs.Fa
open Go Go.GX Go.Proofs
variable [Inhabited BaseD]
end Go.Proofs.Fa
set_option linter.unusedVariables false
namespace Go.Proofs.Fa
open Go Go.GX Go.Proofs

def packLoss : List BinT → List FansT → Int
  | b :: bs, s :: ss => costF b s + packLoss bs ss
  | _, _ => 0
theorem sumAt_cons (s : FansT) (ss : List FansT) (j : Nat) : sumAt (s :: ss) j = at4 s j + sumAt ss j := rfl
theorem sumAt_nonneg : ∀ {ss : List FansT}, (∀ s, s ∈ ss → F5 s) → ∀ {j : Nat}, j < 4 → 0 ≤ sumAt ss j
  | [], _, j, _ => Int.le_refl _
  | s :: ss, h, j, hj => by
    have h1 := sumAt_nonneg (fun x hx => h x (by simp [hx])) hj (ss := ss)
    have h2 := F5_at (h s (by simp)) hj
    rw [sumAt_cons]; omega

theorem pack_ge : ∀ {bs : List BinT}, Bins0 bs → ∀ {ss : List FansT} {F : FansT}, F5 F → ss.length = bs.length → (∀ s, s ∈ ss → F5 s) → (∀ i, i < bs.length → GX.Fa.fitsB (bs.getD i noB) (ss.getD i NO4) = true) → (∀ j, j < 4 → sumAt ss j = at4 F j) → 0 ≤ tval bs F ∧ tval bs F ≤ packLoss bs ss
  | [], _, ss, F, hF, hl, _, _, hs => by
    have e : ss = [] := List.length_eq_zero_iff.1 hl
    subst e
    have z : ∀ j, j < 4 → at4 F j = 0 := fun j hj => (hs j hj).symm
    have hno : GX.Fa.isNo F = true := by
      simp only [GX.Fa.isNo, Bool.and_eq_true, beq_iff_eq]
      exact ⟨z 0 (by omega), z 1 (by omega), z 2 (by omega), z 3 (by omega)⟩
    show 0 ≤ (if GX.Fa.isNo F then (0 : Int) else -1) ∧ (if GX.Fa.isNo F then (0 : Int) else -1) ≤ 0
    rw [hno]; decide
  | b :: bs, hb, [], F, _, hl, _, _, _ => by simp at hl
  | b :: bs, hb, s :: ss, F, hF, hl, h5, hf, hs => by
    obtain ⟨_, b2, b3⟩ := hb.cons
    have hs5 := h5 s (by simp)
    have h5' : ∀ x, x ∈ ss → F5 x := fun x hx => h5 x (by simp [hx])
    have hle : le4 s F := le4_mk fun i hi => by
      have h1 := hs i hi
      rw [sumAt_cons] at h1
      have h2 := sumAt_nonneg h5' hi
      have h3 := F5_at hs5 hi
      omega
    have hd5 := (le4_F5 hle hF).2
    obtain ⟨i1, i2⟩ := pack_ge b3 hd5 (by simpa using hl) h5' (fun i hi => hf (i + 1) (by simp; omega)) (fun j hj => by
      have h1 := hs j hj
      rw [sumAt_cons] at h1
      rw [at4_less _ _ hj]; omega)
    have hc : 0 ≤ costF b s := (cost_fit (b2 s hs5)).2 (hf 0 (by simp))
    have e : tval (b :: bs) F = lstR b (tval bs) F := rfl
    show 0 ≤ tval (b :: bs) F ∧ tval (b :: bs) F ≤ costF b s + packLoss bs ss
    rw [e]
    rcases lstR_spec (b := b) (rest := tval bs) hF with ⟨v, hno⟩ | ⟨t, _, ht, hct, v, hmin⟩
    · exact (hno s hle i1 hc).elim
    · have := hmin s hle i1 hc
      omega

theorem smR_cost : ∀ {bs : List BinT}, Bins0 bs → ∀ {f : FansT}, F5 f → 0 ≤ tval bs f → packLoss bs ((smR bs (tval bs f) f).map numF) = tval bs f ∧ (smR bs (tval bs f) f).length = bs.length ∧ (∀ l, l ∈ smR bs (tval bs f) f → ∃ s, F5 s ∧ le4 s f ∧ l = listF s) ∧ (∀ j, j < 4 → sumAt ((smR bs (tval bs f) f).map numF) j = at4 f j) ∧ ∀ i, i < bs.length → GX.Fa.fitsB (bs.getD i noB) (((smR bs (tval bs f) f).map numF).getD i NO4) = true
  | [], _, f, hf, h => by
    have h : 0 ≤ (if GX.Fa.isNo f then (0 : Int) else -1) := h
    cases hn : GX.Fa.isNo f with
    | false => rw [hn] at h; exact absurd h (by decide)
    | true =>
      refine ⟨?_, rfl, fun l hl => by simp [smR] at hl, fun j hj => ?_, fun i hi => absurd hi (Nat.not_lt_zero _)⟩
      · show 0 = (if GX.Fa.isNo f then (0 : Int) else -1)
        rw [hn]; rfl
      · simp only [GX.Fa.isNo, Bool.and_eq_true, beq_iff_eq] at hn
        match j, hj with
        | 0, _ => exact hn.1.symm
        | 1, _ => exact hn.2.1.symm
        | 2, _ => exact hn.2.2.1.symm
        | 3, _ => exact hn.2.2.2.symm
  | b :: r, hb, f, hf, h0 => by
    obtain ⟨b1, b2, b3⟩ := hb.cons
    obtain ⟨s0, hle0, hok0⟩ : ∃ s, le4 s f ∧ smOK b r (tval (b :: r) f) f (listF s) = true := by
      have e : tval (b :: r) f = lstR b (tval r) f := rfl
      rcases lstR_spec (b := b) (rest := tval r) hf with ⟨v, hno⟩ | ⟨s, hle, ht, hc, v, hmin⟩
      · rw [e, v] at h0; omega
      · refine ⟨s, hle, ?_⟩
        unfold smOK
        rw [numF_list (le4_F5 hle hf).1.fok, decide_eq_true hc, decide_eq_true ht, e, v]
        simp
    simp only [smR]
    cases hfd : (allL f).find? (smOK b r (tval (b :: r) f) f) with
    | none =>
      have := List.find?_eq_none.1 hfd (listF s0) ((allL_mem hf).2 ⟨s0, hle0, rfl⟩)
      exact absurd hok0 this
    | some l =>
      have q1 := List.find?_some hfd
      obtain ⟨s, hle, rfl⟩ := (allL_mem hf).1 (List.mem_of_find?_eq_some hfd)
      have hsf := le4_F5 hle hf
      simp only
      unfold smOK at q1
      have hnum := numF_list hsf.1.fok
      rw [hnum] at q1
      simp only [Bool.and_eq_true, decide_eq_true_eq] at q1
      obtain ⟨⟨c1, c2⟩, c3⟩ := q1
      have e3 : tval (b :: r) f - costF b (numF (listF s)) = tval r (GX.Fa.less f (numF (listF s))) := by rw [hnum]; omega
      rw [e3, hnum]
      obtain ⟨g1, g2, g3, g4, g5⟩ := smR_cost b3 hsf.2 c2
      refine ⟨?_, by simp [g2], fun l hl => ?_, fun j hj => ?_, fun i hi => ?_⟩
      · show costF b (numF (listF s)) + packLoss r _ = _
        rw [g1, hnum]; omega
      · rcases List.mem_cons.1 hl with rfl | hl
        · exact ⟨s, hsf.1, hle, rfl⟩
        · obtain ⟨s', k1, k2, k3⟩ := g3 l hl
          exact ⟨s', k1, le4_tr k2 (less_le hle), k3⟩
      · have := g4 j hj
        rw [at4_less _ _ hj] at this
        show at4 (numF (listF s)) j + sumAt _ j = at4 f j
        rw [hnum]
        omega
      · cases i with
        | zero =>
          show GX.Fa.fitsB b (numF (listF s)) = true
          rw [hnum]
          exact (cost_fit (b2 s hsf.1)).1 c1
        | succ i => exact g5 i (by simpa using hi)

theorem tot_used {f : List Spring} {seam : Int} {c : List Int} (hc : ∀ j, j < f.length → c.getD j 0 = (f.getD j ((0, 0), 0, 0)).1.2) {L : List Int} (hL : ∀ k, k < L.length → 0 ≤ L.getD k 0 ∧ L.getD k 0 < f.length) : ∀ k : Nat, k ≤ L.length → totS f seam (L.take k) true = usedO seam c false L k
  | 0, _ => rfl
  | k + 1, h => by
    have hk := hL k (by omega)
    rw [take_snoc (by omega) 0, totS_snoc, tot_used hc hL k (by omega)]
    simp only [usedO]
    rw [hc _ (by omega)]
    have e : (L.take k).isEmpty = decide (k = 0) := by
      cases k with
      | zero => rfl
      | succ k => cases L with
        | nil => simp at h
        | cons a r => rfl
    rw [e, Bool.true_and]
    by_cases h0 : k = 0
    · subst h0; simp
    · rw [if_neg (by simp [h0]), if_pos (by simp; omega)]
theorem restAll_of {f : List Spring} {seam : Int} {ls : List Int} {c : List (List Int)} (hn : c.length = ls.length) (ρ : Nat → Int) (h : ∀ i, i < c.length → restOne f seam (ls.getD i 0) (c.getD i []) = some (ρ i)) : ∀ k : Nat, k ≤ c.length → restAll f seam (ls.take k) (c.take k) = some ((List.range k).map ρ)
  | 0, _ => by cases ls <;> rfl
  | k + 1, hk => by
    rw [restAll_snoc (by omega) hn (restAll_of hn ρ h k (by omega)), h k (by omega), map_range_succ]
    rfl
theorem lvS_iff {s : Store} {f : List Spring} (v : VOK s f) {n : FansT} (hn : F5 n) : 0 ≤ tval (Fa.lvR s (cH f) s.2.1 (-s.2.1)) n ↔ 0 ≤ tval (Fa.lvR s (cH f) 0 0) n := by
  have l1 : (Fa.lvR s (cH f) s.2.1 (-s.2.1)).length = s.1.length := by simp [Fa.lvR, leavesR]
  have l0 : (Fa.lvR s (cH f) 0 0).length = s.1.length := by simp [Fa.lvR, leavesR]
  constructor
  · refine can_mono (v.lvS v.cH) (v.lvR v.cH) (by rw [l1, l0]) (fun i hi t ht h => ?_) hn
    unfold Fa.lvR at h ⊢
    rw [leaves_get (by omega)] at h ⊢
    exact h
  · refine can_mono (v.lvR v.cH) (v.lvS v.cH) (by rw [l1, l0]) (fun i hi t ht h => ?_) hn
    unfold Fa.lvR at h ⊢
    rw [leaves_get (by omega)] at h ⊢
    exact h
theorem loss_codes {s : Store} {f : List Spring} (v : VOK s f) : resLoss s f = if (resLeaves s f).2 = 0 ∧ (resLots s f).2 = 0 then (tval (Fa.lvR s (cH f) s.2.1 (-s.2.1)) (wantF f), tval (Fa.ltR s f (cH f)) (wantF f), 0) else (0, 0, 9) := by
  have hc := check_of v
  have hi := lvS_iff v (n := wantF f) v.want4
  unfold resLoss
  rw [if_neg (by simp [hc]), loss_eq v, code_leaves v hc, code_lots v hc]
  unfold lossR
  simp only
  by_cases h1 : 0 ≤ tval (Fa.lvR s (cH f) 0 0) (wantF f)
  · by_cases h2 : 0 ≤ tval (Fa.ltR s f (cH f)) (wantF f)
    · rw [if_pos ⟨by omega, h2⟩, if_pos h1, if_pos h2, if_pos ⟨rfl, rfl⟩]
    · rw [if_neg (fun h => h2 h.2), if_pos h1, if_neg h2, if_neg (fun h => absurd h.2 (by decide))]
  · rw [if_neg (fun h => h1 (hi.1 h.1)), if_neg h1, if_neg (fun h => absurd h.1 (by decide))]
end Go.Proofs.Fa
set_option linter.unusedVariables false
namespace Go.Proofs.Fa
open Go Go.GX Go.Proofs

def sumN (g : Nat → Int) (n : Nat) : Int := (List.range n).foldl (fun a i => a + g i) 0
theorem sumN_succ (g : Nat → Int) (n : Nat) : sumN g (n + 1) = sumN g n + g n := foldl_succ _ _ _
theorem sumN_congr {g g' : Nat → Int} : ∀ {n : Nat}, (∀ i, i < n → g i = g' i) → sumN g n = sumN g' n
  | 0, _ => rfl
  | n + 1, h => by rw [sumN_succ, sumN_succ, sumN_congr (fun i hi => h i (by omega)), h n (by omega)]
theorem sumN_up {g : Nat → Int} {J : Nat} {d : Int} : ∀ {n : Nat}, J < n → sumN (fun i => if i = J then g i + d else g i) n = sumN g n + d
  | 0, h => by omega
  | n + 1, h => by
    rw [sumN_succ, sumN_succ]
    by_cases e : J = n
    · subst e
      rw [if_pos rfl, sumN_congr (g := fun i => if i = J then g i + d else g i) (g' := g) (fun i hi => if_neg (by omega))]
      omega
    · rw [if_neg (fun h => e h.symm), sumN_up (by omega)]
      omega
theorem sumN_cons (g : Nat → Int) : ∀ n : Nat, sumN g (n + 1) = g 0 + sumN (fun i => g (i + 1)) n
  | 0 => by simp [sumN]
  | n + 1 => by rw [sumN_succ, sumN_cons g n, sumN_succ]; omega
theorem packLoss_sum : ∀ {bs : List BinT} {ss : List FansT}, ss.length = bs.length → packLoss bs ss = sumN (fun i => costF (bs.getD i noB) (ss.getD i NO4)) bs.length
  | [], [], _ => rfl
  | [], _ :: _, h => by simp at h
  | _ :: _, [], h => by simp at h
  | b :: bs, s :: ss, h => by
    rw [List.length_cons, sumN_cons]
    show costF b s + packLoss bs ss = costF b s + sumN (fun i => costF (bs.getD i noB) (ss.getD i NO4)) bs.length
    rw [packLoss_sum (by simpa using h)]
theorem sumAt_sum : ∀ (ss : List FansT) (j : Nat), sumAt ss j = sumN (fun i => at4 (ss.getD i NO4) j) ss.length
  | [], j => rfl
  | s :: ss, j => by
    rw [List.length_cons, sumN_cons, sumAt_cons, sumAt_sum ss j]
    rfl

def lossT (f : List Spring) (l : Lot) : FansT := tup4 fun n => at4 (cH f) n * (l.1 - (f.getD n ((0, 0), 0, 0)).2.2)
def lotD (s : Store) (i : Nat) : Lot := s.2.2.getD i (0, 0)
theorem lot_cost {s : Store} {f : List Spring} (v : VOK s f) {i : Nat} (hi : i < s.2.2.length) {t : FansT} (h5 : F5 t) (hs : supp f.length t) (hw : ∀ n, n < f.length → 1 ≤ at4 t n → (f.getD n ((0, 0), 0, 0)).2.2 ≤ (lotD s i).1) (hd : GX.Fa.dot t (cH f) ≤ (lotD s i).2) :
    GX.Fa.fitsB ((Fa.ltR s f (cH f)).getD i noB) t = true ∧ costF ((Fa.ltR s f (cH f)).getD i noB) t = GX.Fa.dot t (lossT f (lotD s i)) := by
  have f4 := v.f4
  have e : (Fa.ltR s f (cH f)).getD i noB = lotR f (cH f) (lotD s i) := lots_get hi
  rw [e]
  have e1 : GX.Fa.dot t (lotR f (cH f) (lotD s i)).1 = GX.Fa.dot t (cH f) := by
    have hcc : GX.Fa.dot t (tup4 fun j => at4 (cH f) j) = GX.Fa.dot t (cH f) := by
      have : (tup4 fun j => at4 (cH f) j) = cH f := fan_ext fun j hj => at4_tup _ hj
      rw [this]
    rw [← hcc]
    refine dot_supp fun j hj => ?_
    by_cases hn : j < f.length
    · by_cases h0 : at4 t j = 0
      · exact .inl h0
      · refine .inr ?_
        have := hw j hn (by have := h5.at0 j hj; omega)
        rw [if_pos hn, if_neg (by omega)]
    · exact .inl (hs j hj (by omega))
  have e2 : GX.Fa.dot t (lotR f (cH f) (lotD s i)).2.1 = GX.Fa.dot t (lossT f (lotD s i)) := dot_supp fun j hj => by
    by_cases hn : j < f.length
    · by_cases h0 : at4 t j = 0
      · exact .inl h0
      · refine .inr ?_
        have := hw j hn (by have := h5.at0 j hj; omega)
        rw [if_pos hn, if_neg (by omega)]
    · exact .inl (hs j hj (by omega))
  have hf : GX.Fa.fitsB (lotR f (cH f) (lotD s i)) t = true := decide_eq_true (show GX.Fa.dot t (lotR f (cH f) (lotD s i)).1 ≤ (lotD s i).2 by rw [e1]; exact hd)
  refine ⟨hf, ?_⟩
  rw [cost_loss hf]
  unfold GX.Fa.lossV
  show GX.Fa.dot t (lotR f (cH f) (lotD s i)).2.1 + (if GX.Fa.isNo t then 0 else 0) = _
  rw [e2, ite_self, Int.add_zero]

structure GrT (s : Store) (f : List Spring) (F : FansT) (room : List Int) (other : Int) (T : Nat → FansT) : Prop where
  n : room.length = s.2.2.length
  p : ∀ i, i < s.2.2.length → ∀ j, j < 4 → 0 ≤ at4 (T i) j
  z : ∀ i, i < s.2.2.length → supp f.length (T i)
  r : ∀ i, i < s.2.2.length → room.getD i 0 = (lotD s i).2 - GX.Fa.dot (T i) (cH f) ∧ 0 ≤ room.getD i 0
  w : ∀ i, i < s.2.2.length → ∀ m, m < f.length → 1 ≤ at4 (T i) m → (f.getD m ((0, 0), 0, 0)).2.2 ≤ (lotD s i).1
  a : ∀ j, j < 4 → sumN (fun i => at4 (T i) j) s.2.2.length = at4 F j
  o : other = sumN (fun i => GX.Fa.dot (T i) (lossT f (lotD s i))) s.2.2.length
theorem sumN_zero {g : Nat → Int} : ∀ {n : Nat}, (∀ i, i < n → g i = 0) → sumN g n = 0
  | 0, _ => rfl
  | n + 1, h => by rw [sumN_succ, sumN_zero (fun i hi => h i (by omega)), h n (by omega)]; rfl
theorem dot_NO4 (t : FansT) : GX.Fa.dot NO4 t = 0 := by
  show (0 : Int) * t.1 + 0 * t.2.1 + 0 * t.2.2.1 + 0 * t.2.2.2 = 0
  simp
theorem gr_zero {s : Store} {f : List Spring} (v : VOK s f) : GrT s f NO4 (s.2.2.map fun l => l.2) 0 (fun _ => NO4) where
  n := by simp
  p := fun i hi j hj => by rw [NO4_at hj]; omega
  z := fun i hi j hj _ => NO4_at hj
  r := fun i hi => by
    have e : (s.2.2.map fun l => l.2).getD i 0 = (lotD s i).2 := by
      unfold lotD
      rw [List.getD_eq_getElem?_getD, List.getElem?_map, List.getElem?_eq_getElem hi, getD_lt hi]; rfl
    have h := v.lt _ (getD_mem (d := (0, 0)) hi)
    rw [e, dot_NO4]
    exact ⟨by omega, h.2.1⟩
  w := fun i hi m hm h => by
    by_cases hm4 : m < 4
    · rw [NO4_at hm4] at h; omega
    · have := v.f4; omega
  a := fun j hj => by rw [NO4_at hj]; exact sumN_zero fun i _ => rfl
  o := (sumN_zero fun i _ => dot_NO4 _).symm
theorem gr_step {s : Store} {f : List Spring} (v : VOK s f) {F : FansT} {room : List Int} {other : Int} {T : Nat → FansT} (h : GrT s f F room other T) {J k : Nat} (hJ : J < s.2.2.length) (hk : k < f.length) (h1 : room.getD J 0 ≥ at4 (cH f) k) (h2 : (lotD s J).1 ≥ (f.getD k ((0, 0), 0, 0)).2.2) :
    GrT s f (bump F k) (room.set J (room.getD J 0 - at4 (cH f) k)) (other + at4 (cH f) k * ((lotD s J).1 - (f.getD k ((0, 0), 0, 0)).2.2)) (fun i => if i = J then bump (T J) k else T i) where
  n := by simp [h.n]
  p := fun i hi j hj => by
    have f4 := v.f4
    show 0 ≤ at4 (if i = J then bump (T J) k else T i) j
    split
    · have := h.p J hJ j hj
      rw [bump_at (by omega) hj]; split <;> omega
    · exact h.p i hi j hj
  z := fun i hi j hj hn => by
    have f4 := v.f4
    show at4 (if i = J then bump (T J) k else T i) j = 0
    split
    · have := h.z J hJ j hj hn
      rw [bump_at (by omega) hj, if_neg (by omega)]; omega
    · exact h.z i hi j hj hn
  r := fun i hi => by
    have f4 := v.f4
    rw [getD_set (by rw [h.n]; exact hJ)]
    show (if i = J then _ else _) = (lotD s i).2 - GX.Fa.dot (if i = J then bump (T J) k else T i) (cH f) ∧ 0 ≤ (if i = J then _ else _)
    by_cases e : i = J
    · subst e
      have := h.r i hi
      rw [if_pos rfl, if_pos rfl, dot_bump (by omega)]
      omega
    · rw [if_neg e, if_neg e]
      exact h.r i hi
  w := fun i hi m hm hm1 => by
    have f4 := v.f4
    by_cases e : i = J
    · subst e
      have hm1 : 1 ≤ at4 (if i = i then bump (T i) k else T i) m := hm1
      rw [if_pos rfl, bump_at (by omega) (by omega)] at hm1
      by_cases hmk : m = k
      · subst hmk; exact h2
      · rw [if_neg (by omega)] at hm1
        exact h.w i hi m hm (by omega)
    · have hm1 : 1 ≤ at4 (if i = J then bump (T J) k else T i) m := hm1
      rw [if_neg e] at hm1
      exact h.w i hi m hm hm1
  a := fun j hj => by
    have f4 := v.f4
    rw [bump_at (by omega) hj, ← h.a j hj]
    have : sumN (fun i => at4 (if i = J then bump (T J) k else T i) j) s.2.2.length = sumN (fun i => if i = J then at4 (T i) j + (if (j : Int) = (k : Int) then 1 else 0) else at4 (T i) j) s.2.2.length := sumN_congr fun i hi => by
      by_cases e : i = J
      · subst e; rw [if_pos rfl, if_pos rfl, bump_at (by omega) hj]
      · rw [if_neg e, if_neg e]
    rw [this, sumN_up hJ]
  o := by
    have f4 := v.f4
    have : sumN (fun i => GX.Fa.dot (if i = J then bump (T J) k else T i) (lossT f (lotD s i))) s.2.2.length = sumN (fun i => if i = J then GX.Fa.dot (T i) (lossT f (lotD s i)) + at4 (cH f) k * ((lotD s J).1 - (f.getD k ((0, 0), 0, 0)).2.2) else GX.Fa.dot (T i) (lossT f (lotD s i))) s.2.2.length := sumN_congr fun i hi => by
      by_cases e : i = J
      · subst e
        rw [if_pos rfl, if_pos rfl, dot_bump (by omega)]
        have : at4 (lossT f (lotD s i)) k = at4 (cH f) k * ((lotD s i).1 - (f.getD k ((0, 0), 0, 0)).2.2) := at4_tup _ (by omega)
        rw [this]
      · rw [if_neg e, if_neg e]
    rw [this, sumN_up hJ, ← h.o]

theorem gr_done {s : Store} {f : List Spring} (v : VOK s f) {room : List Int} {other : Int} {T : Nat → FansT} (h : GrT s f (wantF f) room other T) : tval (Fa.ltR s f (cH f)) (wantF f) ≤ other := by
  have hw : F5 (wantF f) := v.want4
  have hlen : (Fa.ltR s f (cH f)).length = s.2.2.length := by simp [Fa.ltR, lotsR]
  have hle : ∀ i, i < s.2.2.length → ∀ j, j < 4 → at4 (T i) j ≤ at4 (wantF f) j := fun i hi j hj => by
    have key : ∀ (g : Nat → Int) (n : Nat), (∀ i, i < n → 0 ≤ g i) → ∀ i, i < n → g i ≤ sumN g n := by
      intro g n
      induction n with
      | zero => intro _ i hi; omega
      | succ n ih =>
        intro h0 i hi
        have h1 := ih (fun i hi => h0 i (by omega))
        rw [sumN_succ]
        by_cases e : i = n
        · subst e
          have : 0 ≤ sumN g i := by
            have pos : ∀ m, m ≤ i → 0 ≤ sumN g m := by
              intro m
              induction m with
              | zero => intro _; exact Int.le_refl _
              | succ m ihm => intro hm; rw [sumN_succ]; have := ihm (by omega); have := h0 m (by omega); omega
            exact pos i (Nat.le_refl _)
          omega
        · have h2 := h1 i (by omega)
          have h3 := h0 n (by omega)
          omega
    rw [← h.a j hj]
    exact key (fun i => at4 (T i) j) _ (fun i hi => h.p i hi j hj) i hi
  have h5 : ∀ i, i < s.2.2.length → F5 (T i) := fun i hi => F5_mk fun j hj => by
    have h1 := hle i hi j hj
    have h2 := F5_at hw hj
    exact ⟨h.p i hi j hj, by omega⟩
  have hget : ∀ i, i < s.2.2.length → ((List.range s.2.2.length).map T).getD i NO4 = T i := fun i hi => by
    rw [List.getD_eq_getElem?_getD, List.getElem?_map, List.getElem?_range hi]; rfl
  have hc := fun i (hi : i < s.2.2.length) => lot_cost v hi (h5 i hi) (h.z i hi) (h.w i hi) (by have := h.r i hi; omega)
  obtain ⟨_, g2⟩ := pack_ge (v.ltR v.cH) (ss := (List.range s.2.2.length).map T) hw (by rw [hlen]; simp) (fun t ht => by
    obtain ⟨i, hi, rfl⟩ := List.mem_map.1 ht
    exact h5 i (List.mem_range.1 hi)) (fun i hi => by
    rw [hget i (by omega)]; exact (hc i (by omega)).1) (fun j hj => by
    rw [sumAt_sum, ← h.a j hj]
    have e : ((List.range s.2.2.length).map T).length = s.2.2.length := by simp
    rw [e]
    exact sumN_congr fun i hi => by rw [hget i hi])
  rw [packLoss_sum (by rw [hlen]; simp), hlen] at g2
  rw [h.o]
  refine Int.le_trans g2 (Int.le_of_eq (sumN_congr fun i hi => ?_))
  rw [hget i hi]
  exact (hc i hi).2
end Go.Proofs.Fa
namespace Go.Proofs.Fa
open Go Go.GX Go.Proofs

def f11_ct : Ct := ⟨arg2 k65 k61, .unit, .bool, f13_wp, false, false⟩
def f11_an : Nat → Items
  | 0 => [.t 20 k3, .row 19 5001 false 22 k22]
  | 2 => [.t 25 k3, .t 23 k3]
  | 4 => [.t 27 k3, .t 26 k3]
  | 6 => [.t 30 k3, .t 24 k3]
  | 8 => [.t 31 k3, .t 24 k3]
  | 10 => [.t 34 k3, .row 32 5003 false 3 k3]
  | 12 => [.t 35 k3, .t 33 k3, .lrow 5003 false 3 k3]
  | 14 => [.t 36 k3, .t 33 k3, .lrow 5003 false 3 k3]
  | 16 => [.t 38 k3, .t 33 k3, .t 37 .bool, .lrow 5003 false 3 k3]
  | 1000005 => [.t 75 .bool]
  | 1000010 => [.t 116 .bool]
  | 1000018 => [.t 150 .bool]
  | 2000032 => [.t 29 k3]
  | 1000043 => [.t 270 .bool]
  | 1000058 => [.t 310 .bool]
  | 1000061 => [.t 345 .bool]
  | _ => []
end Go.Proofs.Fa
set_option linter.unusedVariables false
set_option maxRecDepth 100000
namespace Go.Proofs.Fa
open Go Go.GX Go.Proofs

def V11 (x : List Int × Int × List (Int × Int) × List FansT) (t : List Int) (Q : Bool → Prop) : Prop := f43_wp (x.1, x.2.1, x.2.2.1, x.2.2.2) () fun (r : (List Int × Int × List (Int × Int)) × List Spring × Unit) ↦ f44_wp (r.1.1, r.1.2.1, r.1.2.2) () fun (r_1 : List Int × Int × List (Int × Int)) ↦ f45_wp r.2.1 () fun (r_2 : List Spring) ↦ f21_wp ((r_1.1, r_1.2.1, r_1.2.2), r_2, ()) () fun (r_3 : List (List Int) × Int × Unit) ↦ f44_wp (r.1.1, r.1.2.1, r.1.2.2) () fun (r_4 : List Int × Int × List (Int × Int)) ↦ f45_wp r.2.1 () fun (r_5 : List Spring) ↦ f29_wp ((r_4.1, r_4.2.1, r_4.2.2), r_5, ()) () fun (r_6 : List (List Int) × Int × Unit) ↦ f44_wp (r.1.1, r.1.2.1, r.1.2.2) () fun (r_7 : List Int × Int × List (Int × Int)) ↦ f45_wp r.2.1 () fun (r_8 : List Spring) ↦ f39_wp ((r_7.1, r_7.2.1, r_7.2.2), r_8, ()) () fun (r_9 : Int × Int × Int × Unit) ↦ ∃ (I : Bool → Prop), cnd (r_3.2.1 != (0 : Int)) (I true) (I (r_6.2.1 != (0 : Int))) ∧ ∀ (x : Bool), I x → cnd x (cnd (r_9.2.2.1 == (9 : Int)) (cnd (r_9.1 == (0 : Int)) (cnd (r_9.2.1 == (0 : Int)) (f17_wp () () fun (r : Bool) ↦ Q r) (Q false)) (Q false)) (Q false)) (f46_wp (r.2.1, ([] : List Int), ()) () fun (r_10 : List Int) ↦ f47_wp ((r.1.1, r.1.2.1, r.1.2.2), r.2.1, r_10, r_3.1, false, ()) () fun (r_11 : List Int × Bool × Unit) ↦ f47_wp ((r.1.1, r.1.2.1, r.1.2.2), r.2.1, r_10, r_6.1, true, ()) () fun (r_12 : List Int × Bool × Unit) ↦ ∃ (I : Bool → Prop), cnd (r_9.2.2.1 != (0 : Int)) (I true) (cnd (!r_11.2.1) (I true) (I !r_12.2.1)) ∧ ∀ (x : Bool), I x → cnd x (Q false) (∃ (I : Int → List (List Int) → Prop), ∃ (μ : Int → List (List Int) → Nat), I (0 : Int) ([] : List (List Int)) ∧ ∀ (x : Int) (x_1 : List (List Int)), I x x_1 → List.length r_3.1 ≤ (9223372036854775807 : Nat) → cnd (decide (x < (↑(List.length r_3.1) : Int))) ((0 : Int) ≤ x ∧ x < (↑(List.length r_3.1) : Int) ∧ (List.length ([] : List Int) + List.length (List.getD r_3.1 (Int.toNat x) ([] : List Int))) * (8 : Nat) ≤ (140737488355328 : Nat) ∧ (List.length x_1 + List.length ((([] : List Int) ++ List.getD r_3.1 (Int.toNat x) ([] : List Int)) :: ([] : List (List Int)))) * (24 : Nat) ≤ (140737488355328 : Nat) ∧ I (IntKind.wrap IntKind.i64 (x + (1 : Int))) (x_1 ++ (([] : List Int) ++ List.getD r_3.1 (Int.toNat x) ([] : List Int)) :: ([] : List (List Int))) ∧ μ (IntKind.wrap IntKind.i64 (x + (1 : Int))) (x_1 ++ (([] : List Int) ++ List.getD r_3.1 (Int.toNat x) ([] : List Int)) :: ([] : List (List Int))) < μ x x_1) (f44_wp (r.1.1, r.1.2.1, r.1.2.2) () fun (r_13 : List Int × Int × List (Int × Int)) ↦ f45_wp r.2.1 () fun (r_14 : List Spring) ↦ f36_wp ((r_13.1, r_13.2.1, r_13.2.2), r_14, x_1, ()) () fun (r_15 : List Int × Int × Unit) ↦ ∃ (I : Bool → Prop), cnd (r_15.2.1 != (0 : Int)) (I true) (List.length r_15.1 ≤ (9223372036854775807 : Nat) → List.length r_3.1 ≤ (9223372036854775807 : Nat) → I ((↑(List.length r_15.1) : Int) != (↑(List.length r_3.1) : Int))) ∧ ∀ (x : Bool), I x → cnd x (Q false) (∃ (I : Int → Int → Prop), ∃ (μ : Int → Int → Nat), I (0 : Int) (0 : Int) ∧ ∀ (x x_2 : Int), I x x_2 → List.length r_3.1 ≤ (9223372036854775807 : Nat) → cnd (decide (x < (↑(List.length r_3.1) : Int))) (∃ (I_1 : Int → Int → Prop), ∃ (μ_1 : Int → Int → Nat), I_1 (0 : Int) (0 : Int) ∧ ∀ (x_3 x_4 : Int), I_1 x_3 x_4 → (0 : Int) ≤ x ∧ x < (↑(List.length r_3.1) : Int) ∧ (List.length (List.getD r_3.1 (Int.toNat x) ([] : List Int)) ≤ (9223372036854775807 : Nat) → cnd (decide (x_3 < (↑(List.length (List.getD r_3.1 (Int.toNat x) ([] : List Int))) : Int))) ((0 : Int) ≤ x ∧ x < (↑(List.length r_3.1) : Int) ∧ (0 : Int) ≤ x_3 ∧ x_3 < (↑(List.length (List.getD r_3.1 (Int.toNat x) ([] : List Int))) : Int) ∧ (0 : Int) ≤ List.getD (List.getD r_3.1 (Int.toNat x) ([] : List Int)) (Int.toNat x_3) (0 : Int) ∧ List.getD (List.getD r_3.1 (Int.toNat x) ([] : List Int)) (Int.toNat x_3) (0 : Int) < (↑(List.length r_10) : Int) ∧ I_1 (IntKind.wrap IntKind.i64 (x_3 + (1 : Int))) (IntKind.wrap IntKind.i64 (x_4 + List.getD r_10 (Int.toNat (List.getD (List.getD r_3.1 (Int.toNat x) ([] : List Int)) (Int.toNat x_3) (0 : Int))) (0 : Int))) ∧ μ_1 (IntKind.wrap IntKind.i64 (x_3 + (1 : Int))) (IntKind.wrap IntKind.i64 (x_4 + List.getD r_10 (Int.toNat (List.getD (List.getD r_3.1 (Int.toNat x) ([] : List Int)) (Int.toNat x_3) (0 : Int))) (0 : Int))) < μ_1 x_3 x_4) ((0 : Int) ≤ x ∧ x < (↑(List.length r_3.1) : Int) ∧ (0 : Int) ≤ x ∧ x < (↑(List.length r.1.1) : Int) ∧ (0 : Int) ≤ x ∧ x < (↑(List.length r_3.1) : Int) ∧ (List.length (List.getD r_3.1 (Int.toNat x) ([] : List Int)) ≤ (9223372036854775807 : Nat) → ∃ (I_2 : Int → Prop), cnd (decide ((↑(List.length (List.getD r_3.1 (Int.toNat x) ([] : List Int))) : Int) > (0 : Int))) (I_2 (mxI (0 : Int) (IntKind.wrap IntKind.i64 (IntKind.wrap IntKind.i64 (IntKind.wrap IntKind.i64 (List.getD r.1.1 (Int.toNat x) (0 : Int) - x_4) - IntKind.wrap IntKind.i64 (mxI (0 : Int) (IntKind.wrap IntKind.i64 ((↑(List.length (List.getD r_3.1 (Int.toNat x) ([] : List Int))) : Int) - (1 : Int))) * r.1.2.1)) - r.1.2.1)))) (I_2 (IntKind.wrap IntKind.i64 (IntKind.wrap IntKind.i64 (List.getD r.1.1 (Int.toNat x) (0 : Int) - x_4) - IntKind.wrap IntKind.i64 (mxI (0 : Int) (IntKind.wrap IntKind.i64 ((↑(List.length (List.getD r_3.1 (Int.toNat x) ([] : List Int))) : Int) - (1 : Int))) * r.1.2.1)))) ∧ ∀ (x_5 : Int), I_2 x_5 → (0 : Int) ≤ x ∧ x < (↑(List.length r_15.1) : Int) ∧ cnd (List.getD r_15.1 (Int.toNat x) (0 : Int) != x_5) (Q false) (I (IntKind.wrap IntKind.i64 (x + (1 : Int))) (IntKind.wrap IntKind.i64 (x_2 + IntKind.wrap IntKind.i64 (mxI (0 : Int) (IntKind.wrap IntKind.i64 ((↑(List.length (List.getD r_3.1 (Int.toNat x) ([] : List Int))) : Int) - (1 : Int))) * r.1.2.1))) ∧ μ (IntKind.wrap IntKind.i64 (x + (1 : Int))) (IntKind.wrap IntKind.i64 (x_2 + IntKind.wrap IntKind.i64 (mxI (0 : Int) (IntKind.wrap IntKind.i64 ((↑(List.length (List.getD r_3.1 (Int.toNat x) ([] : List Int))) : Int) - (1 : Int))) * r.1.2.1))) < μ x x_2))))) (∃ (I : Int → Int → Prop), ∃ (μ : Int → Int → Nat), I (0 : Int) (0 : Int) ∧ ∀ (x x_3 : Int), I x x_3 → List.length r_6.1 ≤ (9223372036854775807 : Nat) → cnd (decide (x < (↑(List.length r_6.1) : Int))) (∃ (I_1 : Int → Int → Prop), ∃ (μ_1 : Int → Int → Nat), I_1 (0 : Int) x_3 ∧ ∀ (x_4 x_5 : Int), I_1 x_4 x_5 → (0 : Int) ≤ x ∧ x < (↑(List.length r_6.1) : Int) ∧ (List.length (List.getD r_6.1 (Int.toNat x) ([] : List Int)) ≤ (9223372036854775807 : Nat) → cnd (decide (x_4 < (↑(List.length (List.getD r_6.1 (Int.toNat x) ([] : List Int))) : Int))) ((0 : Int) ≤ x ∧ x < (↑(List.length r_6.1) : Int) ∧ (0 : Int) ≤ x_4 ∧ x_4 < (↑(List.length (List.getD r_6.1 (Int.toNat x) ([] : List Int))) : Int) ∧ (0 : Int) ≤ List.getD (List.getD r_6.1 (Int.toNat x) ([] : List Int)) (Int.toNat x_4) (0 : Int) ∧ List.getD (List.getD r_6.1 (Int.toNat x) ([] : List Int)) (Int.toNat x_4) (0 : Int) < (↑(List.length r_10) : Int) ∧ (0 : Int) ≤ x ∧ x < (↑(List.length r.1.2.2) : Int) ∧ (0 : Int) ≤ x ∧ x < (↑(List.length r_6.1) : Int) ∧ (0 : Int) ≤ x_4 ∧ x_4 < (↑(List.length (List.getD r_6.1 (Int.toNat x) ([] : List Int))) : Int) ∧ (0 : Int) ≤ List.getD (List.getD r_6.1 (Int.toNat x) ([] : List Int)) (Int.toNat x_4) (0 : Int) ∧ List.getD (List.getD r_6.1 (Int.toNat x) ([] : List Int)) (Int.toNat x_4) (0 : Int) < (↑(List.length r.2.1) : Int) ∧ I_1 (IntKind.wrap IntKind.i64 (x_4 + (1 : Int))) (IntKind.wrap IntKind.i64 (x_5 + IntKind.wrap IntKind.i64 (List.getD r_10 (Int.toNat (List.getD (List.getD r_6.1 (Int.toNat x) ([] : List Int)) (Int.toNat x_4) (0 : Int))) (0 : Int) * IntKind.wrap IntKind.i64 (Prod.fst (List.getD r.1.2.2 (Int.toNat x) ((0 : Int), (0 : Int))) - Prod.snd (Prod.snd (List.getD r.2.1 (Int.toNat (List.getD (List.getD r_6.1 (Int.toNat x) ([] : List Int)) (Int.toNat x_4) (0 : Int))) (((0 : Int), (0 : Int)), (0 : Int), (0 : Int)))))))) ∧ μ_1 (IntKind.wrap IntKind.i64 (x_4 + (1 : Int))) (IntKind.wrap IntKind.i64 (x_5 + IntKind.wrap IntKind.i64 (List.getD r_10 (Int.toNat (List.getD (List.getD r_6.1 (Int.toNat x) ([] : List Int)) (Int.toNat x_4) (0 : Int))) (0 : Int) * IntKind.wrap IntKind.i64 (Prod.fst (List.getD r.1.2.2 (Int.toNat x) ((0 : Int), (0 : Int))) - Prod.snd (Prod.snd (List.getD r.2.1 (Int.toNat (List.getD (List.getD r_6.1 (Int.toNat x) ([] : List Int)) (Int.toNat x_4) (0 : Int))) (((0 : Int), (0 : Int)), (0 : Int), (0 : Int)))))))) < μ_1 x_4 x_5) (I (IntKind.wrap IntKind.i64 (x + (1 : Int))) x_5 ∧ μ (IntKind.wrap IntKind.i64 (x + (1 : Int))) x_5 < μ x x_3))) (∃ (I : Bool → Prop), cnd (decide (x_2 < r_9.1)) (I true) (I (x_3 != r_9.2.1)) ∧ ∀ (x : Bool), I x → cnd x (Q false) (∃ (I : Int → List Int → Prop), ∃ (μ : Int → List Int → Nat), I (0 : Int) ([] : List Int) ∧ ∀ (x : Int) (x_4 : List Int), I x x_4 → List.length r.1.2.2 ≤ (9223372036854775807 : Nat) → cnd (decide (x < (↑(List.length r.1.2.2) : Int))) ((0 : Int) ≤ x ∧ x < (↑(List.length r.1.2.2) : Int) ∧ (List.length x_4 + List.length (Prod.snd (List.getD r.1.2.2 (Int.toNat x) ((0 : Int), (0 : Int))) :: ([] : List Int))) * (8 : Nat) ≤ (140737488355328 : Nat) ∧ I (IntKind.wrap IntKind.i64 (x + (1 : Int))) (x_4 ++ Prod.snd (List.getD r.1.2.2 (Int.toNat x) ((0 : Int), (0 : Int))) :: ([] : List Int)) ∧ μ (IntKind.wrap IntKind.i64 (x + (1 : Int))) (x_4 ++ Prod.snd (List.getD r.1.2.2 (Int.toNat x) ((0 : Int), (0 : Int))) :: ([] : List Int)) < μ x x_4) (∃ (I : Int → Int → List Int → Prop), ∃ (μ : Int → Int → List Int → Nat), I (0 : Int) (0 : Int) x_4 ∧ ∀ (x x_5 : Int) (x_6 : List Int), I x x_5 x_6 → List.length r.2.1 ≤ (9223372036854775807 : Nat) → cnd (decide (x < (↑(List.length r.2.1) : Int))) (∃ (I_1 : Int → Int → List Int → Prop), ∃ (μ_1 : Int → Int → List Int → Nat), I_1 (0 : Int) x_5 x_6 ∧ ∀ (x_7 x_8 : Int) (x_9 : List Int), I_1 x_7 x_8 x_9 → (0 : Int) ≤ x ∧ x < (↑(List.length r.2.1) : Int) ∧ cnd (decide (x_7 < Prod.fst (Prod.snd (List.getD r.2.1 (Int.toNat x) (((0 : Int), (0 : Int)), (0 : Int), (0 : Int)))))) (∃ (I : Int → Int → Bool → List Int → Prop), ∃ (μ : Int → Int → Bool → List Int → Nat), I (0 : Int) x_8 false x_9 ∧ ∀ (x_10 x_11 : Int) (x_12 : Bool) (x_13 : List Int), I x_10 x_11 x_12 x_13 → ∃ (I_2 : Bool → Prop), (List.length x_13 ≤ (9223372036854775807 : Nat) → cnd (decide (x_10 < (↑(List.length x_13) : Int))) (I_2 !x_12) (I_2 false)) ∧ ∀ (x_14 : Bool), I_2 x_14 → cnd x_14 (f48_wp (t, IntKind.wrap IntKind.i64 (x + x_7), ()) () fun (r_16 : Int) ↦ List.length x_13 ≤ (9223372036854775807 : Nat) → (↑(List.length x_13) : Int) ≠ (0 : Int) ∧ ∃ (I_3 : Bool → Prop), ((0 : Int) ≤ Int.tmod (IntKind.wrap IntKind.i64 (x_10 + r_16)) (↑(List.length x_13) : Int) ∧ Int.tmod (IntKind.wrap IntKind.i64 (x_10 + r_16)) (↑(List.length x_13) : Int) < (↑(List.length x_13) : Int) ∧ (0 : Int) ≤ x ∧ x < (↑(List.length r_10) : Int) ∧ cnd (decide (List.getD x_13 (Int.toNat (Int.tmod (IntKind.wrap IntKind.i64 (x_10 + r_16)) (↑(List.length x_13) : Int))) (0 : Int) ≥ List.getD r_10 (Int.toNat x) (0 : Int))) ((0 : Int) ≤ Int.tmod (IntKind.wrap IntKind.i64 (x_10 + r_16)) (↑(List.length x_13) : Int) ∧ Int.tmod (IntKind.wrap IntKind.i64 (x_10 + r_16)) (↑(List.length x_13) : Int) < (↑(List.length r.1.2.2) : Int) ∧ (0 : Int) ≤ x ∧ x < (↑(List.length r.2.1) : Int) ∧ I_3 (decide (Prod.fst (List.getD r.1.2.2 (Int.toNat (Int.tmod (IntKind.wrap IntKind.i64 (x_10 + r_16)) (↑(List.length x_13) : Int))) ((0 : Int), (0 : Int))) ≥ Prod.snd (Prod.snd (List.getD r.2.1 (Int.toNat x) (((0 : Int), (0 : Int)), (0 : Int), (0 : Int))))))) (I_3 false)) ∧ ∀ (x_15 : Bool), I_3 x_15 → cnd x_15 ((0 : Int) ≤ Int.tmod (IntKind.wrap IntKind.i64 (x_10 + r_16)) (↑(List.length x_13) : Int) ∧ Int.tmod (IntKind.wrap IntKind.i64 (x_10 + r_16)) (↑(List.length x_13) : Int) < (↑(List.length x_13) : Int) ∧ (0 : Int) ≤ x ∧ x < (↑(List.length r_10) : Int) ∧ (0 : Int) ≤ x ∧ x < (↑(List.length r_10) : Int) ∧ (0 : Int) ≤ Int.tmod (IntKind.wrap IntKind.i64 (x_10 + r_16)) (↑(List.length x_13) : Int) ∧ Int.tmod (IntKind.wrap IntKind.i64 (x_10 + r_16)) (↑(List.length x_13) : Int) < (↑(List.length r.1.2.2) : Int) ∧ (0 : Int) ≤ x ∧ x < (↑(List.length r.2.1) : Int) ∧ (0 : Int) ≤ Int.tmod (IntKind.wrap IntKind.i64 (x_10 + r_16)) (↑(List.length x_13) : Int) ∧ Int.tmod (IntKind.wrap IntKind.i64 (x_10 + r_16)) (↑(List.length x_13) : Int) < (↑(List.length x_13) : Int) ∧ I (IntKind.wrap IntKind.i64 (x_10 + (1 : Int))) (IntKind.wrap IntKind.i64 (x_11 + IntKind.wrap IntKind.i64 (List.getD r_10 (Int.toNat x) (0 : Int) * IntKind.wrap IntKind.i64 (Prod.fst (List.getD r.1.2.2 (Int.toNat (Int.tmod (IntKind.wrap IntKind.i64 (x_10 + r_16)) (↑(List.length x_13) : Int))) ((0 : Int), (0 : Int))) - Prod.snd (Prod.snd (List.getD r.2.1 (Int.toNat x) (((0 : Int), (0 : Int)), (0 : Int), (0 : Int)))))))) true (List.set x_13 (Int.toNat (Int.tmod (IntKind.wrap IntKind.i64 (x_10 + r_16)) (↑(List.length x_13) : Int))) (IntKind.wrap IntKind.i64 (List.getD x_13 (Int.toNat (Int.tmod (IntKind.wrap IntKind.i64 (x_10 + r_16)) (↑(List.length x_13) : Int))) (0 : Int) - List.getD r_10 (Int.toNat x) (0 : Int)))) ∧ μ (IntKind.wrap IntKind.i64 (x_10 + (1 : Int))) (IntKind.wrap IntKind.i64 (x_11 + IntKind.wrap IntKind.i64 (List.getD r_10 (Int.toNat x) (0 : Int) * IntKind.wrap IntKind.i64 (Prod.fst (List.getD r.1.2.2 (Int.toNat (Int.tmod (IntKind.wrap IntKind.i64 (x_10 + r_16)) (↑(List.length x_13) : Int))) ((0 : Int), (0 : Int))) - Prod.snd (Prod.snd (List.getD r.2.1 (Int.toNat x) (((0 : Int), (0 : Int)), (0 : Int), (0 : Int)))))))) true (List.set x_13 (Int.toNat (Int.tmod (IntKind.wrap IntKind.i64 (x_10 + r_16)) (↑(List.length x_13) : Int))) (IntKind.wrap IntKind.i64 (List.getD x_13 (Int.toNat (Int.tmod (IntKind.wrap IntKind.i64 (x_10 + r_16)) (↑(List.length x_13) : Int))) (0 : Int) - List.getD r_10 (Int.toNat x) (0 : Int)))) < μ x_10 x_11 x_12 x_13) (I (IntKind.wrap IntKind.i64 (x_10 + (1 : Int))) x_11 x_12 x_13 ∧ μ (IntKind.wrap IntKind.i64 (x_10 + (1 : Int))) x_11 x_12 x_13 < μ x_10 x_11 x_12 x_13)) (cnd (!x_12) (f17_wp () () fun (r : Bool) ↦ Q r) (I_1 (IntKind.wrap IntKind.i64 (x_7 + (1 : Int))) x_11 x_13 ∧ μ_1 (IntKind.wrap IntKind.i64 (x_7 + (1 : Int))) x_11 x_13 < μ_1 x_7 x_8 x_9))) (I (IntKind.wrap IntKind.i64 (x + (1 : Int))) x_8 x_9 ∧ μ (IntKind.wrap IntKind.i64 (x + (1 : Int))) x_8 x_9 < μ x x_5 x_6)) (cnd (decide (x_5 ≥ r_9.2.1)) (f17_wp () () fun (r : Bool) ↦ Q r) (Q false))))))))))
theorem v11 (x : List Int × Int × List (Int × Int) × List FansT) (t : List Int) (Q : Bool → Prop) : V11 x t Q = vcFunc (S0 [(43, f43_ct), (44, f44_ct), (45, f45_ct), (21, f21_ct), (29, f29_ct), (39, f39_ct), (46, f46_ct), (47, f47_ct), (36, f36_ct), (48, f48_ct), (17, f17_ct)] []) f11_ct.own f11_ct.fresh f11_an Try.f11 (bodyOf Try.f11) f11_ct.A f11_ct.C f11_ct.R (x, t, ()) () Q := by kernel_rfl

end Go.Proofs.Fa
set_option linter.unusedVariables false
namespace Go.Proofs.Fa
open Go Go.GX Go.Proofs

theorem leaves_val {s : Store} {f : List Spring} (v : VOK s f) (h0 : (resLeaves s f).2 = 0) : 0 ≤ tval (Fa.lvR s (cH f) 0 1) (wantF f) ∧ (resLeaves s f).1 = smR (Fa.lvR s (cH f) 0 1) (tval (Fa.lvR s (cH f) 0 1) (wantF f)) (wantF f) := by
  have hc := check_of v
  have e : resLeaves s f = if (smallR (Fa.lvR s (cH f) 0 1) (wantF f)).2 then ((smallR (Fa.lvR s (cH f) 0 1) (wantF f)).1, 0) else ([], 9) := by
    unfold resLeaves
    rw [if_neg (by simp [hc])]
    exact small_eq v.lva (v.lv1 v.cH) v.want4 (want_supp f)
  rw [e] at h0 ⊢
  by_cases ht : tval (Fa.lvR s (cH f) 0 1) (wantF f) < 0
  · have : smallR (Fa.lvR s (cH f) 0 1) (wantF f) = ([], false) := by unfold smallR; rw [if_pos ht]
    rw [this] at h0; cases h0
  · have : smallR (Fa.lvR s (cH f) 0 1) (wantF f) = (smR (Fa.lvR s (cH f) 0 1) (tval (Fa.lvR s (cH f) 0 1) (wantF f)) (wantF f), true) := by unfold smallR; rw [if_neg ht]
    rw [this]
    exact ⟨by omega, rfl⟩
theorem lots_val {s : Store} {f : List Spring} (v : VOK s f) (h0 : (resLots s f).2 = 0) : 0 ≤ tval (Fa.ltR s f (cH f)) (wantF f) ∧ (resLots s f).1 = smR (Fa.ltR s f (cH f)) (tval (Fa.ltR s f (cH f)) (wantF f)) (wantF f) := by
  have hc := check_of v
  have e : resLots s f = if (smallR (Fa.ltR s f (cH f)) (wantF f)).2 then ((smallR (Fa.ltR s f (cH f)) (wantF f)).1, 0) else ([], 9) := by
    unfold resLots
    rw [if_neg (by simp [hc])]
    exact small_eq (v.lta v.cH) (v.ltR v.cH) v.want4 (want_supp f)
  rw [e] at h0 ⊢
  by_cases ht : tval (Fa.ltR s f (cH f)) (wantF f) < 0
  · have : smallR (Fa.ltR s f (cH f)) (wantF f) = ([], false) := by unfold smallR; rw [if_pos ht]
    rw [this] at h0; cases h0
  · have : smallR (Fa.ltR s f (cH f)) (wantF f) = (smR (Fa.ltR s f (cH f)) (tval (Fa.ltR s f (cH f)) (wantF f)) (wantF f), true) := by unfold smallR; rw [if_neg ht]
    rw [this]
    exact ⟨by omega, rfl⟩

theorem rest_val {s : Store} {f : List Spring} (v : VOK s f) {c : List Int} (hcn : CntOK f c) (hcH : ∀ j, j < f.length → c.getD j 0 = (f.getD j ((0, 0), 0, 0)).1.2) {LL : List (List Int)} (hok : okLists s f c LL false) :
    resRest s f LL = ((List.range LL.length).map fun i => if (LL.getD i []).length > 0 then mxI 0 (s.1.getD i 0 - usedO s.2.1 c false (LL.getD i []) (LL.getD i []).length - s.2.1) else s.1.getD i 0 - usedO s.2.1 c false (LL.getD i []) (LL.getD i []).length, 0) := by
  have hc := check_of v
  obtain ⟨hn, ho⟩ := hok
  have hn : LL.length = s.1.length := hn
  have hH : ∀ s, s ∈ f → 0 ≤ s.1.2 ∧ s.1.2 ≤ 40 := fun x hx => by have := v.sp x hx; omega
  unfold resRest
  rw [if_neg (by simp [hc])]
  unfold restF
  rw [if_neg]
  · have hone : ∀ i, i < LL.length → restOne f s.2.1 (s.1.getD i 0) (LL.getD i []) = some (if (LL.getD i []).length > 0 then mxI 0 (s.1.getD i 0 - usedO s.2.1 c false (LL.getD i []) (LL.getD i []).length - s.2.1) else s.1.getD i 0 - usedO s.2.1 c false (LL.getD i []) (LL.getD i []).length) := fun i hi => by
      obtain ⟨o1, o2⟩ := ho i hi
      have o2 : usedO s.2.1 c false (LL.getD i []) (LL.getD i []).length ≤ s.1.getD i 0 := o2
      have hl := v.lv _ (getD_mem (d := 0) (show i < s.1.length by omega))
      have et := tot_used (seam := s.2.1) hcH (L := LL.getD i []) (fun k hk => (o1 k hk).1) _ (Nat.le_refl _)
      rw [List.take_length] at et
      have hg := restGo_tot hH v.sm (LL.getD i []) true (s.1.getD i 0) (by omega)
      rw [et, if_neg (by omega)] at hg
      unfold restOne
      rw [hg]; rfl
    have := restAll_of (seam := s.2.1) hn _ hone LL.length (Nat.le_refl _)
    rw [List.take_length, List.take_of_length_le (by omega)] at this
    rw [this]
  · rintro (q | q)
    · exact q hn
    · obtain ⟨l, hl, hb⟩ := List.any_eq_true.1 q
      obtain ⟨i, hi, rfl⟩ := List.mem_iff_getElem.1 hl
      obtain ⟨o1, _⟩ := ho i hi
      rw [getD_lt hi] at o1
      unfold noneF at hb
      have e1 : (LL[i]).all (inB 0 ((f.length : Int) - 1)) = true := by
        rw [List.all_eq_true]
        intro y hy
        obtain ⟨k, hk, rfl⟩ := List.mem_iff_getElem.1 hy
        have := (o1 k hk).1
        rw [getD_lt hk] at this
        rw [inB_iff]; omega
      have e2 : sortedB LL[i] = true := (sortedB_iff _).2 fun j hj => (o1 (j + 1) hj).2.1 (by omega)
      rw [e1, e2] at hb
      cases hb
theorem usum_b {c : List Int} (hc : ∀ x, x ∈ c → 0 ≤ x ∧ x ≤ 40) : ∀ L : List Int, 0 ≤ (L.map fun v => c.getD v.toNat 0).sum ∧ (L.map fun v => c.getD v.toNat 0).sum ≤ (L.length : Int) * 40
  | [] => ⟨Int.le_refl _, Int.le_refl _⟩
  | a :: L => by
    have ih := usum_b hc L
    have hg : 0 ≤ c.getD a.toNat 0 ∧ c.getD a.toNat 0 ≤ 40 := by
      by_cases hl : a.toNat < c.length
      · exact hc _ (getD_mem hl)
      · rw [getD_none (by omega)]; omega
    rw [List.map_cons, List.sum_cons, List.length_cons]
    push_cast
    omega

theorem seam_ge {s : Store} {f : List Spring} (v : VOK s f) (h0 : (resLeaves s f).2 = 0) : tval (Fa.lvR s (cH f) s.2.1 (-s.2.1)) (wantF f) ≤ sumN (fun i => mxI 0 ((((resLeaves s f).1.getD i []).length : Int) - 1) * s.2.1) (resLeaves s f).1.length := by
  have hw : F5 (wantF f) := v.want4
  obtain ⟨t0, e⟩ := leaves_val v h0
  obtain ⟨g1, g2, g3, g4, g5⟩ := smR_cost (v.lv1 v.cH) hw t0
  rw [e]
  generalize smR (Fa.lvR s (cH f) 0 1) (tval (Fa.lvR s (cH f) 0 1) (wantF f)) (wantF f) = LL at g1 g2 g3 g4 g5 ⊢
  have l1 : (Fa.lvR s (cH f) 0 1).length = s.1.length := by simp [Fa.lvR, leavesR]
  have lS : (Fa.lvR s (cH f) s.2.1 (-s.2.1)).length = s.1.length := by simp [Fa.lvR, leavesR]
  rw [l1] at g2 g5
  have hnum : ∀ l, l ∈ LL → F5 (numF l) ∧ sumF (numF l) = (l.length : Nat) := fun l hl => by
    obtain ⟨t, k1, _, rfl⟩ := g3 l hl
    rw [numF_list k1.fok]
    exact ⟨k1, (listF_len k1).symm⟩
  have hget : ∀ i, i < LL.length → (LL.map numF).getD i NO4 = numF (LL.getD i []) := fun i hi => by
    rw [List.getD_eq_getElem?_getD, List.getElem?_map, List.getElem?_eq_getElem hi, getD_lt hi]; rfl
  have hfit : ∀ i, i < s.1.length → GX.Fa.fitsB ((Fa.lvR s (cH f) s.2.1 (-s.2.1)).getD i noB) ((LL.map numF).getD i NO4) = true := fun i hi => by
    have := g5 i hi
    unfold Fa.lvR at this ⊢
    rw [leaves_get hi] at this ⊢
    exact this
  obtain ⟨_, p2⟩ := pack_ge (v.lvS v.cH) (ss := LL.map numF) hw (by rw [lS]; simp [g2]) (fun t ht => by
    obtain ⟨l, hl, rfl⟩ := List.mem_map.1 ht
    exact (hnum l hl).1) (fun i hi => hfit i (by omega)) g4
  rw [packLoss_sum (by rw [lS]; simp [g2]), lS] at p2
  rw [g2]
  refine Int.le_trans p2 (Int.le_of_eq (sumN_congr fun i hi => ?_))
  rw [cost_loss (hfit i hi), hget i (by omega)]
  have e2 : (Fa.lvR s (cH f) s.2.1 (-s.2.1)).getD i noB = (tup4 fun j => at4 (cH f) j + s.2.1, tup4 fun _ => s.2.1, s.1.getD i 0 + s.2.1, -s.2.1) := leaves_get hi
  rw [e2]
  obtain ⟨h5, hs⟩ := hnum _ (getD_mem (d := []) (show i < LL.length by omega))
  show GX.Fa.dot (numF (LL.getD i [])) (tup4 fun _ => s.2.1) + (if GX.Fa.isNo (numF (LL.getD i [])) then 0 else -s.2.1) = mxI 0 (((LL.getD i []).length : Int) - 1) * s.2.1
  rw [dot_const]
  rcases isNo_sum h5 with ⟨q1, q2⟩ | ⟨q1, q2⟩
  · have : ((LL.getD i []).length : Int) = 0 := by omega
    rw [q1, q2, this, if_pos rfl]; simp [mxI]
  · have hm : mxI 0 (((LL.getD i []).length : Int) - 1) = ((LL.getD i []).length : Int) - 1 := by unfold mxI; split <;> omega
    rw [q1, if_neg (by simp), hm, ← hs, Int.sub_mul, Int.one_mul]; omega

theorem lost_eq {s : Store} {f : List Spring} (v : VOK s f) {c : List Int} (hcH : ∀ j, j < f.length → c.getD j 0 = (f.getD j ((0, 0), 0, 0)).1.2) (h0 : (resLots s f).2 = 0) :
    sumN (fun i => (((resLots s f).1.getD i []).map fun n => c.getD n.toNat 0 * ((lotD s i).1 - (f.getD n.toNat ((0, 0), 0, 0)).2.2)).sum) (resLots s f).1.length = tval (Fa.ltR s f (cH f)) (wantF f) := by
  have hw : F5 (wantF f) := v.want4
  have f4 := v.f4
  obtain ⟨t0, e⟩ := lots_val v h0
  obtain ⟨g1, g2, g3, g4, g5⟩ := smR_cost (v.ltR v.cH) hw t0
  have lT : (Fa.ltR s f (cH f)).length = s.2.2.length := by simp [Fa.ltR, lotsR]
  rw [packLoss_sum (by simp [g2])] at g1
  refine Eq.trans ?_ g1
  rw [e]
  generalize smR (Fa.ltR s f (cH f)) (tval (Fa.ltR s f (cH f)) (wantF f)) (wantF f) = MM at g2 g3 g4 g5 ⊢
  rw [lT] at g5 ⊢
  rw [g2, lT]
  refine sumN_congr fun i hi => ?_
  have hget : (MM.map numF).getD i NO4 = numF (MM.getD i []) := by
    rw [List.getD_eq_getElem?_getD, List.getElem?_map, List.getElem?_eq_getElem (show i < MM.length by omega), getD_lt (show i < MM.length by omega)]; rfl
  have hf := g5 i hi
  rw [cost_loss hf, hget]
  rw [hget] at hf
  obtain ⟨t, k1, k2, k3⟩ := g3 _ (getD_mem (d := []) (show i < MM.length by omega))
  rw [k3, numF_list k1.fok] at hf ⊢
  have hsp := ((want_supp f).le k2).1
  have hcn : CntOK f ((List.range f.length).map (cntO f [])) := cnt_ok v (fun y hy => by simp at hy)
  have hoo := lot_list v hcn hi k1 hsp hf
  have eb : (Fa.ltR s f (cH f)).getD i noB = lotR f (cH f) (lotD s i) := lots_get hi
  rw [eb]
  unfold GX.Fa.lossV
  rw [show (lotR f (cH f) (lotD s i)).2.2.2 = 0 from rfl, ite_self, Int.add_zero]
  rw [listF_sum k1 (fun n => c.getD n.toNat 0 * ((lotD s i).1 - (f.getD n.toNat ((0, 0), 0, 0)).2.2)), dot_at]
  have key : ∀ j, j < 4 → at4 t j * (c.getD ((j : Int)).toNat 0 * ((lotD s i).1 - (f.getD ((j : Int)).toNat ((0, 0), 0, 0)).2.2)) = at4 t j * at4 (lotR f (cH f) (lotD s i)).2.1 j := fun j hj => by
    rw [Int.toNat_natCast]
    by_cases h0 : at4 t j = 0
    · rw [h0, Int.zero_mul, Int.zero_mul]
    · have hjn : j < f.length := by
        by_cases h : j < f.length
        · exact h
        · exact absurd (hsp j hj (by omega)) h0
      have hwd : (f.getD j ((0, 0), 0, 0)).2.2 ≤ (lotD s i).1 := by
        have hm : (j : Int) ∈ listF t := by
          have hp := k1.at0 j hj
          simp only [listF, List.mem_append, List.mem_replicate]
          match j, hj with
          | 0, _ => have h0 : ¬ t.1 = 0 := h0; have hp : 0 ≤ t.1 := hp; exact .inl (.inl (.inl ⟨by omega, rfl⟩))
          | 1, _ => have h0 : ¬ t.2.1 = 0 := h0; have hp : 0 ≤ t.2.1 := hp; exact .inl (.inl (.inr ⟨by omega, rfl⟩))
          | 2, _ => have h0 : ¬ t.2.2.1 = 0 := h0; have hp : 0 ≤ t.2.2.1 := hp; exact .inl (.inr ⟨by omega, rfl⟩)
          | 3, _ => have h0 : ¬ t.2.2.2 = 0 := h0; have hp : 0 ≤ t.2.2.2 := hp; exact .inr ⟨by omega, rfl⟩
        obtain ⟨k, hk, hkj⟩ := List.mem_iff_getElem.1 hm
        have := (hoo.1 k hk).2.2 rfl
        rw [getD_lt hk, hkj, Int.toNat_natCast] at this
        exact this
      have e3 : at4 (lotR f (cH f) (lotD s i)).2.1 j = at4 (cH f) j * ((lotD s i).1 - (f.getD j ((0, 0), 0, 0)).2.2) := by
        unfold lotR
        simp only
        rw [at4_tup _ hj, if_pos hjn, if_neg (by omega)]
      rw [e3, hcH j hjn, cH_at hj, if_pos hjn]
  have k0 := key 0 (by omega)
  have k1' := key 1 (by omega)
  have k2' := key 2 (by omega)
  have k3' := key 3 (by omega)
  exact congr (congrArg _ (congr (congrArg _ (congr (congrArg _ k0) k1')) k2')) k3'
end Go.Proofs.Fa
set_option linter.unusedVariables false
namespace Go.Proofs.Fa
open Go Go.GX Go.Proofs

def putN (w : FansT) (k : Nat) (n : Int) : FansT := tup4 fun i => if i < k then at4 w i else if i = k then n else 0
theorem putN_at (w : FansT) (k : Nat) (n : Int) {i : Nat} (hi : i < 4) : at4 (putN w k n) i = if i < k then at4 w i else if i = k then n else 0 := at4_tup _ hi
theorem putN_up {w : FansT} {k : Nat} {n : Int} (hk : k < 4) : bump (putN w k n) k = putN w k (n + 1) := fan_ext fun i hi => by
  rw [bump_at (by omega) hi, putN_at _ _ _ hi, putN_at _ _ _ hi]
  by_cases h1 : i < k
  · rw [if_pos h1, if_pos h1, if_neg (by omega)]; omega
  · by_cases h2 : i = k
    · rw [if_neg h1, if_neg h1, if_pos h2, if_pos h2, if_pos (by omega)]
    · rw [if_neg h1, if_neg h1, if_neg h2, if_neg h2, if_neg (by omega)]; omega
theorem putN_next {w : FansT} {k : Nat} : putN w k (at4 w k) = putN w (k + 1) 0 := fan_ext fun i hi => by
  rw [putN_at _ _ _ hi, putN_at _ _ _ hi]
  by_cases h1 : i < k
  · rw [if_pos h1, if_pos (by omega)]
  · by_cases h2 : i = k
    · subst h2; rw [if_neg h1, if_pos rfl, if_pos (by omega)]
    · rw [if_neg h1, if_neg h2, if_neg (by omega)]; split <;> rfl
theorem putN_0 (w : FansT) : putN w 0 0 = NO4 := fan_ext fun i hi => by
  rw [putN_at _ _ _ hi, NO4_at hi, if_neg (by omega)]; split <;> rfl
theorem putN_end {f : List Spring} : putN (wantF f) f.length 0 = wantF f := fan_ext fun i hi => by
  rw [putN_at _ _ _ hi]
  by_cases h1 : i < f.length
  · rw [if_pos h1]
  · rw [if_neg h1, want_supp f i hi (by omega)]; split <;> rfl

theorem greedy {s : Store} {f : List Spring} (v : VOK s f) {c : List Int} (hcl : c.length = f.length) (hcH : ∀ j, j < f.length → c.getD j 0 = (f.getD j ((0, 0), 0, 0)).1.2) {t : List Int} (ht : ∀ y, y ∈ t → byteB y) {B : Int} (hB : B = tval (Fa.ltR s f (cH f)) (wantF f)) {P R : Prop} (h : P) :
    ∃ (I : Int → Int → List Int → Prop) (μ : Int → Int → List Int → Nat), I 0 0 (s.2.2.map fun l => l.2) ∧ ∀ x x5 x6, I x x5 x6 → f.length ≤ 9223372036854775807 → cnd (decide (x < (f.length : Int)))
      (∃ (I1 : Int → Int → List Int → Prop) (μ1 : Int → Int → List Int → Nat), I1 0 x5 x6 ∧ ∀ x7 x8 x9, I1 x7 x8 x9 → 0 ≤ x ∧ x < (f.length : Int) ∧ cnd (decide (x7 < (f.getD x.toNat ((0, 0), 0, 0)).2.1))
        (∃ (I : Int → Int → Bool → List Int → Prop) (μ : Int → Int → Bool → List Int → Nat), I 0 x8 false x9 ∧ ∀ x10 x11 x12 x13, I x10 x11 x12 x13 → ∃ I2 : Bool → Prop, (x13.length ≤ 9223372036854775807 → cnd (decide (x10 < (x13.length : Int))) (I2 (!x12)) (I2 false)) ∧ ∀ x14, I2 x14 →
          cnd x14 (f48_wp (t, IntKind.wrap .i64 (x + x7), ()) () fun r => x13.length ≤ 9223372036854775807 → (x13.length : Int) ≠ 0 ∧ ∃ I3 : Bool → Prop, (0 ≤ Int.tmod (IntKind.wrap .i64 (x10 + r)) (x13.length : Int) ∧ Int.tmod (IntKind.wrap .i64 (x10 + r)) (x13.length : Int) < (x13.length : Int) ∧ 0 ≤ x ∧ x < (c.length : Int) ∧
            cnd (decide (x13.getD (Int.tmod (IntKind.wrap .i64 (x10 + r)) (x13.length : Int)).toNat 0 ≥ c.getD x.toNat 0)) (0 ≤ Int.tmod (IntKind.wrap .i64 (x10 + r)) (x13.length : Int) ∧ Int.tmod (IntKind.wrap .i64 (x10 + r)) (x13.length : Int) < (s.2.2.length : Int) ∧ 0 ≤ x ∧ x < (f.length : Int) ∧ I3 (decide ((s.2.2.getD (Int.tmod (IntKind.wrap .i64 (x10 + r)) (x13.length : Int)).toNat (0, 0)).1 ≥ (f.getD x.toNat ((0, 0), 0, 0)).2.2))) (I3 false)) ∧ ∀ x15, I3 x15 →
            cnd x15 (0 ≤ Int.tmod (IntKind.wrap .i64 (x10 + r)) (x13.length : Int) ∧ Int.tmod (IntKind.wrap .i64 (x10 + r)) (x13.length : Int) < (x13.length : Int) ∧ 0 ≤ x ∧ x < (c.length : Int) ∧ 0 ≤ x ∧ x < (c.length : Int) ∧ 0 ≤ Int.tmod (IntKind.wrap .i64 (x10 + r)) (x13.length : Int) ∧ Int.tmod (IntKind.wrap .i64 (x10 + r)) (x13.length : Int) < (s.2.2.length : Int) ∧ 0 ≤ x ∧ x < (f.length : Int) ∧ 0 ≤ Int.tmod (IntKind.wrap .i64 (x10 + r)) (x13.length : Int) ∧ Int.tmod (IntKind.wrap .i64 (x10 + r)) (x13.length : Int) < (x13.length : Int) ∧
              I (IntKind.wrap .i64 (x10 + 1)) (IntKind.wrap .i64 (x11 + IntKind.wrap .i64 (c.getD x.toNat 0 * IntKind.wrap .i64 ((s.2.2.getD (Int.tmod (IntKind.wrap .i64 (x10 + r)) (x13.length : Int)).toNat (0, 0)).1 - (f.getD x.toNat ((0, 0), 0, 0)).2.2)))) true (x13.set (Int.tmod (IntKind.wrap .i64 (x10 + r)) (x13.length : Int)).toNat (IntKind.wrap .i64 (x13.getD (Int.tmod (IntKind.wrap .i64 (x10 + r)) (x13.length : Int)).toNat 0 - c.getD x.toNat 0))) ∧
              μ (IntKind.wrap .i64 (x10 + 1)) (IntKind.wrap .i64 (x11 + IntKind.wrap .i64 (c.getD x.toNat 0 * IntKind.wrap .i64 ((s.2.2.getD (Int.tmod (IntKind.wrap .i64 (x10 + r)) (x13.length : Int)).toNat (0, 0)).1 - (f.getD x.toNat ((0, 0), 0, 0)).2.2)))) true (x13.set (Int.tmod (IntKind.wrap .i64 (x10 + r)) (x13.length : Int)).toNat (IntKind.wrap .i64 (x13.getD (Int.tmod (IntKind.wrap .i64 (x10 + r)) (x13.length : Int)).toNat 0 - c.getD x.toNat 0))) < μ x10 x11 x12 x13)
              (I (IntKind.wrap .i64 (x10 + 1)) x11 x12 x13 ∧ μ (IntKind.wrap .i64 (x10 + 1)) x11 x12 x13 < μ x10 x11 x12 x13))
            (cnd (!x12) P (I1 (IntKind.wrap .i64 (x7 + 1)) x11 x13 ∧ μ1 (IntKind.wrap .i64 (x7 + 1)) x11 x13 < μ1 x7 x8 x9)))
        (I (IntKind.wrap .i64 (x + 1)) x8 x9 ∧ μ (IntKind.wrap .i64 (x + 1)) x8 x9 < μ x x5 x6))
      (cnd (decide (x5 ≥ B)) P R) := by
  have f4 := v.f4
  have n5 := v.n5
  refine ⟨fun x o room => ∃ k : Nat, k ≤ f.length ∧ x = k ∧ (0 ≤ o ∧ o ≤ (k : Int) * 32000) ∧ ∃ T, GrT s f (putN (wantF f) k 0) room o T, fun x _ _ => (f.length - x).toNat, ⟨0, by omega, rfl, by omega, _, by rw [putN_0]; exact gr_zero v⟩, ?_⟩
  rintro x o room ⟨k, hk, rfl, ho, T, hT⟩ _
  refine cnd_iff.2 ⟨fun g1 => ?_, fun g1 => ?_⟩
  rotate_left
  · have g1 : ¬ (k : Int) < f.length := of_decide_eq_false g1
    have hkn : k = f.length := by omega
    subst hkn
    rw [putN_end] at hT
    refine cndD ?_ h
    rw [hB]
    exact gr_done v hT
  have g1 : (k : Int) < f.length := of_decide_eq_true g1
  have hkl : k < f.length := by omega
  have hsp := v.getS hkl
  have hck := hcH k hkl
  have hHk : at4 (cH f) k = (f.getD k ((0, 0), 0, 0)).1.2 := by rw [cH_at (by omega), if_pos hkl]
  have hwk : at4 (wantF f) k = (f.getD k ((0, 0), 0, 0)).2.1 := by rw [want_at (by omega), if_pos hkl]
  refine ⟨fun y o room => ∃ n : Nat, (n : Int) ≤ (f.getD k ((0, 0), 0, 0)).2.1 ∧ y = n ∧ (0 ≤ o ∧ o ≤ (k : Int) * 32000 + n * 8000) ∧ ∃ T, GrT s f (putN (wantF f) k n) room o T, fun y _ _ => ((f.getD k ((0, 0), 0, 0)).2.1 - y).toNat, ⟨0, by omega, rfl, by omega, T, hT⟩, ?_⟩
  rintro y o1 room1 ⟨n, hn, rfl, ho1, T1, hT1⟩
  rw [Int.toNat_natCast]
  refine ⟨by omega, g1, cnd_iff.2 ⟨fun g2 => ?_, fun g2 => ?_⟩⟩
  rotate_left
  · have g2 : ¬ (n : Int) < (f.getD k ((0, 0), 0, 0)).2.1 := of_decide_eq_false g2
    have hnw : (n : Int) = at4 (wantF f) k := by omega
    rw [hnw, putN_next] at hT1
    rw [wrapS (x := (k : Int) + 1) (by omega) (by omega)]
    exact ⟨⟨k + 1, by omega, by omega, by omega, T1, hT1⟩, by dsimp only; omega⟩
  have g2 : (n : Int) < (f.getD k ((0, 0), 0, 0)).2.1 := of_decide_eq_true g2
  refine ⟨fun z o b room => ∃ j : Nat, j ≤ s.2.2.length ∧ z = j ∧ room.length = s.2.2.length ∧ ((b = false ∧ (0 ≤ o ∧ o ≤ (k : Int) * 32000 + n * 8000) ∧ ∃ T, GrT s f (putN (wantF f) k n) room o T) ∨ (b = true ∧ (0 ≤ o ∧ o ≤ (k : Int) * 32000 + (n + 1) * 8000) ∧ ∃ T, GrT s f (putN (wantF f) k ((n : Int) + 1)) room o T)), fun z _ _ _ => (s.2.2.length - z).toNat, ⟨0, by omega, rfl, hT1.n, .inl ⟨rfl, ho1, T1, hT1⟩⟩, ?_⟩
  rintro z o2 b room2 ⟨j, hj, rfl, hlen, hor⟩
  refine ⟨fun q => q = (decide (j < s.2.2.length) && !b), fun _ => cnd_iff.2 ⟨fun g3 => ?_, fun g3 => ?_⟩, ?_⟩
  · have g3 : (j : Int) < room2.length := of_decide_eq_true g3
    show (!b) = _
    rw [decide_eq_true (show j < s.2.2.length by omega), Bool.true_and]
  · have g3 : ¬ (j : Int) < room2.length := of_decide_eq_false g3
    show false = _
    rw [decide_eq_false (show ¬ j < s.2.2.length by omega), Bool.false_and]
  rintro q rfl
  refine cnd_iff.2 ⟨fun g3 => ?_, fun g3 => ?_⟩
  · simp only [Bool.and_eq_true, decide_eq_true_eq, Bool.not_eq_true'] at g3
    obtain ⟨g3, rfl⟩ := g3
    obtain ⟨ho2, T2, hT2⟩ : (0 ≤ o2 ∧ o2 ≤ (k : Int) * 32000 + n * 8000) ∧ ∃ T, GrT s f (putN (wantF f) k n) room2 o2 T := by
      rcases hor with ⟨_, h1⟩ | ⟨h1, _⟩
      · exact h1
      · cases h1
    have ew : IntKind.wrap .i64 ((k : Int) + (n : Int)) = ((k + n : Nat) : Int) := by rw [wrapS (by omega) (by omega)]; omega
    rw [ew]
    refine ⟨⟨by show (0 : Int) ≤ ((k + n : Nat) : Int); omega, by show ((k + n : Nat) : Int) ≤ 1000000000; omega, ht⟩, ?_⟩
    generalize hrr : byteAt (t, ((k + n : Nat) : Int), ()).1 (t, ((k + n : Nat) : Int), ()).2.1.toNat = r
    have hrr : byteAt t (k + n) = r := hrr
    refine fun _ => ⟨by omega, ?_⟩
    have hb := byteAt_b ht (k + n)
    rw [hrr] at hb
    obtain ⟨J, hJ⟩ : ∃ J, J = ((j : Int) + r).toNat % room2.length := ⟨_, rfl⟩
    have hJl : J < room2.length := by rw [hJ]; exact Nat.mod_lt _ (by omega)
    have eJ : Int.tmod (IntKind.wrap .i64 ((j : Int) + r)) (room2.length : Int) = (J : Int) := by
      rw [wrapS (by have := hb.1; omega) (by have := hb.2; omega), Int.tmod_eq_emod_of_nonneg (by have := hb.1; omega), hJ, Int.natCast_emod, Int.toNat_of_nonneg (by have := hb.1; omega)]
    rw [eJ, Int.toNat_natCast]
    have hJs : J < s.2.2.length := by omega
    have hlt := v.lt _ (getD_mem (d := (0, 0)) hJs)
    have hr := hT2.r J hJs
    have hrb : room2.getD J 0 ≤ 200 := by
      have hd0 : 0 ≤ GX.Fa.dot (T2 J) (cH f) := by
        rw [dot_at]
        have h0 := Int.mul_nonneg (hT2.p J hJs 0 (by omega)) (all4_at v.cH (k := 0) (by omega)).1
        have h1 := Int.mul_nonneg (hT2.p J hJs 1 (by omega)) (all4_at v.cH (k := 1) (by omega)).1
        have h2 := Int.mul_nonneg (hT2.p J hJs 2 (by omega)) (all4_at v.cH (k := 2) (by omega)).1
        have h3 := Int.mul_nonneg (hT2.p J hJs 3 (by omega)) (all4_at v.cH (k := 3) (by omega)).1
        omega
      have : (lotD s J).2 ≤ 200 := hlt.2.2
      omega
    refine ⟨fun q => q = decide (room2.getD J 0 ≥ c.getD k 0 ∧ (s.2.2.getD J (0, 0)).1 ≥ (f.getD k ((0, 0), 0, 0)).2.2), ⟨by omega, by omega, by omega, by omega, cnd_iff.2 ⟨fun g4 => ⟨by omega, by omega, by omega, by omega, ?_⟩, fun g4 => ?_⟩⟩, ?_⟩
    · have g4 : room2.getD J 0 ≥ c.getD k 0 := of_decide_eq_true g4
      show decide _ = decide _
      rw [decide_eq_decide]
      exact ⟨fun h => ⟨g4, h⟩, fun h => h.2⟩
    · have g4 : ¬ room2.getD J 0 ≥ c.getD k 0 := of_decide_eq_false g4
      exact (decide_eq_false (fun h => g4 h.1)).symm
    rintro q rfl
    rw [wrapS (x := (j : Int) + 1) (by omega) (by omega)]
    refine cnd_iff.2 ⟨fun g4 => ?_, fun g4 => ⟨⟨j + 1, by omega, by omega, hlen, .inl ⟨rfl, ho2, T2, hT2⟩⟩, by dsimp only; omega⟩⟩
    have g4 : room2.getD J 0 ≥ c.getD k 0 ∧ (s.2.2.getD J (0, 0)).1 ≥ (f.getD k ((0, 0), 0, 0)).2.2 := of_decide_eq_true g4
    have hst := gr_step v hT2 hJs hkl (by rw [hHk, ← hck]; exact g4.1) g4.2
    rw [putN_up (by omega)] at hst
    have d0 : 0 ≤ c.getD k 0 * ((s.2.2.getD J (0, 0)).1 - (f.getD k ((0, 0), 0, 0)).2.2) := Int.mul_nonneg (by omega) (by omega)
    have d1 : c.getD k 0 * ((s.2.2.getD J (0, 0)).1 - (f.getD k ((0, 0), 0, 0)).2.2) ≤ 40 * 200 := Int.mul_le_mul (by omega) (by omega) (by omega) (by omega)
    rw [wrapS (x := (s.2.2.getD J (0, 0)).1 - (f.getD k ((0, 0), 0, 0)).2.2) (by omega) (by omega), wrapS (x := c.getD k 0 * _) (by omega) (by omega), wrapS (x := o2 + _) (by omega) (by omega), wrapS (x := room2.getD J 0 - c.getD k 0) (by omega) (by omega)]
    rw [hHk, ← hck] at hst
    refine ⟨by omega, by omega, by omega, by omega, by omega, by omega, by omega, by omega, by omega, by omega, by omega, by omega, ⟨j + 1, by omega, by omega, by rw [List.length_set]; exact hlen, .inr ⟨rfl, by omega, _, hst⟩⟩, by dsimp only; omega⟩
  · cases b with
    | false => exact cndT h
    | true =>
      obtain ⟨ho2, T2, hT2⟩ : (0 ≤ o2 ∧ o2 ≤ (k : Int) * 32000 + (n + 1) * 8000) ∧ ∃ T, GrT s f (putN (wantF f) k ((n : Int) + 1)) room2 o2 T := by
        rcases hor with ⟨h1, _⟩ | ⟨_, h1⟩
        · cases h1
        · exact h1
      refine cndF ?_
      rw [wrapS (x := (n : Int) + 1) (by omega) (by omega)]
      exact ⟨⟨n + 1, by omega, by omega, by omega, T2, by push_cast; exact hT2⟩, by dsimp only; omega⟩
end Go.Proofs.Fa
set_option linter.unusedVariables false
namespace Go.Proofs.Fa
open Go Go.GX Go.Proofs

theorem sumN_b {g : Nat → Int} {C : Int} : ∀ {n : Nat}, (∀ i, i < n → 0 ≤ g i ∧ g i ≤ C) → 0 ≤ sumN g n ∧ sumN g n ≤ (n : Int) * C
  | 0, _ => ⟨Int.le_refl _, by simp [sumN]⟩
  | n + 1, h => by
    have ih := sumN_b (g := g) (C := C) (n := n) fun i hi => h i (by omega)
    have h1 := h n (by omega)
    rw [sumN_succ]
    push_cast
    rw [Int.add_mul, Int.one_mul]
    omega
theorem p11 {x : Season} {t : List Int} {Q : Bool → Prop} (h : f13_wp (x, t, ()) () Q) : V11 x t Q := by
  obtain ⟨⟨okx, ht, htl⟩, h⟩ := h
  have okx : SeaOK x := okx
  have ht : ∀ y, y ∈ t → byteB y := ht
  have h : Q true := h
  have hsl := seaF_len x
  obtain ⟨f, hf⟩ : ∃ f, f = seaF x := ⟨_, rfl⟩
  obtain ⟨s, hs⟩ : ∃ s, s = seaS x := ⟨_, rfl⟩
  have v : VOK s f := by rw [hs, hf]; exact vok_of (sea_ok x)
  rw [← hf] at hsl
  have hc := check_of v
  have n6 := v.n6
  have n5 := v.n5
  have sm := v.sm
  have f4 := v.f4
  have n1 : s.1.length ≤ 1000 ∧ s.2.2.length ≤ 1000 := ⟨by omega, by omega⟩
  have n2 : f.length ≤ 1000 := by omega
  have hlc := loss_codes v
  have e1 := code_leaves v hc
  have e2 := code_lots v hc
  refine ⟨okx, ?_⟩
  rw [← hf, ← hs]
  refine ⟨n1, n2, n1, n2, n1, n2, fun b => b = !(decide ((resLeaves s f).2 = 0 ∧ (resLots s f).2 = 0)), cnd_iff.2 ⟨fun g => ?_, fun g => ?_⟩, ?_⟩
  · have g : ¬ (resLeaves s f).2 = 0 := by simpa using g
    show true = !(decide ((resLeaves s f).2 = 0 ∧ (resLots s f).2 = 0))
    rw [decide_eq_false (fun h => g h.1)]; rfl
  · have g : (resLeaves s f).2 = 0 := by simpa using g
    show ((resLots s f).2 != 0) = _
    by_cases g2 : (resLots s f).2 = 0
    · rw [decide_eq_true (show _ ∧ _ from ⟨g, g2⟩), g2]; rfl
    · rw [decide_eq_false (fun h => g2 h.2)]; simp [g2]
  rintro b rfl
  refine cnd_iff.2 ⟨fun g => ?_, fun g => ?_⟩
  · have g : ¬((resLeaves s f).2 = 0 ∧ (resLots s f).2 = 0) := fun hh => by rw [decide_eq_true hh] at g; cases g
    rw [if_neg g] at hlc
    show cnd ((resLoss s f).2.2 == 9) (cnd ((resLoss s f).1 == 0) (cnd ((resLoss s f).2.1 == 0) _ _) _) _
    rw [hlc]
    exact cndE rfl (cndE rfl (cndE rfl (known h)))
  have g : (resLeaves s f).2 = 0 ∧ (resLots s f).2 = 0 := by simpa using g
  obtain ⟨z1, z2⟩ := g
  rw [if_pos ⟨z1, z2⟩] at hlc
  have hcn : CntOK f ((List.range f.length).map (cntO f [])) := cnt_ok v (fun y hy => by simp at hy)
  obtain ⟨a1, a2, a3⟩ := cut_leaves v hc hcn z1
  obtain ⟨b1, b2, b3⟩ := cut_lots v hc hcn z2
  have hcH : ∀ j, j < f.length → ((List.range f.length).map (cntO f [])).getD j 0 = (f.getD j ((0, 0), 0, 0)).1.2 := fun j hj => by
    rw [List.getD_eq_getElem?_getD, List.getElem?_map, List.getElem?_range hj]; rfl
  have hrest := rest_val v hcn hcH a1
  have hseam := seam_ge v z1
  have hlost := lost_eq v hcH z2
  obtain ⟨c, hcd⟩ : ∃ c, c = (List.range f.length).map (cntO f []) := ⟨_, rfl⟩
  have hcs : ∀ y, y ∈ f → 0 ≤ y.1.1 ∧ y.1.1 ≤ y.1.2 ∧ y.1.2 ≤ 1000 := fun y hy => by have := v.sp y hy; omega
  rw [← hcd] at hcn hcH hrest hlost a1 b1
  have hcb : ∀ y, y ∈ c → 0 ≤ y ∧ y ≤ 40 := fun y hy => by
    obtain ⟨j, hj, rfl⟩ := List.mem_iff_getElem.1 hy
    have hj' : j < f.length := by rw [← hcn.n]; exact hj
    have h1 := hcH j hj'
    rw [getD_lt hj] at h1
    have h2 := v.getS hj'
    omega
  have hcb' : ∀ y, y ∈ c → 0 ≤ y ∧ y ≤ 1000 := fun y hy => by have := hcb y hy; omega
  have hLn : (resLeaves s f).1.length = s.1.length := a1.1
  have hMn : (resLots s f).1.length = s.2.2.length := b1.1
  refine ⟨⟨hcs, fun y hy => by simp at hy, n2⟩, ?_⟩
  show f47_wp (s, f, (List.range f.length).map (cntO f []), (resLeaves s f).1, false, ()) () _
  rw [← hcd]
  obtain ⟨LL, hLL⟩ : ∃ LL, LL = (resLeaves s f).1 := ⟨_, rfl⟩
  obtain ⟨MM, hMM⟩ : ∃ MM, MM = (resLots s f).1 := ⟨_, rfl⟩
  rw [← hLL] at a1 a3 hrest hseam hLn
  rw [← hMM] at b1 b3 hlost hMn
  refine ⟨⟨⟨n2, hcn.n, hcb', ⟨sm.1, Int.le_trans sm.2 (by decide)⟩, by show (resLeaves s f).1.length ≤ 1000; rw [← hLL]; omega, by rw [← hLL]; exact a3⟩, by rw [← hLL]; exact a1⟩, ⟨⟨n2, hcn.n, hcb', ⟨sm.1, Int.le_trans sm.2 (by decide)⟩, by show (resLots s f).1.length ≤ 1000; rw [← hMM]; omega, by rw [← hMM]; exact b3⟩, by rw [← hMM]; exact b1⟩, fun b => b = false, ?_, ?_⟩
  · show cnd ((resLoss s f).2.2 != 0) (true = false) (cnd (!true) (true = false) ((!true) = false))
    rw [hlc]; rfl
  rintro b rfl
  refine cndF ?_
  have hr1 : (resRest s f LL).2 = 0 := by rw [hrest]
  have hrl : (resRest s f LL).1.length = LL.length := by rw [hrest]; simp
  have hB : (resLoss s f).2.1 = tval (Fa.ltR s f (cH f)) (wantF f) := by rw [hlc]
  have hA : (resLoss s f).1 = tval (Fa.lvR s (cH f) s.2.1 (-s.2.1)) (wantF f) := by rw [hlc]
  have hLLl : ∀ i, i < LL.length → (LL.getD i []).length ≤ 1000 := fun i hi => a3 _ (getD_mem hi)
  have hMMl : ∀ i, i < MM.length → (MM.getD i []).length ≤ 1000 := fun i hi => b3 _ (getD_mem hi)
  show ∃ (I : Int → List (List Int) → Prop) (μ : Int → List (List Int) → Nat), I 0 [] ∧ _
  rw [← hLL, ← hMM]
  refine forUpL (σ := List (List Int)) (n := LL.length) (fun k => LL.take k) rfl (fun k hk I μ hI hw => ?_) ?_
  · have h3 := hLLl k hk
    refine ⟨by omega, by omega, ?_, ?_, ?_⟩
    · show (0 + (LL.getD k []).length) * 8 ≤ _
      omega
    · have : (LL.take k).length ≤ 8 := by rw [List.length_take]; omega
      show ((LL.take k).length + 1) * 24 ≤ _
      omega
    · rw [hw]
      rw [take_snoc hk []] at hI
      exact hI
  rw [List.take_length]
  refine ⟨n1, n2, fun b => b = false, ?_, ?_⟩
  · show cnd ((resRest s f LL).2 != 0) (true = false) (_ → _ → ((((resRest s f LL).1.length : Nat) : Int) != (LL.length : Int)) = false)
    rw [hr1, hrl]
    exact cndN rfl fun _ _ => by simp
  rintro b rfl
  refine cndF ?_

  refine forUpL (σ := Int) (n := LL.length) (fun k => sumN (fun i => mxI 0 (((LL.getD i []).length : Int) - 1) * s.2.1) k) rfl (fun k hk I μ hI hw => ?_) ?_
  · have hL3 := hLLl k hk
    have hlf := v.lv _ (getD_mem (d := 0) (show k < s.1.length by omega))
    obtain ⟨o1, o2⟩ := a1.2 k hk
    obtain ⟨L, hL⟩ : ∃ L, L = LL.getD k [] := ⟨_, rfl⟩
    rw [← hL] at o1 o2 hL3
    have o2 : usedO s.2.1 c false L L.length ≤ s.1.getD k 0 := o2
    refine ⟨fun z u => ∃ m : Nat, m ≤ L.length ∧ z = m ∧ u = ((L.take m).map fun v => c.getD v.toNat 0).sum, fun z _ => (L.length - z).toNat, ⟨0, by omega, rfl, rfl⟩, ?_⟩
    rintro z u ⟨m, hm, rfl, rfl⟩
    have hub := usum_b hcb (L.take m)
    have hlt : (L.take m).length = m := by rw [List.length_take]; omega
    rw [hlt] at hub
    refine ⟨by omega, by omega, ?_⟩
    rw [Int.toNat_natCast, ← hL]
    intro _
    refine cnd_iff.2 ⟨fun g1 => ?_, fun g1 => ?_⟩
    · have g1 : (m : Int) < L.length := of_decide_eq_true g1
      obtain ⟨⟨p1, p2⟩, _⟩ := o1 m (by omega)
      rw [Int.toNat_natCast]
      have hcm := hcb _ (getD_mem (d := 0) (show (L.getD m 0).toNat < c.length by rw [hcn.n]; omega))
      refine ⟨by omega, by omega, by omega, g1, p1, by rw [hcn.n]; exact p2, ⟨m + 1, by omega, ?_, ?_⟩, ?_⟩
      · rw [wrapS (by omega) (by omega)]; omega
      · rw [wrapS (by omega) (by omega), take_snoc (by omega) 0, List.map_append, List.sum_append]; simp
      · show (L.length - IntKind.wrap .i64 ((m : Int) + 1)).toNat < (L.length - (m : Int)).toNat
        rw [wrapS (by omega) (by omega)]; omega
    have g1 : ¬ (m : Int) < L.length := of_decide_eq_false g1
    have hmL : m = L.length := by omega
    subst hmL
    rw [List.take_length] at hub ⊢
    have eu := usedO_sum s.2.1 c false L L.length (Nat.le_refl _)
    rw [List.take_length, if_neg (by simp)] at eu
    obtain ⟨U, hU⟩ : ∃ U, U = (L.map fun v => c.getD v.toNat 0).sum := ⟨_, rfl⟩
    rw [← hU] at hub eu ⊢
    have w1 : IntKind.wrap .i64 ((L.length : Int) - 1) = (L.length : Int) - 1 := wrapS (by omega) (by omega)
    have hmx : mxI 0 ((L.length : Int) - 1) = if L.length = 0 then 0 else (L.length : Int) - 1 := by
      unfold mxI
      by_cases h0 : L.length = 0
      · rw [if_pos h0, if_neg (by omega)]
      · rw [if_neg h0]; split <;> omega
    obtain ⟨bt, hbt⟩ : ∃ bt, bt = mxI 0 ((L.length : Int) - 1) * s.2.1 := ⟨_, rfl⟩
    have hbtb : 0 ≤ bt ∧ bt ≤ 10000 := by
      have a0 : 0 ≤ mxI 0 ((L.length : Int) - 1) ∧ mxI 0 ((L.length : Int) - 1) ≤ 1000 := by rw [hmx]; split <;> omega
      rw [hbt]
      exact ⟨Int.mul_nonneg a0.1 sm.1, Int.le_trans (Int.mul_le_mul a0.2 sm.2 sm.1 (by omega)) (by decide)⟩
    have eu2 : usedO s.2.1 c false L L.length = U + bt := by
      rw [eu, hbt, hmx]
      by_cases h0 : L.length = 0
      · rw [if_pos h0, if_pos h0, Int.zero_mul]
      · rw [if_neg h0, if_neg h0]
    rw [w1, ← hbt, wrapS (x := bt) (by omega) (by omega), wrapS (x := s.1.getD k 0 - U) (by omega) (by omega), wrapS (x := s.1.getD k 0 - U - bt) (by omega) (by omega), wrapS (x := s.1.getD k 0 - U - bt - s.2.1) (by omega) (by omega)]
    have hsb := sumN_b (g := fun i => mxI 0 (((LL.getD i []).length : Int) - 1) * s.2.1) (C := 10000) (n := k) (fun i hi => by
      have h3 := hLLl i (by omega)
      have a0 : 0 ≤ mxI 0 (((LL.getD i []).length : Int) - 1) ∧ mxI 0 (((LL.getD i []).length : Int) - 1) ≤ 1000 := by unfold mxI; split <;> omega
      exact ⟨Int.mul_nonneg a0.1 sm.1, Int.le_trans (Int.mul_le_mul a0.2 sm.2 sm.1 (by omega)) (by decide)⟩)
    refine ⟨by omega, by omega, by omega, show (k : Int) < (s.1.length : Nat) by omega, by omega, by omega, fun _ => ?_⟩
    refine ⟨fun y => y = (resRest s f LL).1.getD k 0, ?_, ?_⟩
    · have er : (resRest s f LL).1.getD k 0 = if L.length > 0 then mxI 0 (s.1.getD k 0 - (U + bt) - s.2.1) else s.1.getD k 0 - (U + bt) := by
        rw [hrest]
        show ((List.range LL.length).map _).getD k 0 = _
        rw [List.getD_eq_getElem?_getD, List.getElem?_map, List.getElem?_range hk]
        show (if (LL.getD k []).length > 0 then _ else _) = _
        rw [← hL, eu2]
      refine cnd_iff.2 ⟨fun g2 => ?_, fun g2 => ?_⟩
      · have g2 : (L.length : Int) > 0 := of_decide_eq_true g2
        show mxI 0 (s.1.getD k 0 - U - bt - s.2.1) = _
        rw [er, if_pos (by omega)]; congr 1; omega
      · have g2 : ¬ (L.length : Int) > 0 := of_decide_eq_false g2
        show s.1.getD k 0 - U - bt = _
        rw [er, if_neg (by omega)]; omega
    rintro y rfl
    refine ⟨by omega, by show (k : Int) < (((resRest s f LL).1.length : Nat) : Int); rw [hrl]; omega, ?_⟩
    show cnd ((resRest s f LL).1.getD k 0 != (resRest s f LL).1.getD k 0) _ _
    refine cndN rfl ?_
    have w5 : IntKind.wrap .i64 (sumN (fun i => mxI 0 (((LL.getD i []).length : Int) - 1) * s.2.1) k + bt) = sumN (fun i => mxI 0 (((LL.getD i []).length : Int) - 1) * s.2.1) k + bt := wrapS (by omega) (by omega)
    rw [hw, w5]
    rw [sumN_succ, ← hL, ← hbt] at hI
    exact hI

  obtain ⟨lo, hlo⟩ : ∃ lo : Nat → Int → Int, lo = fun i n => c.getD n.toNat 0 * ((lotD s i).1 - (f.getD n.toNat ((0, 0), 0, 0)).2.2) := ⟨_, rfl⟩
  have hlob : ∀ i, i < MM.length → ∀ m, m < (MM.getD i []).length → 0 ≤ lo i ((MM.getD i []).getD m 0) ∧ lo i ((MM.getD i []).getD m 0) ≤ 8000 := fun i hi m hm => by
    obtain ⟨⟨p1, p2⟩, _, p3⟩ := (b1.2 i hi).1 m hm
    have p3 := p3 rfl
    have hcm := hcb _ (getD_mem (d := 0) (show ((MM.getD i []).getD m 0).toNat < c.length by rw [hcn.n]; omega))
    have hsp := v.getS (show ((MM.getD i []).getD m 0).toNat < f.length by omega)
    have hlt := v.lt _ (getD_mem (d := (0, 0)) (show i < s.2.2.length by omega))
    rw [hlo]
    exact ⟨Int.mul_nonneg hcm.1 (show 0 ≤ (s.2.2.getD i (0, 0)).1 - _ by omega), Int.le_trans (Int.mul_le_mul hcm.2 (show (s.2.2.getD i (0, 0)).1 - _ ≤ 200 by omega) (show 0 ≤ (s.2.2.getD i (0, 0)).1 - _ by omega) (by omega)) (by decide)⟩
  have hlsum : ∀ i, i < MM.length → ∀ m, m ≤ (MM.getD i []).length → 0 ≤ (((MM.getD i []).take m).map (lo i)).sum ∧ (((MM.getD i []).take m).map (lo i)).sum ≤ (m : Int) * 8000 := fun i hi m => by
    induction m with
    | zero => intro _; simp
    | succ m ih =>
      intro hm
      have h1 := ih (by omega)
      have h2 := hlob i hi m (by omega)
      rw [take_snoc (by omega) 0, List.map_append, List.sum_append]
      simp only [List.map_cons, List.map_nil, List.sum_cons, List.sum_nil]
      push_cast
      omega
  have hsl2 : ∀ k, k ≤ MM.length → 0 ≤ sumN (fun i => ((MM.getD i []).map (lo i)).sum) k ∧ sumN (fun i => ((MM.getD i []).map (lo i)).sum) k ≤ (k : Int) * 8000000 := fun k hk => sumN_b fun i hi => by
    have h1 := hlsum i (by omega) (MM.getD i []).length (Nat.le_refl _)
    have h2 := hMMl i (by omega)
    rw [List.take_length] at h1
    omega
  refine forUpL (σ := Int) (n := MM.length) (fun k => sumN (fun i => ((MM.getD i []).map (lo i)).sum) k) rfl (fun k hk I μ hI hw => ?_) ?_
  · have hM3 := hMMl k hk
    have hsk := hsl2 k (by omega)
    have hls := hlsum k hk
    have hlb := hlob k hk
    have ok := (b1.2 k hk).1
    obtain ⟨L, hL⟩ : ∃ L, L = MM.getD k [] := ⟨_, rfl⟩
    rw [sumN_succ] at hI
    rw [← hL] at hM3 hls hlb ok hI
    refine ⟨fun z u => ∃ m : Nat, m ≤ L.length ∧ z = m ∧ u = sumN (fun i => ((MM.getD i []).map (lo i)).sum) k + ((L.take m).map (lo k)).sum, fun z _ => (L.length - z).toNat, ⟨0, by omega, rfl, by simp⟩, ?_⟩
    rintro z u ⟨m, hm, rfl, rfl⟩
    have hlm := hls m hm
    refine ⟨by omega, by omega, ?_⟩
    rw [Int.toNat_natCast, ← hL]
    intro _
    refine cnd_iff.2 ⟨fun g1 => ?_, fun g1 => ?_⟩
    · have g1 : (m : Int) < L.length := of_decide_eq_true g1
      obtain ⟨⟨p1, p2⟩, _, p3⟩ := ok m (by omega)
      have p3 := p3 rfl
      have hb := hlb m (by omega)
      rw [Int.toNat_natCast]
      have hsp := v.getS (show (L.getD m 0).toNat < f.length by omega)
      have hlt := v.lt _ (getD_mem (d := (0, 0)) (show k < s.2.2.length by omega))
      have e : c.getD (L.getD m 0).toNat 0 * ((s.2.2.getD k (0, 0)).1 - (f.getD (L.getD m 0).toNat ((0, 0), 0, 0)).2.2) = lo k (L.getD m 0) := by rw [hlo]; rfl
      have w1 : IntKind.wrap .i64 ((s.2.2.getD k (0, 0)).1 - (f.getD (L.getD m 0).toNat ((0, 0), 0, 0)).2.2) = (s.2.2.getD k (0, 0)).1 - (f.getD (L.getD m 0).toNat ((0, 0), 0, 0)).2.2 := wrapS (by omega) (by omega)
      have w3 : IntKind.wrap .i64 (sumN (fun i => ((MM.getD i []).map (lo i)).sum) k + ((L.take m).map (lo k)).sum + lo k (L.getD m 0)) = sumN (fun i => ((MM.getD i []).map (lo i)).sum) k + ((L.take m).map (lo k)).sum + lo k (L.getD m 0) := wrapS (by omega) (by omega)
      rw [w1, e, wrapS (x := lo k (L.getD m 0)) (by omega) (by omega), w3, wrapS (x := (m : Int) + 1) (by omega) (by omega)]
      refine ⟨by omega, by omega, by omega, g1, p1, by rw [hcn.n]; exact p2, by omega, show (k : Int) < (s.2.2.length : Nat) by omega, by omega, by omega, by omega, g1, p1, show L.getD m 0 < (f.length : Nat) from p2, ⟨m + 1, by omega, by omega, ?_⟩, by dsimp only; omega⟩
      rw [take_snoc (by omega) 0, List.map_append, List.sum_append]
      simp only [List.map_cons, List.map_nil, List.sum_cons, List.sum_nil]
      omega
    · have g1 : ¬ (m : Int) < L.length := of_decide_eq_false g1
      have hmL : m = L.length := by omega
      subst hmL
      rw [List.take_length, hw]
      exact hI
  refine ⟨fun b => b = false, ?_, ?_⟩
  · show cnd (decide (sumN (fun i => mxI 0 (((LL.getD i []).length : Int) - 1) * s.2.1) LL.length < (resLoss s f).1)) (true = false) ((sumN (fun i => ((MM.getD i []).map (lo i)).sum) MM.length != (resLoss s f).2.1) = false)
    rw [hA, hB, decide_eq_false (by omega)]
    refine cndF ?_
    rw [hlo, hlost]
    simp
  rintro b rfl
  refine cndF ?_
  refine forUpL (σ := List Int) (n := s.2.2.length) (fun k => (s.2.2.take k).map fun l => l.2) rfl (fun k hk I μ hI hw => ?_) ?_
  · rw [hw]
    rw [take_map_succ _ _ hk (0, 0)] at hI
    refine ⟨by omega, show (k : Int) < (s.2.2.length : Nat) by omega, ?_, hI⟩
    have : ((s.2.2.take k).map fun l : Lot => l.2).length ≤ 8 := by rw [List.length_map, List.length_take]; omega
    show (((s.2.2.take k).map fun l : Lot => l.2).length + 1) * 8 ≤ _
    omega
  · rw [List.take_length]
    exact greedy v hcn.n hcH ht hB (known h)
end Go.Proofs.Fa
set_option maxRecDepth 100000
set_option maxHeartbeats 0
namespace Go.Proofs.Fa
open Go Go.GX Go.Proofs
variable [Inhabited BaseD]
theorem ok11 : CallsOK Try.prog (assoc glT) 11 f11_ct :=
  callsOK_mkM [] st_ok mp_ok it_ok mk_ok in_ok (AllOK.cons ok43 (AllOK.cons ok44 (AllOK.cons ok45 (AllOK.cons ok21 (AllOK.cons ok29 (AllOK.cons ok39 (AllOK.cons ok46 (AllOK.cons ok47 (AllOK.cons ok36 (AllOK.cons ok48 (AllOK.cons ok17 AllOK.nil))))))))))) f11_an Try.func11 (by kernel_rfl) (by kernel_rfl) f11_ct fun ⟨x, t, _⟩ _ Q h => (v11 x t Q).mp (p11 h)
end Go.Proofs.Fa
