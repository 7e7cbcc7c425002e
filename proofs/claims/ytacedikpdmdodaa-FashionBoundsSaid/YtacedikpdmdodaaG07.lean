/- Part 7 of the texts behind the proof: FaP1, FaP2, FaM1, FaP3, FaK2, FaV4, FaP4, FaP5, FaP6, FaO1, FaO2, FaC5. -/
import Derived.Test.YtacedikpdmdodaaG06
import Derived.Carry
import Derived.Test.YtacedikpdmdodaaProg
set_option linter.unusedSimpArgs false
set_option linter.unusedVariables false
set_option linter.unusedSectionVars false
set_option linter.unusedVariables false
namespace Go.Proofs.Fa
open Go Go.GX Go.Proofs

theorem p92 {n lo hi : Int} {Q : Bool → Prop} (h : f92_wp n (lo, hi, ()) Q) : V92 n lo hi Q := by
  have h : Q (!inB lo hi n) := h
  refine cnd_iff.2 ⟨fun h1 => ?_, fun h1 => ?_⟩
  · have : (!inB lo hi n) = true := by have := of_decide_eq_true h1; simp [inB]; omega
    rwa [this] at h
  · have : (!inB lo hi n) = decide (n > hi) := by
      have := of_decide_eq_false h1
      have h3 : lo ≤ n := by omega
      by_cases h2 : n > hi
      · simp [inB, h2, h3]; try omega
      · simp [inB, h2, h3]; try omega
    rwa [this] at h
theorem p104 {xs : List Int} {f : Int → (Bool → Prop) → Prop} {Q : Int → Prop} (h : f104_wp (xs, f, ()) () Q) : V104 xs f Q := by
  obtain ⟨p, hs, hq⟩ := h
  intro hl
  exact idx_loop hs hq hl
theorem p93 {xs : List Lot} {f : Lot → (Bool → Prop) → Prop} {Q : Int → Prop} (h : f93_wp (xs, f, ()) () Q) : V93 xs f Q := by
  obtain ⟨p, hs, hq⟩ := h
  intro hl
  exact idx_loop hs hq hl
theorem p94 {xs : List Spring} {f : Spring → (Bool → Prop) → Prop} {Q : Int → Prop} (h : f94_wp (xs, f, ()) () Q) : V94 xs f Q := by
  obtain ⟨p, hs, hq⟩ := h
  intro hl
  exact idx_loop hs hq hl
theorem p101 {xs : List (List Int)} {f : List Int → (Bool → Prop) → Prop} {Q : Int → Prop} (h : f101_wp (xs, f, ()) () Q) : V101 xs f Q := by
  obtain ⟨p, hs, hq⟩ := h
  intro hl
  exact idx_loop hs hq hl
theorem p91 {xs : List Int} {f : Int → (Bool → Prop) → Prop} {Q : Bool → Prop} (h : f91_wp (xs, f, ()) () Q) : V91 xs f Q := by
  obtain ⟨p, hs, hq⟩ := h
  refine ⟨p, hs, ?_⟩
  show Q (decide (idxF p xs ≥ 0))
  rw [idxF_ge]; exact hq
theorem p59 {xs : List Lot} {f : Lot → (Bool → Prop) → Prop} {Q : Bool → Prop} (h : f59_wp (xs, f, ()) () Q) : V59 xs f Q := by
  obtain ⟨p, hs, hq⟩ := h
  refine ⟨p, hs, ?_⟩
  show Q (decide (idxF p xs ≥ 0))
  rw [idxF_ge]; exact hq
theorem p62 {xs : List Spring} {f : Spring → (Bool → Prop) → Prop} {Q : Bool → Prop} (h : f62_wp (xs, f, ()) () Q) : V62 xs f Q := by
  obtain ⟨p, hs, hq⟩ := h
  refine ⟨p, hs, ?_⟩
  show Q (decide (idxF p xs ≥ 0))
  rw [idxF_ge]; exact hq
theorem p85 {xs : List (List Int)} {f : List Int → (Bool → Prop) → Prop} {Q : Bool → Prop} (h : f85_wp (xs, f, ()) () Q) : V85 xs f Q := by
  obtain ⟨p, hs, hq⟩ := h
  refine ⟨p, hs, ?_⟩
  show Q (decide (idxF p xs ≥ 0))
  rw [idxF_ge]; exact hq
theorem any_not {α : Type} (p : α → Bool) (xs : List α) : (!(xs.any fun x => !p x)) = xs.all p := by
  induction xs with
  | nil => rfl
  | cons a r ih => simp only [List.any_cons, List.all_cons, Bool.not_or, Bool.not_not, ih]
theorem p58 {lo hi : Int} {xs : List Int} {Q : Bool → Prop} (h : f58_wp (lo, hi, xs, ()) () Q) : V58 lo hi xs Q := by
  refine ⟨fun n => !inB lo hi n, fun x _ Q h => h, ?_⟩
  have h : Q (xs.all (inB lo hi)) := h
  show Q (!(xs.any fun n => !inB lo hi n))
  rw [any_not]; exact h
theorem all_one (p : Int → Bool) (x : Int) : [x].all p = p x := by simp
theorem all_two (p : Int → Bool) (x y : Int) : [x, y].all p = (p x && p y) := by simp
theorem cnd_and {a b : Bool} {Q : Bool → Prop} (h : Q (a && b)) : cnd a (Q b) (Q false) := by cases a <;> exact h
theorem p61 {l : Lot} {Q : Bool → Prop} (h : f61_wp l () Q) : V61 l Q := by
  show cnd ([l.1].all (inB 1 200)) (Q ([l.2].all (inB 0 200))) (Q false)
  rw [all_one, all_one]; exact cnd_and h
theorem p60 {l : Lot} {Q : Bool → Prop} (h : f60_wp l () Q) : V60 l Q := h
theorem p64 {s : Spring} {Q : Bool → Prop} (h : f64_wp s () Q) : V64 s Q := by
  show cnd ([s.1.1, s.1.2].all (inB 2 40)) (cnd (decide (s.1.1 ≤ s.1.2)) (cnd ([s.2.1].all (inB 0 4)) (Q ([s.2.2].all (inB 1 200))) (Q false)) (Q false)) (Q false)
  rw [all_two, all_one, all_one]
  have h : Q (inB 2 40 s.1.1 && inB 2 40 s.1.2 && decide (s.1.1 ≤ s.1.2) && inB 0 4 s.2.1 && inB 1 200 s.2.2) := h
  revert h
  generalize inB 2 40 s.1.1 = a
  generalize inB 2 40 s.1.2 = b
  generalize decide (s.1.1 ≤ s.1.2) = c
  generalize inB 0 4 s.2.1 = d
  generalize inB 1 200 s.2.2 = e
  intro h
  cases a <;> cases b <;> cases c <;> cases d <;> exact h
theorem p63 {s : Spring} {Q : Bool → Prop} (h : f63_wp s () Q) : V63 s Q := h
theorem p20 {s : Store} {f : List Spring} {Q : Int → Prop} (h : f20_wp (s, f, ()) () Q) : V20 s f Q := by
  have h : Q (checkF s f) := h
  unfold checkF at h
  intro _
  refine cnd_iff.2 ⟨fun h1 => ?_, fun h1 _ => cnd_iff.2 ⟨fun h2 => ?_, fun h2 => ?_⟩⟩
  · have h1 : (s.1.length : Int) > 6 := of_decide_eq_true h1
    rw [if_pos (.inl (by omega))] at h; exact h
  · have h2 : (s.2.2.length : Int) > 5 := of_decide_eq_true h2
    rw [if_pos (.inr (by omega))] at h; exact h
  have h1 : ¬ (s.1.length : Int) > 6 := of_decide_eq_false h1
  have h2 : ¬ (s.2.2.length : Int) > 5 := of_decide_eq_false h2
  rw [if_neg (by omega)] at h
  show cnd (!(s.1.all (inB 1 200))) (Q 2) (cnd (!([s.2.1].all (inB 0 10))) (Q 2) _)
  rw [all_one]
  refine cnd_iff.2 ⟨fun h3 => ?_, fun h3 => cnd_iff.2 ⟨fun h4 => ?_, fun h4 => ?_⟩⟩
  · rw [if_pos (.inl (by simpa using h3))] at h; exact h
  · rw [if_pos (.inr (.inl (by simpa using h4)))] at h; exact h
  have h3 : s.1.all (inB 1 200) = true := by cases hh : s.1.all (inB 1 200) with | true => rfl | false => rw [hh] at h3; cases h3
  have h4 : inB 0 10 s.2.1 = true := by cases hh : inB 0 10 s.2.1 with | true => rfl | false => rw [hh] at h4; cases h4
  refine ⟨fun l => !isLotF l, fun x _ Q h => h, cnd_iff.2 ⟨fun h5 => ?_, fun h5 _ => ?_⟩⟩
  · have h5 : (s.2.2.any fun l => !isLotF l) = true := h5
    rw [if_pos (.inr (.inr (by rw [← any_not, h5]; rfl)))] at h; exact h
  have h5 : (s.2.2.any fun l => !isLotF l) = false := h5
  have h5 : s.2.2.all isLotF = true := by rw [← any_not, h5]; rfl
  rw [if_neg (by rw [h3, h4, h5]; simp)] at h
  show cnd (!([(f.length : Int)].all (inB 1 4))) (Q 4) _
  rw [all_one]
  refine cnd_iff.2 ⟨fun h6 => ?_, fun h6 => ⟨fun l => !isSprF l, fun x _ Q h => h, cnd_iff.2 ⟨fun h7 => ?_, fun h7 => ?_⟩⟩⟩
  · rw [if_pos (by simpa using h6)] at h; exact h
  · have h6 : inB 1 4 (f.length : Int) = true := by simpa using h6
    rw [if_neg (by rw [h6]; simp)] at h
    have h7 : (f.any fun l => !isSprF l) = true := h7
    rw [if_pos (by rw [← any_not, h7]; rfl)] at h; exact h
  · have h6 : inB 1 4 (f.length : Int) = true := by simpa using h6
    rw [if_neg (by rw [h6]; simp)] at h
    have h7 : (f.any fun l => !isSprF l) = false := h7
    rw [if_neg (by rw [← any_not, h7]; simp)] at h; exact h
theorem p78 {n : Int} {Q : Bool → Prop} (h : f78_wp n () Q) : V78 n Q := by
  show Q ([n].all (inB 1 200))
  rw [all_one]; exact h
theorem p79 {xs : List Int} {Q : List Int → Prop} (h : f79_wp xs () Q) : V79 xs Q := by
  obtain ⟨hl, h⟩ := h
  intro b hb
  refine cnd_iff.2 ⟨fun h1 => ?_, fun h1 => ⟨?_, h⟩⟩
  · rw [hb h1] at h; exact h
  · simp only [List.length_nil, Nat.zero_add]; omega
theorem p106 {n : Int} {Q : Bool → Prop} (h : f106_wp n () Q) : V106 n Q := by
  show Q (n != n)
  rw [show (n != n) = false by simp]; exact h
theorem p100 {a b : Int} {Q : Bool → Prop} (h : f100_wp (a, b, ()) () Q) : V100 a b Q := h
theorem p103 {a b : Int} {Q : Int → Prop} (h : f103_wp (a, b, ()) () Q) : V103 a b Q := by
  have h : Q (cmpI3 a b) := h
  unfold cmpI3 at h
  show cnd (decide (a < b)) (Q (-1)) (cnd (decide (a > b)) (Q 1) (Q 0))
  refine cnd_iff.2 ⟨fun h1 => ?_, fun h1 => cnd_iff.2 ⟨fun h2 => ?_, fun h2 => ?_⟩⟩
  · rw [if_pos (of_decide_eq_true h1)] at h; exact h
  · rw [if_neg (of_decide_eq_false h1), if_pos (of_decide_eq_true h2)] at h; exact h
  · rw [if_neg (of_decide_eq_false h1), if_neg (of_decide_eq_false h2)] at h; exact h
theorem cmpL_drop (a b : List Int) : ∀ k, (∀ j, j < k → j < a.length ∧ j < b.length ∧ cmpI3 (a.getD j 0) (b.getD j 0) = 0) → cmpL a b = cmpL (a.drop k) (b.drop k)
  | 0, _ => by simp
  | k + 1, h => by
    rw [cmpL_drop a b k fun j hj => h j (by omega)]
    obtain ⟨h1, h2, h3⟩ := h k (by omega)
    rw [List.drop_eq_getElem_cons h1, List.drop_eq_getElem_cons h2]
    rw [getD_lt h1, getD_lt h2] at h3
    simp only [cmpL, h3, ne_eq, not_true_eq_false, if_false]
theorem p89 {a b : List Int} {Q : Int → Prop} (h : f89_wp (a, b, ()) () Q) : V89 a b Q := by
  have h : Q (cmpL a b) := h
  intro hl
  refine forUpG hl (fun k => ∀ j, j < k → j < a.length ∧ j < b.length ∧ cmpI3 (a.getD j 0) (b.getD j 0) = 0) (fun j hj => absurd hj (Nat.not_lt_zero _)) (fun k hk hg I μ hI hw => ?_) (fun hg => ?_)
  · refine ⟨by omega, by omega, fun hl2 => cnd_iff.2 ⟨fun h1 => ?_, fun h1 => ⟨by omega, ?_, ?_⟩⟩⟩
    · have h1 : (k : Int) ≥ b.length := of_decide_eq_true h1
      have e := cmpL_drop a b k hg
      have eb : b.drop k = [] := List.drop_eq_nil_of_le (by omega)
      rw [List.drop_eq_getElem_cons hk, eb] at e
      rw [e] at h; exact h
    · have h1 : ¬ (k : Int) ≥ b.length := of_decide_eq_false h1; omega
    · have h1 : ¬ (k : Int) ≥ b.length := of_decide_eq_false h1
      have hkb : k < b.length := by omega
      rw [hw]
      show cnd (cmpI3 (a.getD k 0) (b.getD k 0) != 0) (Q (cmpI3 (a.getD k 0) (b.getD k 0))) _
      refine cnd_iff.2 ⟨fun h2 => ?_, fun h2 => hI fun j hj => ?_⟩
      · have h2 : cmpI3 (a.getD k 0) (b.getD k 0) ≠ 0 := by simpa using h2
        have e := cmpL_drop a b k hg
        rw [List.drop_eq_getElem_cons hk, List.drop_eq_getElem_cons hkb] at e
        rw [getD_lt hk, getD_lt hkb] at h2 ⊢
        rw [cmpL, if_pos h2] at e
        rw [e] at h; exact h
      · rcases Nat.lt_succ_iff_lt_or_eq.1 hj with h3 | rfl
        · exact hg j h3
        · exact ⟨hk, hkb, by simpa using h2⟩
  · intro _ hl2
    have e := cmpL_drop a b a.length hg
    rw [List.drop_length] at e
    refine cnd_iff.2 ⟨fun h1 => ?_, fun h1 => ?_⟩
    · have h1 : (a.length : Int) < b.length := of_decide_eq_true h1
      have eb : b.drop a.length = b[a.length]'(by omega) :: b.drop (a.length + 1) := List.drop_eq_getElem_cons (by omega)
      rw [eb] at e
      rw [e] at h; exact h
    · have h1 : ¬ (a.length : Int) < b.length := of_decide_eq_false h1
      have eb : b.drop a.length = [] := List.drop_eq_nil_of_le (by omega)
      rw [eb] at e
      rw [e] at h; exact h
theorem sortedB_iff (xs : List Int) : sortedB xs = true ↔ ∀ j, j + 1 < xs.length → xs.getD j 0 ≤ xs.getD (j + 1) 0 := by
  induction xs with
  | nil => simp [sortedB]
  | cons a r ih =>
    cases r with
    | nil => simp [sortedB]
    | cons b s =>
      simp only [sortedB, Bool.and_eq_true, decide_eq_true_eq] at ih ⊢
      rw [ih]
      constructor
      · rintro ⟨h1, h2⟩ j hj
        cases j with
        | zero => exact h1
        | succ j => exact h2 j (by simpa using hj)
      · intro h
        exact ⟨h 0 (by simp), fun j hj => h (j + 1) (by simpa using hj)⟩
theorem p84 {xs : List Int} {Q : Bool → Prop} (h : f84_wp xs () Q) : V84 xs Q := by
  have h : Q (sortedB xs) := h
  intro hl
  refine ⟨fun x => -1 ≤ x ∧ x ≤ (xs.length : Int) - 1 ∧ ∀ j : Nat, x ≤ j → j + 1 < xs.length → xs.getD j 0 ≤ xs.getD (j + 1) 0, fun x => (x + 1).toNat, ?_, ?_⟩
  · rw [wrapS (by omega) (by omega)]
    exact ⟨by omega, by omega, fun j h1 h2 => absurd h2 (by have h1 : (xs.length : Int) - 1 ≤ j := h1; omega)⟩
  · rintro x ⟨h1, h2, h3⟩
    refine cnd_iff.2 ⟨fun h4 => ?_, fun h4 => ?_⟩
    · have h4 : x > 0 := of_decide_eq_true h4
      obtain ⟨k, rfl⟩ := Int.eq_ofNat_of_zero_le (by omega : 0 ≤ x)
      rw [wrapS (by omega) (by omega)]
      have e1 : ((k : Int) - 1).toNat = k - 1 := by omega
      refine ⟨by omega, by omega, by omega, by omega, _, rfl, ?_⟩
      show cnd (decide (xs.getD k 0 < xs.getD ((k : Int) - 1).toNat 0)) _ _
      rw [e1]
      refine cnd_iff.2 ⟨fun h5 => ?_, fun h5 => ⟨⟨by omega, by omega, fun j g1 g2 => ?_⟩, by show ((k : Int) - 1 + 1).toNat < ((k : Int) + 1).toNat; omega⟩⟩
      · have h5 : xs.getD k 0 < xs.getD (k - 1) 0 := of_decide_eq_true h5
        have : sortedB xs = false := by
          cases hs : sortedB xs with
          | false => rfl
          | true =>
            have := (sortedB_iff xs).1 hs (k - 1) (by omega)
            rw [show k - 1 + 1 = k by omega] at this
            omega
        rwa [this] at h
      · have h5 : ¬ xs.getD k 0 < xs.getD (k - 1) 0 := of_decide_eq_false h5
        by_cases hj : j = k - 1
        · subst hj
          rw [show k - 1 + 1 = k by omega]
          omega
        · exact h3 j (by omega) g2
    · have h4 : ¬ x > 0 := of_decide_eq_false h4
      have : sortedB xs = true := (sortedB_iff xs).2 fun j hj => h3 j (by omega) hj
      rwa [this] at h
theorem and32 {a : Int} (h1 : 0 ≤ a) (h2 : a ≤ 4294967295) : (((BitVec.ofInt (IntKind.bits IntKind.u64) a &&& BitVec.ofInt (IntKind.bits IntKind.u64) (4294967295 : Int)).toNat : Nat) : Int) = a := by
  obtain ⟨k, rfl⟩ := Int.eq_ofNat_of_zero_le h1
  rw [BitVec.toNat_and]
  have e1 : (BitVec.ofInt (IntKind.bits IntKind.u64) (k : Int)).toNat = k := by
    rw [BitVec.ofInt_natCast, BitVec.toNat_ofNat]
    exact Nat.mod_eq_of_lt (by show k < 2 ^ 64; omega)
  have e2 : (BitVec.ofInt (IntKind.bits IntKind.u64) (4294967295 : Int)).toNat = 2 ^ 32 - 1 := by decide
  rw [e1, e2, Nat.and_two_pow_sub_one_eq_mod, Nat.mod_eq_of_lt (by omega)]
theorem wrapU {x : Int} (h1 : 0 ≤ x) (h2 : x ≤ 18446744073709551615) : IntKind.wrap .u64 x = x := by
  have hb : (2 : Int) ^ IntKind.u64.bits = 18446744073709551616 := rfl
  have hs : IntKind.u64.signed = false := rfl
  unfold IntKind.wrap
  simp only [hb, hs, Bool.false_and, Bool.false_eq_true, if_false]
  omega
theorem fdiv32 {a : Int} (h1 : 0 ≤ a) (h2 : a ≤ 4294967295) : Int.fdiv a ((2 : Int) ^ min (Int.toNat (32 : Int)) (IntKind.bits IntKind.u64)) = 0 := by
  have e : (2 : Int) ^ min (Int.toNat (32 : Int)) (IntKind.bits IntKind.u64) = 4294967296 := by decide
  rw [e, Int.fdiv_eq_ediv_of_nonneg _ (by omega)]
  omega
theorem p110 {a b : Int} {Q : Int × Int × Unit → Prop} (h : f110_wp (a, b, ()) () Q) : V110 a b Q := by
  obtain ⟨⟨h1, h2, h3, h4⟩, h⟩ := h
  have h1 : 0 ≤ a := h1
  have h2 : a ≤ 1000 := h2
  have h3 : 0 ≤ b := h3
  have h4 : b ≤ 1000 := h4
  have h : Q (0, a * b, ()) := h
  have hab : 0 ≤ a * b := Int.mul_nonneg h1 h3
  have hab2 : a * b ≤ 1000 * 1000 := Int.mul_le_mul h2 h4 h3 (by omega)
  refine ⟨by decide, by decide, by decide, by decide, by decide, ?_⟩
  have w0 : IntKind.wrap .u64 0 = 0 := wrapU (by omega) (by omega)
  have fd : Int.fdiv (a * b) ((2 : Int) ^ min (Int.toNat (32 : Int)) (IntKind.bits IntKind.u64)) = 0 := fdiv32 hab (by omega)
  have fd0 : Int.fdiv 0 ((2 : Int) ^ min (Int.toNat (32 : Int)) (IntKind.bits IntKind.u64)) = 0 := fdiv32 (by omega) (by omega)
  have an0 : (((BitVec.ofInt (IntKind.bits IntKind.u64) 0 &&& BitVec.ofInt (IntKind.bits IntKind.u64) (4294967295 : Int)).toNat : Nat) : Int) = 0 := and32 (by omega) (by omega)
  simp only [and32 h1 (by omega), and32 h3 (by omega), fdiv32 h1 (by omega), fdiv32 h3 (by omega), wrapU h1 (by omega), wrapU h3 (by omega), wrapU hab (by omega), fd, Int.zero_mul, Int.mul_zero, Int.add_zero, Int.zero_add, w0, fd0, an0]
  exact h
theorem p108 {a b : Int} {Q : Int × Int × Unit → Prop} (h : f108_wp (a, b, ()) () Q) : V108 a b Q := h
theorem rep_step (c : Int) (N k m : Nat) (hk : k ≤ N) (hm : m = min (N - k) k) : (List.replicate k c ++ List.replicate (N - k) 0).take k ++ ((List.replicate k c ++ List.replicate (N - k) 0).take k).take m ++ (List.replicate k c ++ List.replicate (N - k) 0).drop (k + m) = List.replicate (k + m) c ++ List.replicate (N - (k + m)) 0 := by
  have h1 : (List.replicate k c ++ List.replicate (N - k) 0).take k = List.replicate k c := by
    rw [List.take_append_of_le_length (by simp)]; simp
  have h2 : (List.replicate k c).take m = List.replicate m c := by simp; omega
  have h3 : (List.replicate k c ++ List.replicate (N - k) 0).drop (k + m) = List.replicate (N - (k + m)) 0 := by
    rw [List.drop_append, List.length_replicate]
    simp; omega
  rw [h1, h2, h3, List.replicate_append_replicate]
theorem p107 {xs : List Int} {n : Int} {Q : List Int → Prop} (h : f107_wp (xs, n, ()) () Q) : V107 xs n Q := by
  obtain ⟨⟨h1, h2, h3⟩, h⟩ := h
  have h1 : xs.length = 1 := h1
  have h2 : 0 ≤ n := h2
  have h3 : n ≤ 1000 := h3
  have h : Q (List.replicate n.toNat (xs.getD 0 0)) := h
  obtain ⟨c, rfl⟩ : ∃ c, xs = [c] := by
    match xs, h1 with
    | [c], _ => exact ⟨c, rfl⟩
  obtain ⟨N, rfl⟩ := Int.eq_ofNat_of_zero_le h2
  have hN : N ≤ 1000 := by omega
  rw [Int.toNat_natCast] at h
  have h : Q (List.replicate N c) := h
  have hw : IntKind.wrap .u64 (N : Int) = N := wrapU (by omega) (by omega)
  have hw1 : IntKind.wrap .u64 (([c].length : Nat) : Int) = 1 := wrapU (by simp) (by simp)
  refine cnd_iff.2 ⟨fun hc => ?_, fun _ _ => ?_⟩
  · have := of_decide_eq_true hc; omega
  refine ⟨⟨by simp only [hw1]; omega, by simp only [hw1]; omega, by simp only [hw]; omega, by simp only [hw]; omega⟩, ?_⟩
  simp only [hw, hw1, Int.one_mul]
  refine cnd_iff.2 ⟨fun hc => ?_, fun _ => cnd_iff.2 ⟨fun hc => ?_, fun _ => ?_⟩⟩
  · have := of_decide_eq_true hc; omega
  · have := of_decide_eq_true hc; omega
  have hw2 : IntKind.wrap .i64 (N : Int) = N := wrapS (by omega) (by omega)
  simp only [hw2, Int.toNat_natCast]
  refine ⟨trivial, by omega, by omega, ?_⟩
  refine ⟨fun x l => ∃ k : Nat, k ≤ N ∧ (N ≠ 0 → 1 ≤ k) ∧ x = k ∧ l = List.replicate k c ++ List.replicate (N - k) 0, fun x _ => (N - x).toNat, ?_, ?_⟩
  · refine ⟨min N 1, by omega, by omega, ?_, ?_⟩
    · simp
    · cases N with
      | zero => rfl
      | succ N => simp [List.replicate_succ]
  · rintro x l ⟨k, hk, hk1, rfl, rfl⟩ _
    have hl : (List.replicate k c ++ List.replicate (N - k) 0).length = N := by simp; omega
    refine cnd_iff.2 ⟨fun hc => ?_, fun hc => ?_⟩
    · have hc : (k : Int) < _ := of_decide_eq_true hc
      rw [hl] at hc
      have hkN : k < N := by omega
      have hk0 : 1 ≤ k := hk1 (by omega)
      simp only [Int.toNat_natCast, Int.toNat_zero, List.drop_zero, hl]
      have ht : ((List.replicate k c ++ List.replicate (N - k) 0).take k).length = k := by rw [List.length_take, hl]; omega
      rw [ht]
      obtain ⟨m, hm⟩ : ∃ m, m = min (N - k) k := ⟨_, rfl⟩
      rw [← hm, rep_step c N k m hk hm]
      have hwk : IntKind.wrap .i64 ((k : Int) + (m : Nat)) = ((k + m : Nat) : Int) := by rw [wrapS (by omega) (by omega)]; push_cast; rfl
      rw [hwk]
      refine ⟨by omega, by omega, Int.le_refl _, Int.le_refl _, by omega, by omega, ⟨k + m, by omega, by omega, rfl, rfl⟩, by omega⟩
    · have hc : ¬ (k : Int) < _ := of_decide_eq_false hc
      rw [hl] at hc
      have : k = N := by omega
      subst this
      simpa using h
end Go.Proofs.Fa
set_option linter.unusedVariables false
namespace Go.Proofs.Fa
open Go Go.GX Go.Proofs

theorem for4 {σ : Type} (F : Nat → σ) {s0 : σ} (h0 : s0 = F 0) {body : (Int → σ → Prop) → (Int → σ → Nat) → Int → σ → Prop}
    (hb : ∀ k : Nat, k < 4 → ∀ (I : Int → σ → Prop) (μ : Int → σ → Nat), (I (k + 1 : Int) (F (k + 1)) ∧ μ (k + 1 : Int) (F (k + 1)) < μ k (F k)) → IntKind.wrap .i64 ((k : Int) + 1) = k + 1 → body I μ k (F k))
    {e : Int → σ → Prop} (he : e 4 (F 4)) :
    ∃ (I : Int → σ → Prop) (μ : Int → σ → Nat), I 0 s0 ∧ ∀ x s, I x s → cnd (decide (x < 4)) (body I μ x s) (e x s) :=
  forUp (n := 4) (by omega) F h0 hb he
def set4 (t : FansT) (j : Nat) (u : Int) : FansT :=
  (List.getD (List.set [t.1, t.2.1, t.2.2.1, t.2.2.2] j u) 0 u, List.getD (List.set [t.1, t.2.1, t.2.2.1, t.2.2.2] j u) 1 u, List.getD (List.set [t.1, t.2.1, t.2.2.1, t.2.2.2] j u) 2 u, List.getD (List.set [t.1, t.2.1, t.2.2.1, t.2.2.2] j u) 3 u)
def at4L (t : FansT) (j : Nat) : Int := List.getD [t.1, t.2.1, t.2.2.1, t.2.2.2] j t.1
theorem at4_L (t : FansT) : ∀ {k : Nat}, k < 4 → at4L t k = at4 t k
  | 0, _ => rfl
  | 1, _ => rfl
  | 2, _ => rfl
  | 3, _ => rfl
  | k + 4, h => absurd h (by omega)
theorem set4_tup (g : Nat → Int) : ∀ {k : Nat}, k < 4 → set4 (tup4 fun i => if i < k then g i else 0) k (g k) = tup4 fun i => if i < k + 1 then g i else 0
  | 0, _ => rfl
  | 1, _ => rfl
  | 2, _ => rfl
  | 3, _ => rfl
  | k + 4, h => absurd h (by omega)
theorem set4_set4 (t : FansT) (u v : Int) : ∀ {k : Nat}, k < 4 → set4 (set4 t k u) k v = set4 t k v
  | 0, _ => rfl
  | 1, _ => rfl
  | 2, _ => rfl
  | 3, _ => rfl
  | k + 4, h => absurd h (by omega)
theorem all4_at {p : Int → Prop} {t : FansT} (h : all4 p t) : ∀ {k : Nat}, k < 4 → p (at4 t k)
  | 0, _ => h.1
  | 1, _ => h.2.1
  | 2, _ => h.2.2.1
  | 3, _ => h.2.2.2
  | k + 4, h => absurd h (by omega)
theorem bnd_mul {A B x y : Int} (hA : 0 ≤ A) (hx : bnd A x) (hy : bnd B y) : bnd (A * B) (x * y) := by
  obtain ⟨h1, h2⟩ := hx
  obtain ⟨h3, h4⟩ := hy
  have e1 : 0 ≤ (A - x) * (B - y) := Int.mul_nonneg (by omega) (by omega)
  have e2 : 0 ≤ (A + x) * (B + y) := Int.mul_nonneg (by omega) (by omega)
  have e3 : 0 ≤ (A - x) * (B + y) := Int.mul_nonneg (by omega) (by omega)
  have e4 : 0 ≤ (A + x) * (B - y) := Int.mul_nonneg (by omega) (by omega)
  simp only [Int.sub_mul, Int.mul_sub, Int.add_mul, Int.mul_add] at e1 e2 e3 e4
  constructor <;> omega
theorem FOK.b {f : FansT} (h : FOK f) {k : Nat} (hk : k < 4) : bnd 1000 (at4 f k) := by
  have : 0 ≤ at4 f k ∧ at4 f k ≤ 1000 := all4_at h hk
  constructor <;> omega

theorem p80 {f : FansT} {Q : Int → Prop} (h : f80_wp f () Q) : V80 f Q := by
  obtain ⟨⟨⟨a1, a2⟩, ⟨b1, b2⟩, ⟨c1, c2⟩, ⟨d1, d2⟩⟩, h⟩ := h
  refine for4 (σ := Int) (fun k => match k with | 0 => 0 | 1 => f.1 | 2 => f.1 + f.2.1 | 3 => f.1 + f.2.1 + f.2.2.1 | _ => sumF f) rfl (fun k hk I μ hI hw => ?_) h
  refine ⟨by omega, by omega, ?_⟩
  rw [hw]
  match k, hk with
  | 0, _ =>
    have e : IntKind.wrap .i64 (0 + f.1) = f.1 := by rw [wrapS (by omega) (by omega)]; omega
    show I 1 (IntKind.wrap .i64 (0 + f.1)) ∧ μ 1 (IntKind.wrap .i64 (0 + f.1)) < μ 0 0
    rw [e]; exact hI
  | 1, _ =>
    have e : IntKind.wrap .i64 (f.1 + f.2.1) = f.1 + f.2.1 := wrapS (by omega) (by omega)
    show I 2 (IntKind.wrap .i64 (f.1 + f.2.1)) ∧ μ 2 (IntKind.wrap .i64 (f.1 + f.2.1)) < μ 1 f.1
    rw [e]; exact hI
  | 2, _ =>
    have e : IntKind.wrap .i64 (f.1 + f.2.1 + f.2.2.1) = f.1 + f.2.1 + f.2.2.1 := wrapS (by omega) (by omega)
    show I 3 (IntKind.wrap .i64 (f.1 + f.2.1 + f.2.2.1)) ∧ μ 3 (IntKind.wrap .i64 (f.1 + f.2.1 + f.2.2.1)) < μ 2 (f.1 + f.2.1)
    rw [e]; exact hI
  | 3, _ =>
    have e : IntKind.wrap .i64 (f.1 + f.2.1 + f.2.2.1 + f.2.2.2) = f.1 + f.2.1 + f.2.2.1 + f.2.2.2 := wrapS (by omega) (by omega)
    show I 4 (IntKind.wrap .i64 (f.1 + f.2.1 + f.2.2.1 + f.2.2.2)) ∧ μ 4 (IntKind.wrap .i64 (f.1 + f.2.1 + f.2.2.1 + f.2.2.2)) < μ 3 (f.1 + f.2.1 + f.2.2.1)
    rw [e]; exact hI
theorem p105 {f : FansT} {Q : List Int → Prop} (h : f105_wp f () Q) : V105 f Q := by
  obtain ⟨⟨⟨a1, a2⟩, ⟨b1, b2⟩, ⟨c1, c2⟩, ⟨d1, d2⟩⟩, h⟩ := h
  refine for4 (σ := List Int) (fun k => match k with | 0 => [] | 1 => List.replicate f.1.toNat 0 | 2 => List.replicate f.1.toNat 0 ++ List.replicate f.2.1.toNat 1 | 3 => List.replicate f.1.toNat 0 ++ List.replicate f.2.1.toNat 1 ++ List.replicate f.2.2.1.toNat 2 | _ => listF f) rfl (fun k hk I μ hI hw => ?_) h
  refine ⟨by omega, by omega, ?_⟩
  rw [hw]
  match k, hk with
  | 0, _ => exact ⟨⟨rfl, a1, a2⟩, by show (0 + (List.replicate f.1.toNat _).length) * 8 ≤ _; simp only [List.length_replicate]; omega, hI⟩
  | 1, _ => exact ⟨⟨rfl, b1, b2⟩, by show ((List.replicate f.1.toNat _).length + (List.replicate f.2.1.toNat _).length) * 8 ≤ _; simp only [List.length_replicate]; omega, hI⟩
  | 2, _ => exact ⟨⟨rfl, c1, c2⟩, by show ((List.replicate f.1.toNat _ ++ List.replicate f.2.1.toNat _).length + (List.replicate f.2.2.1.toNat _).length) * 8 ≤ _; simp only [List.length_append, List.length_replicate]; omega, hI⟩
  | 3, _ => exact ⟨⟨rfl, d1, d2⟩, by show ((List.replicate f.1.toNat _ ++ List.replicate f.2.1.toNat _ ++ List.replicate f.2.2.1.toNat _).length + (List.replicate f.2.2.2.toNat _).length) * 8 ≤ _; simp only [List.length_append, List.length_replicate]; omega, hI⟩

def dotS (f a : FansT) : Nat → Int
  | 0 => 0
  | k + 1 => dotS f a k + at4 f k * at4 a k
theorem dotS_bnd {f a : FansT} (hf : FOK f) (ha : all4 (bnd 1000000) a) : ∀ {k : Nat}, k ≤ 4 → bnd ((k : Int) * 1000000000) (dotS f a k)
  | 0, _ => ⟨by simp [dotS], by simp [dotS]⟩
  | k + 1, h => by
    have h1 := dotS_bnd hf ha (k := k) (by omega)
    have h2 := bnd_mul (by omega) (hf.b (k := k) (by omega)) (all4_at ha (k := k) (by omega))
    obtain ⟨u1, u2⟩ := h1
    obtain ⟨v1, v2⟩ := h2
    simp only [dotS]
    push_cast
    constructor <;> omega
theorem dotS_four (f a : FansT) : dotS f a 4 = GX.Fa.dot f a := by
  show 0 + f.1 * a.1 + f.2.1 * a.2.1 + f.2.2.1 * a.2.2.1 + f.2.2.2 * a.2.2.2 = _
  rw [Int.zero_add]; rfl
theorem dotS_step {f a : FansT} (hf : FOK f) (ha : all4 (bnd 1000000) a) {k : Nat} (hk : k < 4) : IntKind.wrap .i64 (dotS f a k + IntKind.wrap .i64 (at4L f k * at4L a k)) = dotS f a (k + 1) := by
  rw [at4_L _ hk, at4_L _ hk]
  have h1 := dotS_bnd hf ha (k := k) (by omega)
  have h2 := bnd_mul (by omega) (hf.b (k := k) (by omega)) (all4_at ha (k := k) (by omega))
  have h3 := dotS_bnd hf ha (k := k + 1) (by omega)
  obtain ⟨v1, v2⟩ := h2
  obtain ⟨w1, w2⟩ := h3
  push_cast at w1 w2
  rw [wrapS (x := at4 f k * at4 a k) (by omega) (by omega)]
  exact wrapS (x := dotS f a (k + 1)) (by omega) (by omega)
theorem dot_bnd {f a : FansT} (hf : FOK f) (ha : all4 (bnd 1000000) a) : bnd 4000000000 (GX.Fa.dot f a) := by
  have := dotS_bnd hf ha (k := 4) (by omega)
  rw [dotS_four] at this
  exact ⟨by have := this.1; omega, by have := this.2; omega⟩
theorem p97 {b : BinT} {f : FansT} {Q : Bool → Prop} (h : f97_wp (b, f, ()) () Q) : V97 b f Q := by
  obtain ⟨⟨hb, hf⟩, h⟩ := h
  have hb : BOK b := hb
  have hf : FOK f := hf
  refine for4 (σ := Int) (dotS f b.1) rfl (fun k hk I μ hI hw => ?_) ?_
  · refine ⟨by omega, by omega, by omega, by omega, ?_⟩
    rw [hw]
    show I _ (IntKind.wrap .i64 (dotS f b.1 k + IntKind.wrap .i64 (at4L f k * at4L b.1 k))) ∧ μ _ (IntKind.wrap .i64 (dotS f b.1 k + IntKind.wrap .i64 (at4L f k * at4L b.1 k))) < _
    rw [dotS_step hf hb.t hk]
    exact hI
  · show Q (decide (dotS f b.1 4 ≤ b.2.2.1))
    rw [dotS_four]; exact h
theorem p98 {b : BinT} {f : FansT} {Q : Int → Prop} (h : f98_wp (b, f, ()) () Q) : V98 b f Q := by
  obtain ⟨⟨hb, hf⟩, h⟩ := h
  have hb : BOK b := hb
  have hf : FOK f := hf
  have h : Q (GX.Fa.dot f b.2.1 + (if GX.Fa.isNo f then 0 else b.2.2.2)) := h
  have hd := dot_bnd hf hb.l
  refine for4 (σ := Int) (dotS f b.2.1) rfl (fun k hk I μ hI hw => ?_) ?_
  · refine ⟨by omega, by omega, by omega, by omega, ?_⟩
    rw [hw]
    show I _ (IntKind.wrap .i64 (dotS f b.2.1 k + IntKind.wrap .i64 (at4L f k * at4L b.2.1 k))) ∧ μ _ (IntKind.wrap .i64 (dotS f b.2.1 k + IntKind.wrap .i64 (at4L f k * at4L b.2.1 k))) < _
    rw [dotS_step hf hb.l hk]
    exact hI
  · simp only [dotS_four]
    refine cnd_iff.2 ⟨fun h1 => ?_, fun h1 => ?_⟩
    · have e : GX.Fa.isNo f = false := by
        have : (!(GX.Fa.isNo f && true)) = true := by simpa [GX.Fa.isNo, Bool.and_assoc] using h1
        simpa using this
      rw [e] at h
      have hh := hb.f
      rw [wrapS (by have := hd.1; have := hh.1; omega) (by have := hd.2; have := hh.2; omega)]
      exact h
    · have e : GX.Fa.isNo f = true := by
        have : (!(GX.Fa.isNo f && true)) = false := by simpa [GX.Fa.isNo, Bool.and_assoc] using h1
        simpa using this
      rw [e] at h
      simpa using h
theorem p99 {a b : FansT} {Q : FansT → Prop} (h : f99_wp (a, b, ()) () Q) : V99 a b Q := by
  obtain ⟨⟨ha, hb⟩, h⟩ := h
  have ha : all4 (bnd 1000000) a := ha
  have hb : all4 (bnd 1000000) b := hb
  have hx : ∀ k, k < 4 → IntKind.wrap .i64 (at4 a k - at4 b k) = at4 a k - at4 b k := fun k hk => by
    have h1 := all4_at ha hk
    have h2 := all4_at hb hk
    exact wrapS (by have := h1.1; have := h2.2; omega) (by have := h1.2; have := h2.1; omega)
  refine for4 (σ := FansT) (fun k => tup4 fun i => if i < k then at4 a i - at4 b i else at4 a i) rfl (fun k hk I μ hI hw => ?_) h
  refine ⟨by omega, by omega, by omega, by omega, by omega, by omega, ?_⟩
  rw [hw]
  have e : set4 (tup4 fun i => if i < k then at4 a i - at4 b i else at4 a i) k (IntKind.wrap .i64 (at4L (tup4 fun i => if i < k then at4 a i - at4 b i else at4 a i) k - at4L b k)) = tup4 fun i => if i < k + 1 then at4 a i - at4 b i else at4 a i := by
    rw [at4_L _ hk, at4_L _ hk]
    have e1 : at4 (tup4 fun i => if i < k then at4 a i - at4 b i else at4 a i) k = at4 a k := by
      match k, hk with
      | 0, _ => rfl
      | 1, _ => rfl
      | 2, _ => rfl
      | 3, _ => rfl
    rw [e1, hx k hk]
    match k, hk with
    | 0, _ => rfl
    | 1, _ => rfl
    | 2, _ => rfl
    | 3, _ => rfl
  show I _ (set4 _ k (IntKind.wrap .i64 (at4L _ k - at4L b k))) ∧ μ _ (set4 _ k (IntKind.wrap .i64 (at4L _ k - at4L b k))) < _
  rw [e]
  exact hI
theorem p66 {s : Int × Int} {Q : Int → Prop} (h : f66_wp s () Q) : V66 s Q := h
theorem p65 {s : Store} {f : List Spring} {e : Int × Int → (Int → Prop) → Prop} {Q : Fashion → Prop} (h : f65_wp (s, f, e, ()) () Q) : V65 s f e Q := by
  obtain ⟨g, ⟨hn, hs⟩, h⟩ := h
  have hn : f.length ≤ 4 := hn
  have hs : Says e g (f.map (·.1)) := hs
  intro hl
  refine forUp (σ := Fashion) (n := f.length) hl (fun k => (s, f, tup4 fun i => if i < k then g (f.getD i ((0, 0), 0, 0)).1 else 0)) rfl (fun k hk I μ hI hw => ?_) h
  refine ⟨by omega, by omega, ?_⟩
  refine hs (f.getD k ((0, 0), 0, 0)).1 (List.mem_map.2 ⟨_, getD_mem hk, rfl⟩) _ ⟨by omega, by omega, ?_⟩
  rw [hw]
  show I _ (s, f, set4 (tup4 fun i => if i < k then g (f.getD i ((0, 0), 0, 0)).1 else 0) k (g (f.getD k ((0, 0), 0, 0)).1)) ∧ μ _ (s, f, set4 (tup4 fun i => if i < k then g (f.getD i ((0, 0), 0, 0)).1 else 0) k (g (f.getD k ((0, 0), 0, 0)).1)) < _
  rw [set4_tup (fun i => g (f.getD i ((0, 0), 0, 0)).1) (by omega)]
  exact hI
theorem p69 {x : Fashion} {Q : FansT → Prop} (h : f69_wp x () Q) : V69 x Q := by
  obtain ⟨hn, h⟩ := h
  intro hl
  refine forUp (σ := FansT) (n := x.2.1.length) hl (fun k => tup4 fun i => if i < k then (x.2.1.getD i ((0, 0), 0, 0)).2.1 else 0) rfl (fun k hk I μ hI hw => ?_) h
  refine ⟨by omega, by omega, by omega, by omega, ?_⟩
  rw [hw]
  show I _ (set4 (tup4 fun i => if i < k then (x.2.1.getD i ((0, 0), 0, 0)).2.1 else 0) k (x.2.1.getD k ((0, 0), 0, 0)).2.1) ∧ μ _ (set4 (tup4 fun i => if i < k then (x.2.1.getD i ((0, 0), 0, 0)).2.1 else 0) k (x.2.1.getD k ((0, 0), 0, 0)).2.1) < _
  rw [set4_tup (fun i => (x.2.1.getD i ((0, 0), 0, 0)).2.1) (by omega)]
  exact hI
theorem take_map_succ {α β : Type} (g : α → β) (l : List α) {k : Nat} (hk : k < l.length) (d : α) : (l.take (k + 1)).map g = (l.take k).map g ++ [g (l.getD k d)] := by
  rw [List.take_add_one, List.map_append, List.getElem?_eq_getElem hk, getD_lt hk]
  rfl
theorem p68 {x : Fashion} {e i : Int} {Q : List BinT → Prop} (h : f68_wp (x, e, i, ()) () Q) : V68 x e i Q := by
  obtain ⟨hx, h⟩ := h
  have hx : XOK x := hx
  have hsm := hx.sm
  intro hl
  refine forUp (σ := BinT) (n := x.2.1.length) hl (fun k => (tup4 fun j => if j < k then at4 x.2.2 j + x.1.2.1 else 0, tup4 fun j => if j < k then e else 0, 0, i)) rfl (fun k hk I μ hI hw => ?_) ?_
  · have hk4 : k < 4 := by have := hx.n; omega
    refine ⟨by omega, by omega, by omega, by omega, by omega, by omega, ?_⟩
    rw [hw]
    have hc := all4_at hx.ct hk4
    have e1 : IntKind.wrap .i64 (at4L x.2.2 k + x.1.2.1) = at4 x.2.2 k + x.1.2.1 := by
      rw [at4_L _ hk4]
      exact wrapS (by have := hc.1; have := hsm.1; omega) (by have := hc.2; have := hsm.2; omega)
    show I _ (set4 _ k (IntKind.wrap .i64 (at4L x.2.2 k + x.1.2.1)), set4 _ k e, 0, i) ∧ μ _ (set4 _ k (IntKind.wrap .i64 (at4L x.2.2 k + x.1.2.1)), set4 _ k e, 0, i) < _
    rw [e1]
    have e2 := set4_tup (fun j => at4 x.2.2 j + x.1.2.1) hk4
    have e3 := set4_tup (fun _ => e) hk4
    simp only at e2 e3 ⊢
    rw [e2, e3]
    exact hI
  · intro hl2
    refine forUp2 (σ := BinT) (τ := List BinT) (n := x.1.1.length) hl2 (fun k => (tup4 fun j => if j < x.2.1.length then at4 x.2.2 j + x.1.2.1 else 0, tup4 fun j => if j < x.2.1.length then e else 0, if k = 0 then 0 else x.1.1.getD (k - 1) 0 + x.1.2.1, i)) (fun k => leavesF (x.1.1.take k) x.1.2.1 x.2.1.length x.2.2 e i) rfl rfl (fun k hk I μ hI hw => ?_) ?_
    · have hg := hx.lv _ (getD_mem (d := 0) hk)
      have e1 : IntKind.wrap .i64 (x.1.1.getD k 0 + x.1.2.1) = x.1.1.getD k 0 + x.1.2.1 :=
        wrapS (by have := hg.1; have := hsm.1; omega) (by have := hg.2; have := hsm.2; omega)
      refine ⟨by omega, by omega, ?_, ?_⟩
      · have := hx.nl
        simp only [leavesF, List.length_map, List.length_take, List.length_cons, List.length_nil]
        omega
      · rw [hw]
        show I _ (_, _, IntKind.wrap .i64 (x.1.1.getD k 0 + x.1.2.1), i) (leavesF (x.1.1.take k) x.1.2.1 x.2.1.length x.2.2 e i ++ [(_, _, IntKind.wrap .i64 (x.1.1.getD k 0 + x.1.2.1), i)]) ∧ μ _ (_, _, IntKind.wrap .i64 (x.1.1.getD k 0 + x.1.2.1), i) (leavesF (x.1.1.take k) x.1.2.1 x.2.1.length x.2.2 e i ++ [(_, _, IntKind.wrap .i64 (x.1.1.getD k 0 + x.1.2.1), i)]) < _
        rw [e1]
        have e2 : leavesF (x.1.1.take (k + 1)) x.1.2.1 x.2.1.length x.2.2 e i = _ := take_map_succ _ x.1.1 hk 0
        rw [e2] at hI
        exact hI
    · show Q (leavesF (x.1.1.take x.1.1.length) x.1.2.1 x.2.1.length x.2.2 e i)
      rw [List.take_length]
      exact h
theorem p77 {x : Fashion} {Q : List BinT → Prop} (h : f77_wp x () Q) : V77 x Q := by
  obtain ⟨hx, h⟩ := h
  intro hl
  refine forUp (σ := List BinT) (n := x.1.2.2.length) hl (fun k => lotsF (x.1.2.2.take k) x.2.1 x.2.2) rfl (fun k hk I μ hI hw => ?_) ?_
  · refine ⟨by omega, by omega, fun hl2 => ?_⟩
    obtain ⟨lot, hlot⟩ : ∃ lot, lot = x.1.2.2.getD k (0, 0) := ⟨_, rfl⟩
    obtain ⟨T, hT⟩ : ∃ T : Nat → Int, T = fun j => if (x.2.1.getD j ((0, 0), 0, 0)).2.2 > lot.1 then lot.2 + 1 else at4 x.2.2 j := ⟨_, rfl⟩
    obtain ⟨L, hL⟩ : ∃ L : Nat → Int, L = fun j => at4 x.2.2 j * (lot.1 - (x.2.1.getD j ((0, 0), 0, 0)).2.2) := ⟨_, rfl⟩
    have hlt := hx.lt _ (getD_mem (d := (0, 0)) hk)
    rw [← hlot] at hlt
    refine forUp (σ := BinT) (n := x.2.1.length) hl2 (fun m => (tup4 fun j => if j < m then T j else 0, tup4 fun j => if j < m then L j else 0, lot.2, 0)) (by rw [hlot]; rfl) (fun m hm I μ hI hw => ?_) ?_
    · have hm4 : m < 4 := by have := hx.n; omega
      have hsp := hx.sp _ (getD_mem (d := ((0, 0), 0, 0)) hm)
      have hc := all4_at hx.ct hm4
      refine ⟨by omega, by omega, by omega, by omega, by omega, by omega, by omega, by omega, by omega, by omega, ?_⟩
      rw [hw]
      have e1 : IntKind.wrap .i64 (at4L x.2.2 m * IntKind.wrap .i64 (lot.1 - (x.2.1.getD m ((0, 0), 0, 0)).2.2)) = L m := by
        rw [at4_L _ hm4, hL]
        have hd : bnd 2000 (lot.1 - (x.2.1.getD m ((0, 0), 0, 0)).2.2) := ⟨by have := hlt.1.1; have := hsp.2; omega, by have := hlt.1.2; have := hsp.1; omega⟩
        rw [wrapS (x := lot.1 - _) (by have := hd.1; omega) (by have := hd.2; omega)]
        have := bnd_mul (by omega) hc hd
        exact wrapS (by have := this.1; omega) (by have := this.2; omega)
      have e2 : IntKind.wrap .i64 (lot.2 + 1) = lot.2 + 1 := wrapS (by have := hlt.2.1; omega) (by have := hlt.2.2; omega)
      have eL := set4_tup L hm4
      have eT := set4_tup T hm4
      show cnd (decide ((x.2.1.getD m ((0, 0), 0, 0)).2.2 > (x.1.2.2.getD k (0, 0)).1))
        (0 ≤ (m : Int) ∧ (m : Int) < 4 ∧ I _ (set4 (set4 (tup4 fun j => if j < m then T j else 0) m (at4L x.2.2 m)) m (IntKind.wrap .i64 ((x.1.2.2.getD k (0, 0)).2 + 1)), set4 (tup4 fun j => if j < m then L j else 0) m (IntKind.wrap .i64 (at4L x.2.2 m * IntKind.wrap .i64 ((x.1.2.2.getD k (0, 0)).1 - (x.2.1.getD m ((0, 0), 0, 0)).2.2))), lot.2, 0) ∧
          μ _ (set4 (set4 (tup4 fun j => if j < m then T j else 0) m (at4L x.2.2 m)) m (IntKind.wrap .i64 ((x.1.2.2.getD k (0, 0)).2 + 1)), set4 (tup4 fun j => if j < m then L j else 0) m (IntKind.wrap .i64 (at4L x.2.2 m * IntKind.wrap .i64 ((x.1.2.2.getD k (0, 0)).1 - (x.2.1.getD m ((0, 0), 0, 0)).2.2))), lot.2, 0) < _)
        (I _ (set4 (tup4 fun j => if j < m then T j else 0) m (at4L x.2.2 m), set4 (tup4 fun j => if j < m then L j else 0) m (IntKind.wrap .i64 (at4L x.2.2 m * IntKind.wrap .i64 ((x.1.2.2.getD k (0, 0)).1 - (x.2.1.getD m ((0, 0), 0, 0)).2.2))), lot.2, 0) ∧
          μ _ (set4 (tup4 fun j => if j < m then T j else 0) m (at4L x.2.2 m), set4 (tup4 fun j => if j < m then L j else 0) m (IntKind.wrap .i64 (at4L x.2.2 m * IntKind.wrap .i64 ((x.1.2.2.getD k (0, 0)).1 - (x.2.1.getD m ((0, 0), 0, 0)).2.2))), lot.2, 0) < _)
      rw [← hlot, set4_set4 _ _ _ hm4, e1, e2, eL]
      refine cnd_iff.2 ⟨fun h1 => ⟨by omega, by omega, ?_⟩, fun h1 => ?_⟩
      · have : T m = lot.2 + 1 := by rw [hT]; exact if_pos (of_decide_eq_true h1)
        rw [← this, eT]; exact hI
      · have : T m = at4L x.2.2 m := by rw [hT, at4_L _ hm4]; exact if_neg (of_decide_eq_false h1)
        rw [← this, eT]; exact hI
    · refine ⟨?_, ?_⟩
      · have := hx.nt
        simp only [lotsF, List.length_map, List.length_take, List.length_cons, List.length_nil]
        omega
      · rw [hw]
        have e2 : lotsF (x.1.2.2.take (k + 1)) x.2.1 x.2.2 = _ := take_map_succ _ x.1.2.2 hk (0, 0)
        rw [e2] at hI
        have e3 : lotB x.2.1 x.2.2 (x.1.2.2.getD k (0, 0)) = (tup4 fun j => if j < x.2.1.length then T j else 0, tup4 fun j => if j < x.2.1.length then L j else 0, lot.2, 0) := by
          rw [hT, hL, ← hlot]; rfl
        rw [e3] at hI
        exact hI
  · show Q (lotsF (x.1.2.2.take x.1.2.2.length) x.2.1 x.2.2)
    rw [List.take_length]
    exact h
end Go.Proofs.Fa
set_option linter.unusedVariables false
namespace Go.Proofs.Fa
open Go Go.GX Go.Proofs

def le4 (s f : FansT) : Prop := (0 ≤ s.1 ∧ s.1 ≤ f.1) ∧ (0 ≤ s.2.1 ∧ s.2.1 ≤ f.2.1) ∧ (0 ≤ s.2.2.1 ∧ s.2.2.1 ≤ f.2.2.1) ∧ (0 ≤ s.2.2.2 ∧ s.2.2.2 ≤ f.2.2.2)
theorem mem_upN {x n : Int} (hn : 0 ≤ n) : x ∈ GX.Fa.upN n ↔ 0 ≤ x ∧ x ≤ n := by
  simp only [GX.Fa.upN, List.mem_map, List.mem_range]
  constructor
  · rintro ⟨k, hk, rfl⟩; omega
  · rintro ⟨h1, h2⟩; exact ⟨x.toNat, by omega, by omega⟩
theorem mem_upTo {s f : FansT} (hf : FOK f) : s ∈ GX.Fa.upTo f ↔ le4 s f := by
  obtain ⟨⟨a1, _⟩, ⟨b1, _⟩, ⟨c1, _⟩, ⟨d1, _⟩⟩ := hf
  simp only [GX.Fa.upTo, List.mem_flatMap, List.mem_map]
  constructor
  · rintro ⟨w, hw, z, hz, y, hy, x, hx, rfl⟩
    exact ⟨(mem_upN a1).1 hx, (mem_upN b1).1 hy, (mem_upN c1).1 hz, (mem_upN d1).1 hw⟩
  · rintro ⟨h1, h2, h3, h4⟩
    exact ⟨s.2.2.2, (mem_upN d1).2 h4, s.2.2.1, (mem_upN c1).2 h3, s.2.1, (mem_upN b1).2 h2, s.1, (mem_upN a1).2 h1, rfl⟩
theorem le4.fok {s f : FansT} (h : le4 s f) (hf : FOK f) : FOK s := by
  obtain ⟨⟨a1, a2⟩, ⟨b1, b2⟩, ⟨c1, c2⟩, ⟨d1, d2⟩⟩ := hf
  obtain ⟨⟨e1, e2⟩, ⟨f1, f2⟩, ⟨g1, g2⟩, ⟨h1, h2⟩⟩ := h
  exact ⟨⟨e1, by omega⟩, ⟨f1, by omega⟩, ⟨g1, by omega⟩, ⟨h1, by omega⟩⟩
theorem le4.less {s f : FansT} (h : le4 s f) (hf : FOK f) : FOK (GX.Fa.less f s) := by
  obtain ⟨⟨a1, a2⟩, ⟨b1, b2⟩, ⟨c1, c2⟩, ⟨d1, d2⟩⟩ := hf
  obtain ⟨⟨e1, e2⟩, ⟨f1, f2⟩, ⟨g1, g2⟩, ⟨h1, h2⟩⟩ := h
  exact ⟨⟨by show 0 ≤ f.1 - s.1; omega, by show f.1 - s.1 ≤ 1000; omega⟩, ⟨by show 0 ≤ f.2.1 - s.2.1; omega, by show f.2.1 - s.2.1 ≤ 1000; omega⟩, ⟨by show 0 ≤ f.2.2.1 - s.2.2.1; omega, by show f.2.2.1 - s.2.2.1 ≤ 1000; omega⟩, ⟨by show 0 ≤ f.2.2.2 - s.2.2.2; omega, by show f.2.2.2 - s.2.2.2 ≤ 1000; omega⟩⟩
theorem FOK.bnd {f : FansT} (h : FOK f) : all4 (bnd 1000000) f := by
  obtain ⟨⟨a1, a2⟩, ⟨b1, b2⟩, ⟨c1, c2⟩, ⟨d1, d2⟩⟩ := h
  exact ⟨⟨by omega, by omega⟩, ⟨by omega, by omega⟩, ⟨by omega, by omega⟩, ⟨by omega, by omega⟩⟩
theorem loss_bnd {b : BinT} {f : FansT} (hb : BOK b) (hf : FOK f) : bnd 5000000000 (GX.Fa.lossV b f) := by
  have h1 := dot_bnd hf hb.l
  have h2 := hb.f
  unfold GX.Fa.lossV
  obtain ⟨u1, u2⟩ := h1
  obtain ⟨v1, v2⟩ := h2
  split <;> constructor <;> omega

def leastStep (b : BinT) (r : List BinT) (f : FansT) (best : Int) (s : FansT) : Int :=
  if GX.Fa.fitsB b s then (if GX.Fa.lossV b s + GX.Fa.least r (GX.Fa.less f s) < best then GX.Fa.lossV b s + GX.Fa.least r (GX.Fa.less f s) else best) else best
theorem least_cons (b : BinT) (r : List BinT) (f : FansT) : GX.Fa.least (b :: r) f = (GX.Fa.upTo f).foldl (leastStep b r f) GX.Fa.NONE := by
  rw [GX.Fa.least]; rfl
theorem BinsOK.cons {b : BinT} {r : List BinT} (h : BinsOK (b :: r)) : BOK b ∧ BinsOK r :=
  ⟨h.b b (by simp), ⟨by have := h.n; simp at this; omega, fun c hc => h.b c (by simp [hc])⟩⟩
theorem BinsOK.drop {bs : List BinT} (h : BinsOK bs) (k : Nat) : BinsOK (bs.drop k) :=
  ⟨by have := h.n; rw [List.length_drop]; omega, fun b hb => h.b b (List.mem_of_mem_drop hb)⟩
theorem least_bnd : ∀ (bs : List BinT), BinsOK bs → ∀ f, FOK f → -(bs.length * 5000000000) ≤ GX.Fa.least bs f ∧ GX.Fa.least bs f ≤ GX.Fa.NONE
  | [], _, f, _ => by
    rw [GX.Fa.least]
    split <;> simp [GX.Fa.NONE]
  | b :: r, hb, f, hf => by
    obtain ⟨h1, h2⟩ := hb.cons
    rw [least_cons]
    have key : ∀ (l : List FansT) (best : Int), (∀ s, s ∈ l → le4 s f) → -((b :: r).length * 5000000000) ≤ best → best ≤ GX.Fa.NONE →
        -((b :: r).length * 5000000000) ≤ l.foldl (leastStep b r f) best ∧ l.foldl (leastStep b r f) best ≤ GX.Fa.NONE := by
      intro l
      induction l with
      | nil => intro best _ g1 g2; exact ⟨g1, g2⟩
      | cons s l ih =>
        intro best hl g1 g2
        rw [List.foldl_cons]
        refine ih _ (fun s' hs' => hl s' (by simp [hs'])) ?_ ?_
        · have hs := hl s (by simp)
          have hL := loss_bnd h1 (hs.fok hf)
          have hr := least_bnd r h2 _ (hs.less hf)
          unfold leastStep
          have := hL.1
          have e : (((b :: r).length : Nat) : Int) = (r.length : Int) + 1 := by simp
          rw [e] at g1 ⊢
          split
          · split
            · have := hr.1; omega
            · exact g1
          · exact g1
        · unfold leastStep
          split
          · split
            · omega
            · exact g2
          · exact g2
    exact key _ _ (fun s hs => (mem_upTo hf).1 hs) (by simp [GX.Fa.NONE]; omega) (Int.le_refl _)

def rowU (x : Nat) (y z w : Nat) : List FansT := (List.range x).map fun (i : Nat) => ((i : Int), (y : Int), (z : Int), (w : Int))
def rowsU (A : Nat) (y z w : Nat) : List FansT := (List.range y).flatMap fun j => rowU A j z w
def plaU (A B : Nat) (z w : Nat) : List FansT := (List.range z).flatMap fun k => rowsU A B k w
def cubU (A B C : Nat) (w : Nat) : List FansT := (List.range w).flatMap fun l => plaU A B C l
theorem upTo_eq {f : FansT} (hf : FOK f) : GX.Fa.upTo f = cubU (f.1.toNat + 1) (f.2.1.toNat + 1) (f.2.2.1.toNat + 1) (f.2.2.2.toNat + 1) := by
  simp only [GX.Fa.upTo, GX.Fa.upN, cubU, plaU, rowsU, rowU, List.flatMap_map, List.map_map]
  rfl
theorem rowU_succ (x y z w : Nat) : rowU (x + 1) y z w = rowU x y z w ++ [((x : Int), (y : Int), (z : Int), (w : Int))] := by simp [rowU, List.range_succ]
theorem rowsU_succ (A y z w : Nat) : rowsU A (y + 1) z w = rowsU A y z w ++ rowU A y z w := by simp [rowsU, List.range_succ]
theorem plaU_succ (A B z w : Nat) : plaU A B (z + 1) w = plaU A B z w ++ rowsU A B z w := by simp [plaU, List.range_succ]
theorem cubU_succ (A B C w : Nat) : cubU A B C (w + 1) = cubU A B C w ++ plaU A B C w := by simp [cubU, List.range_succ]
theorem flatMap_pre {α : Type} (g : Nat → List α) {m n : Nat} (h : m ≤ n) : (List.range m).flatMap g <+: (List.range n).flatMap g := by
  induction n with
  | zero => obtain rfl : m = 0 := by omega
            exact List.prefix_refl _
  | succ n ih =>
    rcases Nat.lt_or_ge m (n + 1) with h1 | h1
    · refine (ih (by omega)).trans ?_
      rw [List.range_succ, List.flatMap_append]
      exact List.prefix_append _ _
    · obtain rfl : m = n + 1 := by omega
      exact List.prefix_refl _
theorem map_flat {α β : Type} (g : α → β) : ∀ (l : List α), l.map g = l.flatMap fun i => [g i]
  | [] => rfl
  | a :: l => by rw [List.map_cons, List.flatMap_cons, map_flat g l]; rfl

def befU (A B C : Nat) (x y z w : Nat) : List FansT := cubU A B C w ++ plaU A B z w ++ rowsU A y z w ++ rowU x y z w
theorem befU_pre {A B C D x y z w : Nat} (hx : x < A) (hy : y < B) (hz : z < C) (hw : w < D) : befU A B C x y z w ++ [((x : Int), (y : Int), (z : Int), (w : Int))] <+: cubU A B C D := by
  have e1 : befU A B C x y z w ++ [((x : Int), (y : Int), (z : Int), (w : Int))] = cubU A B C w ++ plaU A B z w ++ rowsU A y z w ++ rowU (x + 1) y z w := by
    rw [rowU_succ, befU]; simp only [List.append_assoc]
  rw [e1]
  have p1 : rowU (x + 1) y z w <+: rowU A y z w := by
    have := flatMap_pre (fun (i : Nat) => [((i : Int), (y : Int), (z : Int), (w : Int))]) (show x + 1 ≤ A by omega)
    rwa [← map_flat, ← map_flat] at this
  have a1 : cubU A B C w ++ plaU A B z w ++ rowsU A y z w ++ rowU (x + 1) y z w <+: cubU A B C w ++ plaU A B z w ++ rowsU A (y + 1) z w := by
    rw [rowsU_succ, List.append_assoc, List.append_assoc, List.append_assoc]
    exact (List.prefix_append_right_inj _).2 ((List.prefix_append_right_inj _).2 ((List.prefix_append_right_inj _).2 p1))
  have p2 : rowsU A (y + 1) z w <+: rowsU A B z w := flatMap_pre _ (by omega)
  have a2 : cubU A B C w ++ plaU A B z w ++ rowsU A (y + 1) z w <+: cubU A B C w ++ plaU A B (z + 1) w := by
    rw [plaU_succ, List.append_assoc]
    exact (List.prefix_append_right_inj _).2 ((List.prefix_append_right_inj _).2 p2)
  have p3 : plaU A B (z + 1) w <+: plaU A B C w := flatMap_pre _ (by omega)
  have a3 : cubU A B C w ++ plaU A B (z + 1) w <+: cubU A B C (w + 1) := by
    rw [cubU_succ]
    exact (List.prefix_append_right_inj _).2 p3
  exact ((a1.trans a2).trans a3).trans (flatMap_pre _ (by omega))
end Go.Proofs.Fa
set_option linter.unusedVariables false
namespace Go.Proofs.Fa
open Go Go.GX Go.Proofs

theorem p88 {l : Nat} {f : FansT} (hf : FOK f) : V88 l f (GX.Fa.upTo f) := by
  rw [upTo_eq hf]
  obtain ⟨⟨a1, a2⟩, ⟨b1, b2⟩, ⟨c1, c2⟩, ⟨d1, d2⟩⟩ := hf
  obtain ⟨fx, fy, fz, fw⟩ := f
  simp only at a1 a2 b1 b2 c1 c2 d1 d2
  obtain ⟨A, rfl⟩ := Int.eq_ofNat_of_zero_le a1
  obtain ⟨B, rfl⟩ := Int.eq_ofNat_of_zero_le b1
  obtain ⟨C, rfl⟩ := Int.eq_ofNat_of_zero_le c1
  obtain ⟨D, rfl⟩ := Int.eq_ofNat_of_zero_le d1
  simp only [Int.toNat_natCast]
  have wr : ∀ k : Nat, k ≤ 1000 → IntKind.wrap .i64 ((k : Int) + 1) = ((k + 1 : Nat) : Int) := fun k hk => by rw [wrapS (by omega) (by omega)]; push_cast; rfl
  have hI : ∀ x y z w : Nat, x ≤ A → y ≤ B → z ≤ C → w ≤ D → (befU (A + 1) (B + 1) (C + 1) x y z w).length < (cubU (A + 1) (B + 1) (C + 1) (D + 1)).length := fun x y z w hx hy hz hw => by
    have := (befU_pre (A := A + 1) (B := B + 1) (C := C + 1) (D := D + 1) (x := x) (y := y) (z := z) (w := w) (by omega) (by omega) (by omega) (by omega)).length_le
    simp only [List.length_append, List.length_cons, List.length_nil] at this
    omega
  refine ⟨fun g s => ∃ x y z w : Nat, (x ≤ A ∧ y ≤ B ∧ z ≤ C ∧ w ≤ D) ∧ s = ((x : Int), (y : Int), (z : Int), (w : Int)) ∧ g = befU (A + 1) (B + 1) (C + 1) x y z w,
    fun s => (cubU (A + 1) (B + 1) (C + 1) (D + 1)).length - (befU (A + 1) (B + 1) (C + 1) s.1.toNat s.2.1.toNat s.2.2.1.toNat s.2.2.2.toNat).length, ⟨0, 0, 0, 0, ⟨by omega, by omega, by omega, by omega⟩, rfl, rfl⟩, ?_⟩
  rintro g s ⟨x, y, z, w, ⟨hx, hy, hz, hw⟩, rfl, rfl⟩
  obtain ⟨rest, hrest⟩ := befU_pre (A := A + 1) (B := B + 1) (C := C + 1) (D := D + 1) (x := x) (y := y) (z := z) (w := w) (by omega) (by omega) (by omega) (by omega)
  refine ⟨rfl, rest, by rw [← hrest]; simp, ?_, trivial⟩

  have next : ∀ x' y' z' w' : Nat, x' ≤ A → y' ≤ B → z' ≤ C → w' ≤ D → befU (A + 1) (B + 1) (C + 1) x' y' z' w' = befU (A + 1) (B + 1) (C + 1) x y z w ++ [((x : Int), (y : Int), (z : Int), (w : Int))] →
      (∃ x'' y'' z'' w'' : Nat, (x'' ≤ A ∧ y'' ≤ B ∧ z'' ≤ C ∧ w'' ≤ D) ∧ (((x' : Int), (y' : Int), (z' : Int), (w' : Int)) : FansT) = ((x'' : Int), (y'' : Int), (z'' : Int), (w'' : Int)) ∧ befU (A + 1) (B + 1) (C + 1) x y z w ++ [((x : Int), (y : Int), (z : Int), (w : Int))] = befU (A + 1) (B + 1) (C + 1) x'' y'' z'' w'') ∧
      (cubU (A + 1) (B + 1) (C + 1) (D + 1)).length - (befU (A + 1) (B + 1) (C + 1) (x' : Int).toNat (y' : Int).toNat (z' : Int).toNat (w' : Int).toNat).length < (cubU (A + 1) (B + 1) (C + 1) (D + 1)).length - (befU (A + 1) (B + 1) (C + 1) (x : Int).toNat (y : Int).toNat (z : Int).toNat (w : Int).toNat).length := by
    intro x' y' z' w' h1 h2 h3 h4 he
    refine ⟨⟨x', y', z', w', ⟨h1, h2, h3, h4⟩, rfl, he.symm⟩, ?_⟩
    simp only [Int.toNat_natCast]
    have := hI x' y' z' w' h1 h2 h3 h4
    have e := congrArg List.length he
    simp only [List.length_append, List.length_cons, List.length_nil] at e
    omega
  refine ⟨fun g j t => g = befU (A + 1) (B + 1) (C + 1) x y z w ++ [((x : Int), (y : Int), (z : Int), (w : Int))] ∧ ((j = 0 ∧ t = ((x : Int), (y : Int), (z : Int), (w : Int))) ∨ (j = 1 ∧ x = A ∧ t = ((0 : Int), (y : Int), (z : Int), (w : Int))) ∨ (j = 2 ∧ (x = A ∧ y = B) ∧ t = ((0 : Int), (0 : Int), (z : Int), (w : Int))) ∨ (j = 3 ∧ (x = A ∧ y = B ∧ z = C) ∧ t = ((0 : Int), (0 : Int), (0 : Int), (w : Int))) ∨ (j = 4 ∧ (x = A ∧ y = B ∧ z = C ∧ w = D) ∧ t = ((0 : Int), (0 : Int), (0 : Int), (0 : Int)))),
    fun j _ => (4 - j).toNat, ⟨rfl, .inl ⟨rfl, rfl⟩⟩, ?_⟩
  rintro g j t ⟨rfl, h⟩
  have e1 : ∀ x y z w : Nat, rowU (x + 1) y z w = rowU x y z w ++ [((x : Int), (y : Int), (z : Int), (w : Int))] := rowU_succ
  have e2 : ∀ x y z w : Nat, rowsU (x + 1) (y + 1) z w = rowsU (x + 1) y z w ++ (rowU x y z w ++ [((x : Int), (y : Int), (z : Int), (w : Int))]) := fun x y z w => by rw [rowsU_succ, e1]
  have e3 : ∀ x y z w : Nat, plaU (x + 1) (y + 1) (z + 1) w = plaU (x + 1) (y + 1) z w ++ (rowsU (x + 1) y z w ++ (rowU x y z w ++ [((x : Int), (y : Int), (z : Int), (w : Int))])) := fun x y z w => by rw [plaU_succ, e2]
  have e4 : ∀ x y z w : Nat, cubU (x + 1) (y + 1) (z + 1) (w + 1) = cubU (x + 1) (y + 1) (z + 1) w ++ (plaU (x + 1) (y + 1) z w ++ (rowsU (x + 1) y z w ++ (rowU x y z w ++ [((x : Int), (y : Int), (z : Int), (w : Int))]))) := fun x y z w => by rw [cubU_succ, e3]
  rcases h with ⟨rfl, rfl⟩ | ⟨rfl, rfl, rfl⟩ | ⟨rfl, ⟨rfl, rfl⟩, rfl⟩ | ⟨rfl, ⟨rfl, rfl, rfl⟩, rfl⟩ | ⟨rfl, ⟨rfl, rfl, rfl, rfl⟩, rfl⟩
  · refine ⟨by omega, by omega, by omega, by omega, cnd_iff.2 ⟨fun h => ⟨by omega, by omega, ⟨rfl, .inr (.inl ⟨rfl, ?_, rfl⟩)⟩, by show (4 - (1 : Int)).toNat < (4 - (0 : Int)).toNat; decide⟩, fun h => ⟨by omega, by omega, by omega, by omega, ?_⟩⟩⟩
    · have h : ((x : Int) == (A : Int)) = true := h
      have := eq_of_beq h; omega
    · have h : ((x : Int) == (A : Int)) = false := h
      have h : x ≠ A := by intro e; rw [e] at h; simp at h
      show (∃ x'' y'' z'' w'' : Nat, _ ∧ ((IntKind.wrap .i64 ((x : Int) + 1), (y : Int), (z : Int), (w : Int)) : FansT) = _ ∧ _) ∧ _ - (befU _ _ _ (IntKind.wrap .i64 ((x : Int) + 1)).toNat (y : Int).toNat (z : Int).toNat (w : Int).toNat).length < _
      rw [wr x (by omega)]
      exact next (x + 1) y z w (by omega) hy hz hw (by rw [befU, befU, rowU_succ]; simp only [List.append_assoc])
  · refine ⟨by omega, by omega, by omega, by omega, cnd_iff.2 ⟨fun h => ⟨by omega, by omega, ⟨rfl, .inr (.inr (.inl ⟨rfl, ⟨rfl, ?_⟩, rfl⟩))⟩, by show (4 - (2 : Int)).toNat < (4 - (1 : Int)).toNat; decide⟩, fun h => ⟨by omega, by omega, by omega, by omega, ?_⟩⟩⟩
    · have h : ((y : Int) == (B : Int)) = true := h
      have := eq_of_beq h; omega
    · have h : ((y : Int) == (B : Int)) = false := h
      have h : y ≠ B := by intro e; rw [e] at h; simp at h
      show (∃ x'' y'' z'' w'' : Nat, _ ∧ (((0 : Int), IntKind.wrap .i64 ((y : Int) + 1), (z : Int), (w : Int)) : FansT) = _ ∧ _) ∧ _ - (befU _ _ _ (0 : Int).toNat (IntKind.wrap .i64 ((y : Int) + 1)).toNat (z : Int).toNat (w : Int).toNat).length < _
      rw [wr y (by omega)]
      exact next 0 (y + 1) z w (by omega) (by omega) hz hw (by rw [befU, befU, e2]; simp only [List.append_assoc]; rfl)
  · refine ⟨by omega, by omega, by omega, by omega, cnd_iff.2 ⟨fun h => ⟨by omega, by omega, ⟨rfl, .inr (.inr (.inr (.inl ⟨rfl, ⟨rfl, rfl, ?_⟩, rfl⟩)))⟩, by show (4 - (3 : Int)).toNat < (4 - (2 : Int)).toNat; decide⟩, fun h => ⟨by omega, by omega, by omega, by omega, ?_⟩⟩⟩
    · have h : ((z : Int) == (C : Int)) = true := h
      have := eq_of_beq h; omega
    · have h : ((z : Int) == (C : Int)) = false := h
      have h : z ≠ C := by intro e; rw [e] at h; simp at h
      show (∃ x'' y'' z'' w'' : Nat, _ ∧ (((0 : Int), (0 : Int), IntKind.wrap .i64 ((z : Int) + 1), (w : Int)) : FansT) = _ ∧ _) ∧ _ - (befU _ _ _ (0 : Int).toNat (0 : Int).toNat (IntKind.wrap .i64 ((z : Int) + 1)).toNat (w : Int).toNat).length < _
      rw [wr z (by omega)]
      exact next 0 0 (z + 1) w (by omega) (by omega) (by omega) hw (by rw [befU, befU, e3]; simp only [List.append_assoc]; rfl)
  · refine ⟨by omega, by omega, by omega, by omega, cnd_iff.2 ⟨fun h => ⟨by omega, by omega, ⟨rfl, .inr (.inr (.inr (.inr ⟨rfl, ⟨rfl, rfl, rfl, ?_⟩, rfl⟩)))⟩, by show (4 - (4 : Int)).toNat < (4 - (3 : Int)).toNat; decide⟩, fun h => ⟨by omega, by omega, by omega, by omega, ?_⟩⟩⟩
    · have h : ((w : Int) == (D : Int)) = true := h
      have := eq_of_beq h; omega
    · have h : ((w : Int) == (D : Int)) = false := h
      have h : w ≠ D := by intro e; rw [e] at h; simp at h
      show (∃ x'' y'' z'' w'' : Nat, _ ∧ (((0 : Int), (0 : Int), (0 : Int), IntKind.wrap .i64 ((w : Int) + 1)) : FansT) = _ ∧ _) ∧ _ - (befU _ _ _ (0 : Int).toNat (0 : Int).toNat (0 : Int).toNat (IntKind.wrap .i64 ((w : Int) + 1)).toNat).length < _
      rw [wr w (by omega)]
      refine next 0 0 0 (w + 1) (by omega) (by omega) (by omega) (by omega) ?_
      rw [befU, befU, e4]
      simp only [List.append_assoc]
      rfl
  · show befU _ _ _ x y z w ++ [((x : Int), (y : Int), (z : Int), (w : Int))] = _
    rw [befU, e4]
    simp only [List.append_assoc]
theorem fold_snoc {α β : Type} (g : β → α → β) (b : β) (l : List α) (x : α) : (l ++ [x]).foldl g b = g (l.foldl g b) x := by simp
theorem p82 {n : Nat} {p : Pk} {i : Int} {f : FansT} {Q : Int → Prop} (h : f82n_wp (n + 1) (p, i, f, ()) () Q) : V82 n p i f Q := by
  obtain ⟨⟨hp, hf, h0, h1, h2⟩, h⟩ := h
  have hp : POK p := hp
  have hf : FOK f := hf
  have hN : p.1.length ≤ 1000 := hp.b.n
  have h0 : 0 ≤ i := h0
  have h1 : i ≤ p.1.length := h1
  have h2 : p.1.length < i.toNat + (n + 1) := h2
  have h : Q (GX.Fa.least (p.1.drop i.toNat) f) := h
  refine cnd_iff.2 ⟨fun hc => ?_, fun hc => ?_⟩
  · have hc : i = p.1.length := eq_of_beq hc
    rw [List.drop_eq_nil_of_le (by omega), GX.Fa.least] at h
    refine cnd_iff.2 ⟨fun hc2 => ?_, fun hc2 => ?_⟩
    · have e : GX.Fa.isNo f = true := by simpa [GX.Fa.isNo, Bool.and_assoc] using hc2
      rw [if_pos e] at h; exact h
    · have e : GX.Fa.isNo f = false := by
        have : (GX.Fa.isNo f && true) = false := by simpa [GX.Fa.isNo, Bool.and_assoc] using hc2
        simpa using this
      rw [e] at h; exact h
  · have hc : i ≠ p.1.length := by intro e; rw [e] at hc; simp at hc
    obtain ⟨k, rfl⟩ := Int.eq_ofNat_of_zero_le h0
    have hk : k < p.1.length := by omega
    have hk2 : (k : Int).toNat = k := Int.toNat_natCast k
    rw [hk2] at h h2
    intro v has hv
    refine cnd_iff.2 ⟨fun hh => ?_, fun hh => ⟨hf, ?_⟩⟩
    · have := hv hh
      have : v = GX.Fa.least (p.2.drop k) f := this
      rw [this, hp.e]; exact h
    have hd : p.1.drop k = p.1.getD k default :: p.1.drop (k + 1) := by rw [List.drop_eq_getElem_cons hk, getD_lt hk]
    obtain ⟨b, hb⟩ : ∃ b : BinT, b = p.1.getD k ((0, 0, 0, 0), (0, 0, 0, 0), 0, 0) := ⟨_, rfl⟩
    have hd : p.1.drop k = b :: p.1.drop (k + 1) := by rw [List.drop_eq_getElem_cons hk, hb, getD_lt hk]
    rw [hd, least_cons] at h
    have hB := hp.b.drop k
    rw [hd] at hB
    obtain ⟨hb1, hr1⟩ := hB.cons
    refine ⟨fun pre x => x = pre.foldl (leastStep b (p.1.drop (k + 1)) f) GX.Fa.NONE, rfl, ?_, ?_⟩
    · intro pre s rest hxs best hbest
      have hs : le4 s f := (mem_upTo hf).1 (by
        have hxs : GX.Fa.upTo f = pre ++ s :: rest := hxs
        rw [hxs]; simp)
      have hsf := hs.fok hf
      refine ⟨by omega, by omega, ?_⟩
      refine ⟨⟨by show BOK (p.1.getD k _); rw [← hb]; exact hb1, hsf⟩, ?_⟩
      show cnd (GX.Fa.fitsB (p.1.getD k ((0, 0, 0, 0), (0, 0, 0, 0), 0, 0)) s) _ _
      rw [← hb]
      have hbest : best = pre.foldl (leastStep b (p.1.drop (k + 1)) f) GX.Fa.NONE := hbest
      refine cnd_iff.2 ⟨fun hfit => ?_, fun hfit => ?_⟩
      · refine ⟨_, ⟨⟨by show BOK (p.1.getD k _); rw [← hb]; exact hb1, hsf⟩, rfl⟩, _, ⟨⟨hf.bnd, hsf.bnd⟩, rfl⟩, GX.Fa.least (p.1.drop (k + 1)) (GX.Fa.less f s), ⟨⟨hp, hs.less hf, ?_, ?_, ?_⟩, ?_⟩, ?_⟩
        · show 0 ≤ IntKind.wrap .i64 ((k : Int) + 1)
          rw [wrapS (by omega) (by omega)]; omega
        · show IntKind.wrap .i64 ((k : Int) + 1) ≤ p.1.length
          rw [wrapS (by omega) (by omega)]; omega
        · show p.1.length < (IntKind.wrap .i64 ((k : Int) + 1)).toNat + n
          rw [wrapS (by omega) (by omega)]; omega
        · show GX.Fa.least (p.1.drop (IntKind.wrap .i64 ((k : Int) + 1)).toNat) (GX.Fa.less f s) = GX.Fa.least (p.1.drop (k + 1)) (GX.Fa.less f s)
          rw [wrapS (by omega) (by omega)]
          rfl
        · show mnI best (IntKind.wrap .i64 (GX.Fa.lossV (p.1.getD k _) s + _)) = (pre ++ [s]).foldl _ _
          rw [fold_snoc, ← hbest, ← hb]
          have hL := loss_bnd hb1 hsf
          have hR := least_bnd _ hr1 _ (hs.less hf)
          have hn := hr1.n
          rw [wrapS (by have := hL.1; have := hR.1; omega) (by have := hL.2; have := hR.2; simp only [GX.Fa.NONE] at this; omega)]
          unfold leastStep mnI
          rw [if_pos hfit]
      · show best = (pre ++ [s]).foldl _ _
        rw [fold_snoc, ← hbest]
        unfold leastStep
        rw [if_neg (by rw [hfit]; simp)]
    · intro best hbest
      have hbest : best = (GX.Fa.upTo f).foldl (leastStep b (p.1.drop (k + 1)) f) GX.Fa.NONE := hbest
      refine ⟨?_, by rw [hbest]; exact h⟩
      show best = GX.Fa.least (p.2.drop (k : Int).toNat) f
      rw [hk2, hp.e, hd, least_cons]
      exact hbest
end Go.Proofs.Fa
set_option maxRecDepth 100000
set_option linter.unusedVariables false
namespace Go.Proofs.Fa
open Go Go.GX Go.Proofs Go.RowKit Go.Shelf
theorem belowA (W : World) (o : Obj) : Below W.heap.size W (W.alloc o) := (Below.refl _ _).alloc (Nat.le_refl _) o
theorem mk81 : Enters Try.prog 81 ∧ ∀ (W : World) (A : Option Addr) (n c : Nat), Calls Try.prog 81 #[.slice A n c] W fun e w' =>
    e = .returned (.pointer (some ⟨W.heap.size + 1, 0, none⟩)) ∧ w' = (W.alloc (.map #[] 0)).alloc (.cells #[.slice A n c, .map (some W.heap.size)] 140 (0, 0)) := by
  refine ⟨enters_of Try.func81 (by kernel_rfl) rfl, fun W A n c => ?_⟩
  have hmm := @run_makeMap Try.prog
  go_enter Try.func81, Try.ntmps81
  go_wp2
  go_ret
  exact ⟨rfl, rfl⟩
variable [Inhabited BaseD]
theorem ok81 : CallsOK Try.prog (assoc glT) 81 f81_ct where
  enters := mk81.1
  calls := fun X W x y vs cs hX hg hv hc Q hQ => by
    obtain ⟨v, rfl, hv⟩ := hv
    have hc : cs = [] := hc
    subst hc
    have hv0 := hv
    obtain ⟨A, c, rfl, hlc, hcm, hrow⟩ := hv
    refine (mk81.2 W A x.length c).mono ?_
    rintro e w' ⟨rfl, hw⟩
    have hQ : Q (x, x) := hQ.2
    have hb1 : Below W.heap.size W w' := by
      rw [hw]
      exact (belowA W _).alloc (by simp) _
    have e1 : Evo X W X w' := Evo.below hX hb1
    have hm : w'.heap[W.heap.size]? = some (.map #[] 0) := by
      rw [hw, Below.heap_alloc _ _ _ (by simp), World.alloc_heap_new]
    have hs : (W.alloc (.map #[] 0)).heap.size = W.heap.size + 1 := by simp
    have hp : w'.heap[W.heap.size + 1]? = some (.cells #[.slice A x.length c, .map (some W.heap.size)] 140 (0, 0)) := by
      have := World.alloc_heap_new (W.alloc (.map #[] 0)) (.cells #[.slice A x.length c, .map (some W.heap.size)] 140 (0, 0))
      rw [hs] at this
      rw [hw]; exact this
    have hx1 : ¬ X (W.heap.size + 1) := fun h => by have := hX _ h; omega
    have hv1 := (Kd.stands Try.prog k103).val e1 hv0
    refine ⟨(x, x), _, rfl, ⟨W.heap.size + 1, _, rfl, hx1, hp, [.slice A x.length c], [.map (some W.heap.size)], rfl, ⟨_, rfl, rfl, hv1⟩, ⟨_, rfl, rfl, rfl, W.heap.size, rfl, ?_, ?_⟩⟩, Bel.ofBelow hb1, hQ⟩
    · refine ⟨⟨hx1, hg.1⟩, A, c, hp, fun hne => ?_⟩
      obtain ⟨A', c', he, _, _, hr⟩ := hv1
      cases he
      have hne : x ≠ [] := hne
      obtain ⟨ad, hA, hxa, _, hcell⟩ := hr hne
      have key : ∀ (j : Nat) b, (show List memoK.T from x)[j]? = some b → ∀ (i : Nat) u, (memoK.fc b)[i]? = some u → w'.cell? (ad.add (j * memoK.n + i)) = some u := fun j b hj i u hu => by
        obtain ⟨ecs, h1, h2⟩ := hcell j b hj
        have h1 : ecs = memoK.fc b := (Kd.fc_cells Try.prog memoK rfl).1 h1
        subst h1
        exact h2 i u hu
      refine ⟨ad, hA, hxa, ?_, key⟩
      cases hxx : x with
      | nil => exact absurd hxx hne
      | cons b r =>
        have := key 0 b (by rw [hxx]; rfl) 0 _ rfl
        have := cells_of_cell? this
        rwa [add_block] at this
    · exact ⟨#[], 0, hm, fun e he => by simp at he⟩
theorem st0 : StatOK Try.prog (S00 [] []) := statOK_of st_ok
theorem ct0 : CtOK Try.prog (assoc glT) (S00 [] []) := ctOK_of AllOK.nil mk_ok in_ok
theorem up_ok : ItmOK Try.prog (assoc glT) 88 upIt :=
  itm_of Try.func88 (by kernel_rfl) (by kernel_rfl) f88_an upIt rfl y88_ct (fun _ _ => st0) (fun _ _ => ct0) (fun _ _ => rfl)
    (fun T hT B0 We => yopY_ok (A := k97) (T := T) (B0 := B0) (We := We) st0 ct0 rfl hT (fun lab => Nat.beq lab 202) (fun id => cond (Nat.beq id 4) 11 0))
    (fun x l hx => (V88E l x _).mp (p88 hx))
theorem it_ok : AllItm Try.prog (assoc glT) itT := AllItm.cons up_ok AllItm.nil
theorem f82z {x : Pk × Int × FansT × Unit} {y : Unit} {Q : Int → Prop} (h : f82n_wp 0 x y Q) : False := by
  obtain ⟨⟨_, _, h0, h1, h2⟩, _⟩ := h
  omega
theorem f82all {x : Pk × Int × FansT × Unit} {y : Unit} {Q : Int → Prop} (h : f82_wp x y Q) : f82n_wp (x.1.1.length + 1) x y Q := by
  obtain ⟨⟨a, b, h0, h1⟩, h2⟩ := h
  exact ⟨⟨a, b, h0, h1, by omega⟩, h2⟩
theorem ok82n : ∀ n : Nat, CallsOK Try.prog (assoc glT) 97 f97_ct → CallsOK Try.prog (assoc glT) 98 f98_ct → CallsOK Try.prog (assoc glT) 99 f99_ct → CallsOK Try.prog (assoc glT) 82 (f82n_ct n)
  | 0, _, _, _ => ⟨enters_of Try.func82 (by kernel_rfl) rfl, fun X W x y vs cs _ _ _ _ Q h => (f82z (y := y) h).elim⟩
  | n + 1, h97, h98, h99 => callsOK_mkM [] st_ok mp_ok it_ok mk_ok in_ok (AllOK.cons (ok82n n h97 h98 h99) (AllOK.cons h97 (AllOK.cons h98 (AllOK.cons h99 AllOK.nil)))) f82_an Try.func82 (by kernel_rfl) (by kernel_rfl) (f82n_ct (n + 1)) fun ⟨p, i, f, _⟩ _ Q h => (V82E n p i f Q).mp (p82 h)
theorem ok82x (h97 : CallsOK Try.prog (assoc glT) 97 f97_ct) (h98 : CallsOK Try.prog (assoc glT) 98 f98_ct) (h99 : CallsOK Try.prog (assoc glT) 99 f99_ct) : CallsOK Try.prog (assoc glT) 82 f82_ct where
  enters := (ok82n 0 h97 h98 h99).enters
  calls := fun X W x y vs cs hX hg hv hc Q h => (ok82n (x.1.1.length + 1) h97 h98 h99).calls X W x y vs cs hX hg hv hc Q (f82all (y := y) h)
end Go.Proofs.Fa
set_option linter.unusedVariables false
set_option maxRecDepth 100000
namespace Go.Proofs.Fa
open Go Go.GX Go.Proofs

def V95 (p : List ((Int × Int × Int × Int) × (Int × Int × Int × Int) × Int × Int) × Kd.T k138) (f : Int × Int × Int × Int) (Q : List (List Int) → Prop) : Prop := f82_wp (p, (0 : Int), (Prod.fst f, Prod.fst (Prod.snd f), Prod.fst (Prod.snd (Prod.snd f)), Prod.snd (Prod.snd (Prod.snd f))), ()) () fun (r : Int) ↦ cnd (decide (r ≥ (1099511627776 : Int))) (Q ([] : List (List Int))) (List.length (Prod.fst p) ≤ (9223372036854775807 : Nat) → ∃ (I : Int → List (List Int) → Int → Int × Int × Int × Int → Prop), ∃ (μ : Int → List (List Int) → Int → Int × Int × Int × Int → Nat), I (0 : Int) ([] : List (List Int)) r (Prod.fst f, Prod.fst (Prod.snd f), Prod.fst (Prod.snd (Prod.snd f)), Prod.snd (Prod.snd (Prod.snd f))) ∧ ∀ (x : Int) (x_1 : List (List Int)) (x_2 : Int) (x_3 : Int × Int × Int × Int), I x x_1 x_2 x_3 → cnd (decide (x < (↑(List.length (Prod.fst p)) : Int))) ((0 : Int) ≤ x ∧ x < (↑(List.length (Prod.fst p)) : Int) ∧ (((0 : Int) ≤ Prod.fst x_3 ∧ Prod.fst x_3 ≤ (1000 : Int)) ∧ ((0 : Int) ≤ Prod.fst (Prod.snd x_3) ∧ Prod.fst (Prod.snd x_3) ≤ (1000 : Int)) ∧ ((0 : Int) ≤ Prod.fst (Prod.snd (Prod.snd x_3)) ∧ Prod.fst (Prod.snd (Prod.snd x_3)) ≤ (1000 : Int)) ∧ (0 : Int) ≤ Prod.snd (Prod.snd (Prod.snd x_3)) ∧ Prod.snd (Prod.snd (Prod.snd x_3)) ≤ (1000 : Int)) ∧ ∃ (I_1 : List (Int × Int × Int × Int) → List Int → Int × Int × Int × Int → Bool → Prop), I_1 ([] : List (Int × Int × Int × Int)) ([] : List Int) ((0 : Int), (0 : Int), (0 : Int), (0 : Int)) false ∧ (∀ (pre : List (Int × Int × Int × Int)) (x_4 : Int × Int × Int × Int) (rest : List (Int × Int × Int × Int)), Fa.upTo (Prod.fst x_3, Prod.fst (Prod.snd x_3), Prod.fst (Prod.snd (Prod.snd x_3)), Prod.snd (Prod.snd (Prod.snd x_3))) = pre ++ x_4 :: rest → ∀ (x_5 : List Int) (x_6 : Int × Int × Int × Int) (x_7 : Bool), I_1 pre x_5 x_6 x_7 → ∃ (r : Bool), (f97_wp (((Prod.fst (Prod.fst (List.getD (Prod.fst p) (Int.toNat x) (((0 : Int), (0 : Int), (0 : Int), (0 : Int)), ((0 : Int), (0 : Int), (0 : Int), (0 : Int)), (0 : Int), (0 : Int)))), Prod.fst (Prod.snd (Prod.fst (List.getD (Prod.fst p) (Int.toNat x) (((0 : Int), (0 : Int), (0 : Int), (0 : Int)), ((0 : Int), (0 : Int), (0 : Int), (0 : Int)), (0 : Int), (0 : Int))))), Prod.fst (Prod.snd (Prod.snd (Prod.fst (List.getD (Prod.fst p) (Int.toNat x) (((0 : Int), (0 : Int), (0 : Int), (0 : Int)), ((0 : Int), (0 : Int), (0 : Int), (0 : Int)), (0 : Int), (0 : Int)))))), Prod.snd (Prod.snd (Prod.snd (Prod.fst (List.getD (Prod.fst p) (Int.toNat x) (((0 : Int), (0 : Int), (0 : Int), (0 : Int)), ((0 : Int), (0 : Int), (0 : Int), (0 : Int)), (0 : Int), (0 : Int))))))), (Prod.fst (Prod.fst (Prod.snd (List.getD (Prod.fst p) (Int.toNat x) (((0 : Int), (0 : Int), (0 : Int), (0 : Int)), ((0 : Int), (0 : Int), (0 : Int), (0 : Int)), (0 : Int), (0 : Int))))), Prod.fst (Prod.snd (Prod.fst (Prod.snd (List.getD (Prod.fst p) (Int.toNat x) (((0 : Int), (0 : Int), (0 : Int), (0 : Int)), ((0 : Int), (0 : Int), (0 : Int), (0 : Int)), (0 : Int), (0 : Int)))))), Prod.fst (Prod.snd (Prod.snd (Prod.fst (Prod.snd (List.getD (Prod.fst p) (Int.toNat x) (((0 : Int), (0 : Int), (0 : Int), (0 : Int)), ((0 : Int), (0 : Int), (0 : Int), (0 : Int)), (0 : Int), (0 : Int))))))), Prod.snd (Prod.snd (Prod.snd (Prod.fst (Prod.snd (List.getD (Prod.fst p) (Int.toNat x) (((0 : Int), (0 : Int), (0 : Int), (0 : Int)), ((0 : Int), (0 : Int), (0 : Int), (0 : Int)), (0 : Int), (0 : Int)))))))), Prod.fst (Prod.snd (Prod.snd (List.getD (Prod.fst p) (Int.toNat x) (((0 : Int), (0 : Int), (0 : Int), (0 : Int)), ((0 : Int), (0 : Int), (0 : Int), (0 : Int)), (0 : Int), (0 : Int))))), Prod.snd (Prod.snd (Prod.snd (List.getD (Prod.fst p) (Int.toNat x) (((0 : Int), (0 : Int), (0 : Int), (0 : Int)), ((0 : Int), (0 : Int), (0 : Int), (0 : Int)), (0 : Int), (0 : Int)))))), (Prod.fst x_4, Prod.fst (Prod.snd x_4), Prod.fst (Prod.snd (Prod.snd x_4)), Prod.snd (Prod.snd (Prod.snd x_4))), ()) () fun (r' : Bool) ↦ r' = r) ∧ cnd (!r) (I_1 (pre ++ x_4 :: ([] : List (Int × Int × Int × Int))) x_5 (Prod.fst x_6, Prod.fst (Prod.snd x_6), Prod.fst (Prod.snd (Prod.snd x_6)), Prod.snd (Prod.snd (Prod.snd x_6))) x_7) (∃ (r : Int), (f98_wp (((Prod.fst (Prod.fst (List.getD (Prod.fst p) (Int.toNat x) (((0 : Int), (0 : Int), (0 : Int), (0 : Int)), ((0 : Int), (0 : Int), (0 : Int), (0 : Int)), (0 : Int), (0 : Int)))), Prod.fst (Prod.snd (Prod.fst (List.getD (Prod.fst p) (Int.toNat x) (((0 : Int), (0 : Int), (0 : Int), (0 : Int)), ((0 : Int), (0 : Int), (0 : Int), (0 : Int)), (0 : Int), (0 : Int))))), Prod.fst (Prod.snd (Prod.snd (Prod.fst (List.getD (Prod.fst p) (Int.toNat x) (((0 : Int), (0 : Int), (0 : Int), (0 : Int)), ((0 : Int), (0 : Int), (0 : Int), (0 : Int)), (0 : Int), (0 : Int)))))), Prod.snd (Prod.snd (Prod.snd (Prod.fst (List.getD (Prod.fst p) (Int.toNat x) (((0 : Int), (0 : Int), (0 : Int), (0 : Int)), ((0 : Int), (0 : Int), (0 : Int), (0 : Int)), (0 : Int), (0 : Int))))))), (Prod.fst (Prod.fst (Prod.snd (List.getD (Prod.fst p) (Int.toNat x) (((0 : Int), (0 : Int), (0 : Int), (0 : Int)), ((0 : Int), (0 : Int), (0 : Int), (0 : Int)), (0 : Int), (0 : Int))))), Prod.fst (Prod.snd (Prod.fst (Prod.snd (List.getD (Prod.fst p) (Int.toNat x) (((0 : Int), (0 : Int), (0 : Int), (0 : Int)), ((0 : Int), (0 : Int), (0 : Int), (0 : Int)), (0 : Int), (0 : Int)))))), Prod.fst (Prod.snd (Prod.snd (Prod.fst (Prod.snd (List.getD (Prod.fst p) (Int.toNat x) (((0 : Int), (0 : Int), (0 : Int), (0 : Int)), ((0 : Int), (0 : Int), (0 : Int), (0 : Int)), (0 : Int), (0 : Int))))))), Prod.snd (Prod.snd (Prod.snd (Prod.fst (Prod.snd (List.getD (Prod.fst p) (Int.toNat x) (((0 : Int), (0 : Int), (0 : Int), (0 : Int)), ((0 : Int), (0 : Int), (0 : Int), (0 : Int)), (0 : Int), (0 : Int)))))))), Prod.fst (Prod.snd (Prod.snd (List.getD (Prod.fst p) (Int.toNat x) (((0 : Int), (0 : Int), (0 : Int), (0 : Int)), ((0 : Int), (0 : Int), (0 : Int), (0 : Int)), (0 : Int), (0 : Int))))), Prod.snd (Prod.snd (Prod.snd (List.getD (Prod.fst p) (Int.toNat x) (((0 : Int), (0 : Int), (0 : Int), (0 : Int)), ((0 : Int), (0 : Int), (0 : Int), (0 : Int)), (0 : Int), (0 : Int)))))), (Prod.fst x_4, Prod.fst (Prod.snd x_4), Prod.fst (Prod.snd (Prod.snd x_4)), Prod.snd (Prod.snd (Prod.snd x_4))), ()) () fun (r' : Int) ↦ r' = r) ∧ ∃ (r_1 : Int × Int × Int × Int), (f99_wp ((Prod.fst x_3, Prod.fst (Prod.snd x_3), Prod.fst (Prod.snd (Prod.snd x_3)), Prod.snd (Prod.snd (Prod.snd x_3))), (Prod.fst x_4, Prod.fst (Prod.snd x_4), Prod.fst (Prod.snd (Prod.snd x_4)), Prod.snd (Prod.snd (Prod.snd x_4))), ()) () fun (r' : Int × Int × Int × Int) ↦ r' = r_1) ∧ ∃ (r_2 : Int), (f82_wp (p, IntKind.wrap IntKind.i64 (x + (1 : Int)), (Prod.fst r_1, Prod.fst (Prod.snd r_1), Prod.fst (Prod.snd (Prod.snd r_1)), Prod.snd (Prod.snd (Prod.snd r_1))), ()) () fun (r' : Int) ↦ r' = r_2) ∧ cnd (IntKind.wrap IntKind.i64 (r + r_2) != x_2) (I_1 (pre ++ x_4 :: ([] : List (Int × Int × Int × Int))) x_5 (Prod.fst x_6, Prod.fst (Prod.snd x_6), Prod.fst (Prod.snd (Prod.snd x_6)), Prod.snd (Prod.snd (Prod.snd x_6))) x_7) (f105_wp (Prod.fst x_4, Prod.fst (Prod.snd x_4), Prod.fst (Prod.snd (Prod.snd x_4)), Prod.snd (Prod.snd (Prod.snd x_4))) () fun (r : List Int) ↦ cnd (!x_7) (I_1 (pre ++ x_4 :: ([] : List (Int × Int × Int × Int))) r (Prod.fst x_4, Prod.fst (Prod.snd x_4), Prod.fst (Prod.snd (Prod.snd x_4)), Prod.snd (Prod.snd (Prod.snd x_4))) true) (f89_wp (r, x_5, ()) () fun (r_3 : Int) ↦ cnd (decide (r_3 < (0 : Int))) (I_1 (pre ++ x_4 :: ([] : List (Int × Int × Int × Int))) r (Prod.fst x_4, Prod.fst (Prod.snd x_4), Prod.fst (Prod.snd (Prod.snd x_4)), Prod.snd (Prod.snd (Prod.snd x_4))) true) (I_1 (pre ++ x_4 :: ([] : List (Int × Int × Int × Int))) x_5 (Prod.fst x_6, Prod.fst (Prod.snd x_6), Prod.fst (Prod.snd (Prod.snd x_6)), Prod.snd (Prod.snd (Prod.snd x_6))) x_7))))) ∧ ∀ (x_4 : List Int) (x_5 : Int × Int × Int × Int) (x_6 : Bool), I_1 (Fa.upTo (Prod.fst x_3, Prod.fst (Prod.snd x_3), Prod.fst (Prod.snd (Prod.snd x_3)), Prod.snd (Prod.snd (Prod.snd x_3)))) x_4 x_5 x_6 → (List.length x_1 + List.length (x_4 :: ([] : List (List Int)))) * (24 : Nat) ≤ (140737488355328 : Nat) ∧ ∃ (r : Int), (f98_wp (((Prod.fst (Prod.fst (List.getD (Prod.fst p) (Int.toNat x) (((0 : Int), (0 : Int), (0 : Int), (0 : Int)), ((0 : Int), (0 : Int), (0 : Int), (0 : Int)), (0 : Int), (0 : Int)))), Prod.fst (Prod.snd (Prod.fst (List.getD (Prod.fst p) (Int.toNat x) (((0 : Int), (0 : Int), (0 : Int), (0 : Int)), ((0 : Int), (0 : Int), (0 : Int), (0 : Int)), (0 : Int), (0 : Int))))), Prod.fst (Prod.snd (Prod.snd (Prod.fst (List.getD (Prod.fst p) (Int.toNat x) (((0 : Int), (0 : Int), (0 : Int), (0 : Int)), ((0 : Int), (0 : Int), (0 : Int), (0 : Int)), (0 : Int), (0 : Int)))))), Prod.snd (Prod.snd (Prod.snd (Prod.fst (List.getD (Prod.fst p) (Int.toNat x) (((0 : Int), (0 : Int), (0 : Int), (0 : Int)), ((0 : Int), (0 : Int), (0 : Int), (0 : Int)), (0 : Int), (0 : Int))))))), (Prod.fst (Prod.fst (Prod.snd (List.getD (Prod.fst p) (Int.toNat x) (((0 : Int), (0 : Int), (0 : Int), (0 : Int)), ((0 : Int), (0 : Int), (0 : Int), (0 : Int)), (0 : Int), (0 : Int))))), Prod.fst (Prod.snd (Prod.fst (Prod.snd (List.getD (Prod.fst p) (Int.toNat x) (((0 : Int), (0 : Int), (0 : Int), (0 : Int)), ((0 : Int), (0 : Int), (0 : Int), (0 : Int)), (0 : Int), (0 : Int)))))), Prod.fst (Prod.snd (Prod.snd (Prod.fst (Prod.snd (List.getD (Prod.fst p) (Int.toNat x) (((0 : Int), (0 : Int), (0 : Int), (0 : Int)), ((0 : Int), (0 : Int), (0 : Int), (0 : Int)), (0 : Int), (0 : Int))))))), Prod.snd (Prod.snd (Prod.snd (Prod.fst (Prod.snd (List.getD (Prod.fst p) (Int.toNat x) (((0 : Int), (0 : Int), (0 : Int), (0 : Int)), ((0 : Int), (0 : Int), (0 : Int), (0 : Int)), (0 : Int), (0 : Int)))))))), Prod.fst (Prod.snd (Prod.snd (List.getD (Prod.fst p) (Int.toNat x) (((0 : Int), (0 : Int), (0 : Int), (0 : Int)), ((0 : Int), (0 : Int), (0 : Int), (0 : Int)), (0 : Int), (0 : Int))))), Prod.snd (Prod.snd (Prod.snd (List.getD (Prod.fst p) (Int.toNat x) (((0 : Int), (0 : Int), (0 : Int), (0 : Int)), ((0 : Int), (0 : Int), (0 : Int), (0 : Int)), (0 : Int), (0 : Int)))))), (Prod.fst x_5, Prod.fst (Prod.snd x_5), Prod.fst (Prod.snd (Prod.snd x_5)), Prod.snd (Prod.snd (Prod.snd x_5))), ()) () fun (r' : Int) ↦ r' = r) ∧ ∃ (r_1 : Int × Int × Int × Int), (f99_wp ((Prod.fst x_3, Prod.fst (Prod.snd x_3), Prod.fst (Prod.snd (Prod.snd x_3)), Prod.snd (Prod.snd (Prod.snd x_3))), (Prod.fst x_5, Prod.fst (Prod.snd x_5), Prod.fst (Prod.snd (Prod.snd x_5)), Prod.snd (Prod.snd (Prod.snd x_5))), ()) () fun (r' : Int × Int × Int × Int) ↦ r' = r_1) ∧ I (IntKind.wrap IntKind.i64 (x + (1 : Int))) (x_1 ++ x_4 :: ([] : List (List Int))) (IntKind.wrap IntKind.i64 (x_2 - r)) (Prod.fst r_1, Prod.fst (Prod.snd r_1), Prod.fst (Prod.snd (Prod.snd r_1)), Prod.snd (Prod.snd (Prod.snd r_1))) ∧ μ (IntKind.wrap IntKind.i64 (x + (1 : Int))) (x_1 ++ x_4 :: ([] : List (List Int))) (IntKind.wrap IntKind.i64 (x_2 - r)) (Prod.fst r_1, Prod.fst (Prod.snd r_1), Prod.fst (Prod.snd (Prod.snd r_1)), Prod.snd (Prod.snd (Prod.snd r_1))) < μ x x_1 x_2 x_3) (Q x_1))
theorem v95 (p : List ((Int × Int × Int × Int) × (Int × Int × Int × Int) × Int × Int) × Kd.T k138) (f : Int × Int × Int × Int) (Q : List (List Int) → Prop) : V95 p f Q = vcFunc (S0 [(82, f82_ct), (97, f97_ct), (98, f98_ct), (99, f99_ct), (105, f105_ct), (89, f89_ct)] []) f95_ct.own f95_ct.fresh f95_an Try.f95 (bodyOf Try.f95) f95_ct.A f95_ct.C f95_ct.R (p, f, ()) () Q := by kernel_rfl

def V67 (bs : List ((Int × Int × Int × Int) × (Int × Int × Int × Int) × Int × Int)) (f : Int × Int × Int × Int) (Q : List (List Int) × Int × Unit → Prop) : Prop := f81_wp bs () fun (r : List ((Int × Int × Int × Int) × (Int × Int × Int × Int) × Int × Int) × Kd.T k138) ↦ f82_wp (r, (0 : Int), (Prod.fst f, Prod.fst (Prod.snd f), Prod.fst (Prod.snd (Prod.snd f)), Prod.snd (Prod.snd (Prod.snd f))), ()) () fun (r_1 : Int) ↦ cnd (decide (r_1 ≥ (1099511627776 : Int))) (Q (([] : List (List Int)), (9 : Int), ())) (f95_wp (r, (Prod.fst f, Prod.fst (Prod.snd f), Prod.fst (Prod.snd (Prod.snd f)), Prod.snd (Prod.snd (Prod.snd f))), ()) () fun (r : List (List Int)) ↦ Q (r, (0 : Int), ()))
theorem v67 (bs : List ((Int × Int × Int × Int) × (Int × Int × Int × Int) × Int × Int)) (f : Int × Int × Int × Int) (Q : List (List Int) × Int × Unit → Prop) : V67 bs f Q = vcFunc (S0 [(81, f81_ct), (82, f82_ct), (95, f95_ct)] []) f67_ct.own f67_ct.fresh no_an Try.f67 (bodyOf Try.f67) f67_ct.A f67_ct.C f67_ct.R (bs, f, ()) () Q := by kernel_rfl

def V102 (f : Int × Int × Int × Int) (p : List ((Int × Int × Int × Int) × (Int × Int × Int × Int) × Int × Int) × Kd.T k138) (q : List ((Int × Int × Int × Int) × (Int × Int × Int × Int) × Int × Int) × Kd.T k138) (Q : Bool → Prop) : Prop := f82_wp (p, (0 : Int), (Prod.fst f, Prod.fst (Prod.snd f), Prod.fst (Prod.snd (Prod.snd f)), Prod.snd (Prod.snd (Prod.snd f))), ()) () fun (r : Int) ↦ cnd (decide (r < (1099511627776 : Int))) (f82_wp (q, (0 : Int), (Prod.fst f, Prod.fst (Prod.snd f), Prod.fst (Prod.snd (Prod.snd f)), Prod.snd (Prod.snd (Prod.snd f))), ()) () fun (r : Int) ↦ Q (decide (r < (1099511627776 : Int)))) (Q false)
theorem v102 (f : Int × Int × Int × Int) (p : List ((Int × Int × Int × Int) × (Int × Int × Int × Int) × Int × Int) × Kd.T k138) (q : List ((Int × Int × Int × Int) × (Int × Int × Int × Int) × Int × Int) × Kd.T k138) (Q : Bool → Prop) : V102 f p q Q = vcFunc (S0 [(82, f82_ct)] []) f102_ct.own f102_ct.fresh no_an Try.f102 (bodyOf Try.f102) f102_ct.A f102_ct.C f102_ct.R f (p, q, ()) Q := by kernel_rfl

def V86 (x : (List Int × Int × List (Int × Int)) × List ((Int × Int) × Int × Int) × Int × Int × Int × Int) (Q : (Int × Int × Int × Int → (Bool → Prop) → Prop) → Prop) : Prop := ∃ (r : List ((Int × Int × Int × Int) × (Int × Int × Int × Int) × Int × Int)), (f68_wp (((Prod.fst (Prod.fst x), Prod.fst (Prod.snd (Prod.fst x)), Prod.snd (Prod.snd (Prod.fst x))), Prod.fst (Prod.snd x), Prod.fst (Prod.snd (Prod.snd x)), Prod.fst (Prod.snd (Prod.snd (Prod.snd x))), Prod.fst (Prod.snd (Prod.snd (Prod.snd (Prod.snd x)))), Prod.snd (Prod.snd (Prod.snd (Prod.snd (Prod.snd x))))), (0 : Int), (0 : Int), ()) () fun (r' : List ((Int × Int × Int × Int) × (Int × Int × Int × Int) × Int × Int)) ↦ r' = r) ∧ ∃ (r_1 : List ((Int × Int × Int × Int) × (Int × Int × Int × Int) × Int × Int) × Kd.T k138), (f81_wp r () fun (r' : List ((Int × Int × Int × Int) × (Int × Int × Int × Int) × Int × Int) × Kd.T k138) ↦ r' = r_1) ∧ ∃ (r : List ((Int × Int × Int × Int) × (Int × Int × Int × Int) × Int × Int)), (f77_wp ((Prod.fst (Prod.fst x), Prod.fst (Prod.snd (Prod.fst x)), Prod.snd (Prod.snd (Prod.fst x))), Prod.fst (Prod.snd x), Prod.fst (Prod.snd (Prod.snd x)), Prod.fst (Prod.snd (Prod.snd (Prod.snd x))), Prod.fst (Prod.snd (Prod.snd (Prod.snd (Prod.snd x)))), Prod.snd (Prod.snd (Prod.snd (Prod.snd (Prod.snd x))))) () fun (r' : List ((Int × Int × Int × Int) × (Int × Int × Int × Int) × Int × Int)) ↦ r' = r) ∧ ∃ (r_2 : List ((Int × Int × Int × Int) × (Int × Int × Int × Int) × Int × Int) × Kd.T k138), (f81_wp r () fun (r' : List ((Int × Int × Int × Int) × (Int × Int × Int × Int) × Int × Int) × Kd.T k138) ↦ r' = r_2) ∧ Q fun (x : Int × Int × Int × Int) (Q : Bool → Prop) ↦ f102_wp x (r_1, r_2, ()) fun (r : Bool) ↦ Q r
theorem v86 (x : (List Int × Int × List (Int × Int)) × List ((Int × Int) × Int × Int) × Int × Int × Int × Int) (Q : (Int × Int × Int × Int → (Bool → Prop) → Prop) → Prop) : V86 x Q = vcFunc (S0 [(68, f68_ct), (81, f81_ct), (77, f77_ct), (102, f102_ct)] []) f86_ct.own f86_ct.fresh no_an Try.f86 (bodyOf Try.f86) f86_ct.A f86_ct.C f86_ct.R x () Q := by kernel_rfl

def V21 (s : List Int × Int × List (Int × Int)) (f : List ((Int × Int) × Int × Int)) (Q : List (List Int) × Int × Unit → Prop) : Prop := f20_wp ((Prod.fst s, Prod.fst (Prod.snd s), Prod.snd (Prod.snd s)), f, ()) () fun (r : Int) ↦ cnd (r != (0 : Int)) (Q (([] : List (List Int)), r, ())) (f65_wp ((Prod.fst s, Prod.fst (Prod.snd s), Prod.snd (Prod.snd s)), f, fun (x : Int × Int) (Q : Int → Prop) ↦ f66_wp x () fun (r : Int) ↦ Q r, ()) () fun (r : (List Int × Int × List (Int × Int)) × List ((Int × Int) × Int × Int) × Int × Int × Int × Int) ↦ ∃ (r_1 : List ((Int × Int × Int × Int) × (Int × Int × Int × Int) × Int × Int)), (f68_wp (((Prod.fst (Prod.fst r), Prod.fst (Prod.snd (Prod.fst r)), Prod.snd (Prod.snd (Prod.fst r))), Prod.fst (Prod.snd r), Prod.fst (Prod.snd (Prod.snd r)), Prod.fst (Prod.snd (Prod.snd (Prod.snd r))), Prod.fst (Prod.snd (Prod.snd (Prod.snd (Prod.snd r)))), Prod.snd (Prod.snd (Prod.snd (Prod.snd (Prod.snd r))))), (0 : Int), (1 : Int), ()) () fun (r' : List ((Int × Int × Int × Int) × (Int × Int × Int × Int) × Int × Int)) ↦ r' = r_1) ∧ ∃ (r_2 : Int × Int × Int × Int), (f69_wp ((Prod.fst (Prod.fst r), Prod.fst (Prod.snd (Prod.fst r)), Prod.snd (Prod.snd (Prod.fst r))), Prod.fst (Prod.snd r), Prod.fst (Prod.snd (Prod.snd r)), Prod.fst (Prod.snd (Prod.snd (Prod.snd r))), Prod.fst (Prod.snd (Prod.snd (Prod.snd (Prod.snd r)))), Prod.snd (Prod.snd (Prod.snd (Prod.snd (Prod.snd r))))) () fun (r' : Int × Int × Int × Int) ↦ r' = r_2) ∧ ∃ (r : List (List Int) × Int × Unit), (f67_wp (r_1, (Prod.fst r_2, Prod.fst (Prod.snd r_2), Prod.fst (Prod.snd (Prod.snd r_2)), Prod.snd (Prod.snd (Prod.snd r_2))), ()) () fun (r' : List (List Int) × Int × Unit) ↦ r' = r) ∧ Q (Prod.fst r, Prod.fst (Prod.snd r), ()))
theorem v21 (s : List Int × Int × List (Int × Int)) (f : List ((Int × Int) × Int × Int)) (Q : List (List Int) × Int × Unit → Prop) : V21 s f Q = vcFunc (S0 [(20, f20_ct), (65, f65_ct), (66, f66_ct), (68, f68_ct), (69, f69_ct), (67, f67_ct)] []) f21_ct.own f21_ct.fresh no_an Try.f21 (bodyOf Try.f21) f21_ct.A f21_ct.C f21_ct.R (s, f, ()) () Q := by kernel_rfl

def V29 (s : List Int × Int × List (Int × Int)) (f : List ((Int × Int) × Int × Int)) (Q : List (List Int) × Int × Unit → Prop) : Prop := f20_wp ((Prod.fst s, Prod.fst (Prod.snd s), Prod.snd (Prod.snd s)), f, ()) () fun (r : Int) ↦ cnd (r != (0 : Int)) (Q (([] : List (List Int)), r, ())) (f65_wp ((Prod.fst s, Prod.fst (Prod.snd s), Prod.snd (Prod.snd s)), f, fun (x : Int × Int) (Q : Int → Prop) ↦ f66_wp x () fun (r : Int) ↦ Q r, ()) () fun (r : (List Int × Int × List (Int × Int)) × List ((Int × Int) × Int × Int) × Int × Int × Int × Int) ↦ ∃ (r_1 : List ((Int × Int × Int × Int) × (Int × Int × Int × Int) × Int × Int)), (f77_wp ((Prod.fst (Prod.fst r), Prod.fst (Prod.snd (Prod.fst r)), Prod.snd (Prod.snd (Prod.fst r))), Prod.fst (Prod.snd r), Prod.fst (Prod.snd (Prod.snd r)), Prod.fst (Prod.snd (Prod.snd (Prod.snd r))), Prod.fst (Prod.snd (Prod.snd (Prod.snd (Prod.snd r)))), Prod.snd (Prod.snd (Prod.snd (Prod.snd (Prod.snd r))))) () fun (r' : List ((Int × Int × Int × Int) × (Int × Int × Int × Int) × Int × Int)) ↦ r' = r_1) ∧ ∃ (r_2 : Int × Int × Int × Int), (f69_wp ((Prod.fst (Prod.fst r), Prod.fst (Prod.snd (Prod.fst r)), Prod.snd (Prod.snd (Prod.fst r))), Prod.fst (Prod.snd r), Prod.fst (Prod.snd (Prod.snd r)), Prod.fst (Prod.snd (Prod.snd (Prod.snd r))), Prod.fst (Prod.snd (Prod.snd (Prod.snd (Prod.snd r)))), Prod.snd (Prod.snd (Prod.snd (Prod.snd (Prod.snd r))))) () fun (r' : Int × Int × Int × Int) ↦ r' = r_2) ∧ ∃ (r : List (List Int) × Int × Unit), (f67_wp (r_1, (Prod.fst r_2, Prod.fst (Prod.snd r_2), Prod.fst (Prod.snd (Prod.snd r_2)), Prod.snd (Prod.snd (Prod.snd r_2))), ()) () fun (r' : List (List Int) × Int × Unit) ↦ r' = r) ∧ Q (Prod.fst r, Prod.fst (Prod.snd r), ()))
theorem v29 (s : List Int × Int × List (Int × Int)) (f : List ((Int × Int) × Int × Int)) (Q : List (List Int) × Int × Unit → Prop) : V29 s f Q = vcFunc (S0 [(20, f20_ct), (65, f65_ct), (66, f66_ct), (77, f77_ct), (69, f69_ct), (67, f67_ct)] []) f29_ct.own f29_ct.fresh no_an Try.f29 (bodyOf Try.f29) f29_ct.A f29_ct.C f29_ct.R (s, f, ()) () Q := by kernel_rfl

def V50 (s : List Int × Int × List (Int × Int)) (f : List ((Int × Int) × Int × Int)) (Q : List Int × Int × Unit → Prop) : Prop := f20_wp ((Prod.fst s, Prod.fst (Prod.snd s), Prod.snd (Prod.snd s)), f, ()) () fun (r : Int) ↦ cnd (r != (0 : Int)) (Q (([] : List Int), r, ())) (f65_wp ((Prod.fst s, Prod.fst (Prod.snd s), Prod.snd (Prod.snd s)), f, fun (x : Int × Int) (Q : Int → Prop) ↦ f66_wp x () fun (r : Int) ↦ Q r, ()) () fun (r : (List Int × Int × List (Int × Int)) × List ((Int × Int) × Int × Int) × Int × Int × Int × Int) ↦ f86_wp ((Prod.fst (Prod.fst r), Prod.fst (Prod.snd (Prod.fst r)), Prod.snd (Prod.snd (Prod.fst r))), Prod.fst (Prod.snd r), Prod.fst (Prod.snd (Prod.snd r)), Prod.fst (Prod.snd (Prod.snd (Prod.snd r))), Prod.fst (Prod.snd (Prod.snd (Prod.snd (Prod.snd r)))), Prod.snd (Prod.snd (Prod.snd (Prod.snd (Prod.snd r))))) () fun (r_1 : Int × Int × Int × Int → (Bool → Prop) → Prop) ↦ f69_wp ((Prod.fst (Prod.fst r), Prod.fst (Prod.snd (Prod.fst r)), Prod.snd (Prod.snd (Prod.fst r))), Prod.fst (Prod.snd r), Prod.fst (Prod.snd (Prod.snd r)), Prod.fst (Prod.snd (Prod.snd (Prod.snd r))), Prod.fst (Prod.snd (Prod.snd (Prod.snd (Prod.snd r)))), Prod.snd (Prod.snd (Prod.snd (Prod.snd (Prod.snd r))))) () fun (r : Int × Int × Int × Int) ↦ (((0 : Int) ≤ Prod.fst r ∧ Prod.fst r ≤ (1000 : Int)) ∧ ((0 : Int) ≤ Prod.fst (Prod.snd r) ∧ Prod.fst (Prod.snd r) ≤ (1000 : Int)) ∧ ((0 : Int) ≤ Prod.fst (Prod.snd (Prod.snd r)) ∧ Prod.fst (Prod.snd (Prod.snd r)) ≤ (1000 : Int)) ∧ (0 : Int) ≤ Prod.snd (Prod.snd (Prod.snd r)) ∧ Prod.snd (Prod.snd (Prod.snd r)) ≤ (1000 : Int)) ∧ ∃ (I : List (Int × Int × Int × Int) → Int × Int × Int × Int → Prop), I ([] : List (Int × Int × Int × Int)) ((0 : Int), (0 : Int), (0 : Int), (0 : Int)) ∧ (∀ (pre : List (Int × Int × Int × Int)) (x : Int × Int × Int × Int) (rest : List (Int × Int × Int × Int)), Fa.upTo (Prod.fst r, Prod.fst (Prod.snd r), Prod.fst (Prod.snd (Prod.snd r)), Prod.snd (Prod.snd (Prod.snd r))) = pre ++ x :: rest → ∀ (x_1 : Int × Int × Int × Int), I pre x_1 → ∃ (r : Int), (f80_wp (Prod.fst x, Prod.fst (Prod.snd x), Prod.fst (Prod.snd (Prod.snd x)), Prod.snd (Prod.snd (Prod.snd x))) () fun (r' : Int) ↦ r' = r) ∧ ∃ (r_2 : Int), (f80_wp (Prod.fst x_1, Prod.fst (Prod.snd x_1), Prod.fst (Prod.snd (Prod.snd x_1)), Prod.snd (Prod.snd (Prod.snd x_1))) () fun (r' : Int) ↦ r' = r_2) ∧ cnd (decide (r < r_2)) (I (pre ++ x :: ([] : List (Int × Int × Int × Int))) (Prod.fst x_1, Prod.fst (Prod.snd x_1), Prod.fst (Prod.snd (Prod.snd x_1)), Prod.snd (Prod.snd (Prod.snd x_1)))) (cnd (r == r_2) ((0 : Int) ≤ (0 : Int) ∧ (0 : Int) ≤ (↑(4 : Nat) : Int) ∧ (↑(4 : Nat) : Int) ≤ (↑(4 : Nat) : Int) ∧ (0 : Int) ≤ (0 : Int) ∧ (0 : Int) ≤ (↑(4 : Nat) : Int) ∧ (↑(4 : Nat) : Int) ≤ (↑(4 : Nat) : Int) ∧ ∃ (r : Int), (f89_wp (List.drop (Int.toNat (0 : Int)) (List.take (Int.toNat (↑(4 : Nat) : Int)) (Prod.fst x :: Prod.fst (Prod.snd x) :: Prod.fst (Prod.snd (Prod.snd x)) :: Prod.snd (Prod.snd (Prod.snd x)) :: ([] : List Int))), List.drop (Int.toNat (0 : Int)) (List.take (Int.toNat (↑(4 : Nat) : Int)) (Prod.fst x_1 :: Prod.fst (Prod.snd x_1) :: Prod.fst (Prod.snd (Prod.snd x_1)) :: Prod.snd (Prod.snd (Prod.snd x_1)) :: ([] : List Int))), ()) () fun (r' : Int) ↦ r' = r) ∧ cnd (decide (r ≤ (0 : Int))) (I (pre ++ x :: ([] : List (Int × Int × Int × Int))) (Prod.fst x_1, Prod.fst (Prod.snd x_1), Prod.fst (Prod.snd (Prod.snd x_1)), Prod.snd (Prod.snd (Prod.snd x_1)))) (∃ (r : Bool), (r_1 (Prod.fst x, Prod.fst (Prod.snd x), Prod.fst (Prod.snd (Prod.snd x)), Prod.snd (Prod.snd (Prod.snd x))) fun (r' : Bool) ↦ r' = r) ∧ cnd (!r) (I (pre ++ x :: ([] : List (Int × Int × Int × Int))) (Prod.fst x_1, Prod.fst (Prod.snd x_1), Prod.fst (Prod.snd (Prod.snd x_1)), Prod.snd (Prod.snd (Prod.snd x_1)))) (I (pre ++ x :: ([] : List (Int × Int × Int × Int))) (Prod.fst x, Prod.fst (Prod.snd x), Prod.fst (Prod.snd (Prod.snd x)), Prod.snd (Prod.snd (Prod.snd x)))))) (∃ (r : Bool), (r_1 (Prod.fst x, Prod.fst (Prod.snd x), Prod.fst (Prod.snd (Prod.snd x)), Prod.snd (Prod.snd (Prod.snd x))) fun (r' : Bool) ↦ r' = r) ∧ cnd (!r) (I (pre ++ x :: ([] : List (Int × Int × Int × Int))) (Prod.fst x_1, Prod.fst (Prod.snd x_1), Prod.fst (Prod.snd (Prod.snd x_1)), Prod.snd (Prod.snd (Prod.snd x_1)))) (I (pre ++ x :: ([] : List (Int × Int × Int × Int))) (Prod.fst x, Prod.fst (Prod.snd x), Prod.fst (Prod.snd (Prod.snd x)), Prod.snd (Prod.snd (Prod.snd x))))))) ∧ ∀ (x : Int × Int × Int × Int), I (Fa.upTo (Prod.fst r, Prod.fst (Prod.snd r), Prod.fst (Prod.snd (Prod.snd r)), Prod.snd (Prod.snd (Prod.snd r)))) x → List.length f ≤ (9223372036854775807 : Nat) → (0 : Int) ≤ (0 : Int) ∧ (0 : Int) ≤ (↑(List.length f) : Int) ∧ (↑(List.length f) : Int) ≤ (↑(4 : Nat) : Int) ∧ f79_wp (List.drop (Int.toNat (0 : Int)) (List.take (Int.toNat (↑(List.length f) : Int)) (Prod.fst x :: Prod.fst (Prod.snd x) :: Prod.fst (Prod.snd (Prod.snd x)) :: Prod.snd (Prod.snd (Prod.snd x)) :: ([] : List Int)))) () fun (r : List Int) ↦ Q (r, (0 : Int), ()))
theorem v50 (s : List Int × Int × List (Int × Int)) (f : List ((Int × Int) × Int × Int)) (Q : List Int × Int × Unit → Prop) : V50 s f Q = vcFunc (S0 [(20, f20_ct), (65, f65_ct), (66, f66_ct), (86, f86_ct), (69, f69_ct), (80, f80_ct), (89, f89_ct), (79, f79_ct)] []) f50_ct.own f50_ct.fresh f50_an Try.f50 (bodyOf Try.f50) f50_ct.A f50_ct.C f50_ct.R (s, f, ()) () Q := by kernel_rfl

def V31 (s : List Int × Int × List (Int × Int)) (f : List ((Int × Int) × Int × Int)) (p : Int) (Q : Int × Int × Unit → Prop) : Prop := f20_wp ((Prod.fst s, Prod.fst (Prod.snd s), Prod.snd (Prod.snd s)), f, ()) () fun (r : Int) ↦ cnd (r != (0 : Int)) (Q ((0 : Int), r, ())) (f78_wp p () fun (r : Bool) ↦ cnd (!r) (Q ((0 : Int), (7 : Int), ())) (f65_wp ((Prod.fst s, Prod.fst (Prod.snd s), Prod.snd (Prod.snd s)), f, fun (x : Int × Int) (Q : Int → Prop) ↦ f66_wp x () fun (r : Int) ↦ Q r, ()) () fun (r : (List Int × Int × List (Int × Int)) × List ((Int × Int) × Int × Int) × Int × Int × Int × Int) ↦ f79_wp (Prod.fst s) () fun (r_1 : List Int) ↦ f69_wp ((r_1, Prod.fst (Prod.snd (Prod.fst r)), Prod.snd (Prod.snd (Prod.fst r))), Prod.fst (Prod.snd r), Prod.fst (Prod.snd (Prod.snd r)), Prod.fst (Prod.snd (Prod.snd (Prod.snd r))), Prod.fst (Prod.snd (Prod.snd (Prod.snd (Prod.snd r)))), Prod.snd (Prod.snd (Prod.snd (Prod.snd (Prod.snd r))))) () fun (r_2 : Int × Int × Int × Int) ↦ f80_wp (Prod.fst r_2, Prod.fst (Prod.snd r_2), Prod.fst (Prod.snd (Prod.snd r_2)), Prod.snd (Prod.snd (Prod.snd r_2))) () fun (r_3 : Int) ↦ ∃ (I : Int → List Int × Int × List (Int × Int) × List ((Int × Int) × Int × Int) × Int × Int × Int × Int → Prop), ∃ (μ : Int → List Int × Int × List (Int × Int) × List ((Int × Int) × Int × Int) × Int × Int × Int × Int → Nat), I (0 : Int) (r_1, Prod.fst (Prod.snd (Prod.fst r)), Prod.snd (Prod.snd (Prod.fst r)), Prod.fst (Prod.snd r), Prod.fst (Prod.snd (Prod.snd r)), Prod.fst (Prod.snd (Prod.snd (Prod.snd r))), Prod.fst (Prod.snd (Prod.snd (Prod.snd (Prod.snd r)))), Prod.snd (Prod.snd (Prod.snd (Prod.snd (Prod.snd r))))) ∧ ∀ (x : Int) (x_1 : List Int × Int × List (Int × Int) × List ((Int × Int) × Int × Int) × Int × Int × Int × Int), I x x_1 → cnd (decide (x < IntKind.wrap IntKind.i64 (r_3 + (1 : Int)))) (∃ (r : List ((Int × Int × Int × Int) × (Int × Int × Int × Int) × Int × Int)), (f68_wp (((Prod.fst x_1, Prod.fst (Prod.snd x_1), Prod.fst (Prod.snd (Prod.snd x_1))), Prod.fst (Prod.snd (Prod.snd (Prod.snd x_1))), Prod.fst (Prod.snd (Prod.snd (Prod.snd (Prod.snd x_1)))), Prod.fst (Prod.snd (Prod.snd (Prod.snd (Prod.snd (Prod.snd x_1))))), Prod.fst (Prod.snd (Prod.snd (Prod.snd (Prod.snd (Prod.snd (Prod.snd x_1)))))), Prod.snd (Prod.snd (Prod.snd (Prod.snd (Prod.snd (Prod.snd (Prod.snd x_1))))))), (0 : Int), (0 : Int), ()) () fun (r' : List ((Int × Int × Int × Int) × (Int × Int × Int × Int) × Int × Int)) ↦ r' = r) ∧ ∃ (r_4 : List ((Int × Int × Int × Int) × (Int × Int × Int × Int) × Int × Int) × Kd.T k138), (f81_wp r () fun (r' : List ((Int × Int × Int × Int) × (Int × Int × Int × Int) × Int × Int) × Kd.T k138) ↦ r' = r_4) ∧ ∃ (r : Int × Int × Int × Int), (f69_wp ((Prod.fst x_1, Prod.fst (Prod.snd x_1), Prod.fst (Prod.snd (Prod.snd x_1))), Prod.fst (Prod.snd (Prod.snd (Prod.snd x_1))), Prod.fst (Prod.snd (Prod.snd (Prod.snd (Prod.snd x_1)))), Prod.fst (Prod.snd (Prod.snd (Prod.snd (Prod.snd (Prod.snd x_1))))), Prod.fst (Prod.snd (Prod.snd (Prod.snd (Prod.snd (Prod.snd (Prod.snd x_1)))))), Prod.snd (Prod.snd (Prod.snd (Prod.snd (Prod.snd (Prod.snd (Prod.snd x_1))))))) () fun (r' : Int × Int × Int × Int) ↦ r' = r) ∧ ∃ (r_5 : Int), (f82_wp (r_4, (0 : Int), (Prod.fst r, Prod.fst (Prod.snd r), Prod.fst (Prod.snd (Prod.snd r)), Prod.snd (Prod.snd (Prod.snd r))), ()) () fun (r' : Int) ↦ r' = r_5) ∧ cnd (decide (r_5 < (1099511627776 : Int))) (Q (x, (0 : Int), ())) ((List.length (Prod.fst x_1) + List.length (p :: ([] : List Int))) * (8 : Nat) ≤ (140737488355328 : Nat) ∧ I (IntKind.wrap IntKind.i64 (x + (1 : Int))) (Prod.fst x_1 ++ p :: ([] : List Int), Prod.fst (Prod.snd x_1), Prod.fst (Prod.snd (Prod.snd x_1)), Prod.fst (Prod.snd (Prod.snd (Prod.snd x_1))), Prod.fst (Prod.snd (Prod.snd (Prod.snd (Prod.snd x_1)))), Prod.fst (Prod.snd (Prod.snd (Prod.snd (Prod.snd (Prod.snd x_1))))), Prod.fst (Prod.snd (Prod.snd (Prod.snd (Prod.snd (Prod.snd (Prod.snd x_1)))))), Prod.snd (Prod.snd (Prod.snd (Prod.snd (Prod.snd (Prod.snd (Prod.snd x_1))))))) ∧ μ (IntKind.wrap IntKind.i64 (x + (1 : Int))) (Prod.fst x_1 ++ p :: ([] : List Int), Prod.fst (Prod.snd x_1), Prod.fst (Prod.snd (Prod.snd x_1)), Prod.fst (Prod.snd (Prod.snd (Prod.snd x_1))), Prod.fst (Prod.snd (Prod.snd (Prod.snd (Prod.snd x_1)))), Prod.fst (Prod.snd (Prod.snd (Prod.snd (Prod.snd (Prod.snd x_1))))), Prod.fst (Prod.snd (Prod.snd (Prod.snd (Prod.snd (Prod.snd (Prod.snd x_1)))))), Prod.snd (Prod.snd (Prod.snd (Prod.snd (Prod.snd (Prod.snd (Prod.snd x_1))))))) < μ x x_1)) (Q ((0 : Int), (9 : Int), ()))))
theorem v31 (s : List Int × Int × List (Int × Int)) (f : List ((Int × Int) × Int × Int)) (p : Int) (Q : Int × Int × Unit → Prop) : V31 s f p Q = vcFunc (S0 [(20, f20_ct), (78, f78_ct), (65, f65_ct), (66, f66_ct), (79, f79_ct), (69, f69_ct), (80, f80_ct), (68, f68_ct), (81, f81_ct), (82, f82_ct)] []) f31_ct.own f31_ct.fresh f31_an Try.f31 (bodyOf Try.f31) f31_ct.A f31_ct.C f31_ct.R (s, f, p, ()) () Q := by kernel_rfl

def V34 (s : List Int × Int × List (Int × Int)) (f : List ((Int × Int) × Int × Int)) (p : Int) (Q : Int × Int × Int × Unit → Prop) : Prop := f20_wp ((Prod.fst s, Prod.fst (Prod.snd s), Prod.snd (Prod.snd s)), f, ()) () fun (r : Int) ↦ cnd (r != (0 : Int)) (Q ((0 : Int), (0 : Int), r, ())) (f78_wp p () fun (r : Bool) ↦ cnd (!r) (Q ((0 : Int), (0 : Int), (7 : Int), ())) (∃ (r : (List Int × Int × List (Int × Int)) × List ((Int × Int) × Int × Int) × Int × Int × Int × Int), (f65_wp ((Prod.fst s, Prod.fst (Prod.snd s), Prod.snd (Prod.snd s)), f, fun (x : Int × Int) (Q : Int → Prop) ↦ f66_wp x () fun (r : Int) ↦ Q r, ()) () fun (r' : (List Int × Int × List (Int × Int)) × List ((Int × Int) × Int × Int) × Int × Int × Int × Int) ↦ r' = r) ∧ (List.length f ≤ (9223372036854775807 : Nat) → ∃ (I : Int → Int → Int → Prop), ∃ (μ : Int → Int → Int → Nat), I (0 : Int) (0 : Int) (0 : Int) ∧ ∀ (x x_1 x_2 : Int), I x x_1 x_2 → cnd (decide (x < (↑(List.length f) : Int))) (f69_wp ((Prod.fst (Prod.fst r), Prod.fst (Prod.snd (Prod.fst r)), Prod.snd (Prod.snd (Prod.fst r))), Prod.fst (Prod.snd r), Prod.fst (Prod.snd (Prod.snd r)), Prod.fst (Prod.snd (Prod.snd (Prod.snd r))), Prod.fst (Prod.snd (Prod.snd (Prod.snd (Prod.snd r)))), Prod.snd (Prod.snd (Prod.snd (Prod.snd (Prod.snd r))))) () fun (r_1 : Int × Int × Int × Int) ↦ ∃ (I_1 : Int → Int → Prop), ∃ (μ_1 : Int → Int → Nat), I_1 (0 : Int) (0 : Int) ∧ ∀ (x_3 x_4 : Int), I_1 x_3 x_4 → cnd (decide (x_3 < (4 : Int))) ((0 : Int) ≤ x_3 ∧ x_3 < (↑(4 : Nat) : Int) ∧ (0 : Int) ≤ x_3 ∧ x_3 < (↑(4 : Nat) : Int) ∧ (0 : Int) ≤ x ∧ x < (↑(4 : Nat) : Int) ∧ cnd (decide (List.getD (Prod.fst (Prod.snd (Prod.snd r)) :: Prod.fst (Prod.snd (Prod.snd (Prod.snd r))) :: Prod.fst (Prod.snd (Prod.snd (Prod.snd (Prod.snd r)))) :: Prod.snd (Prod.snd (Prod.snd (Prod.snd (Prod.snd r)))) :: ([] : List Int)) (Int.toNat x_3) (Prod.fst (Prod.snd (Prod.snd r))) ≥ List.getD (Prod.fst (Prod.snd (Prod.snd r)) :: Prod.fst (Prod.snd (Prod.snd (Prod.snd r))) :: Prod.fst (Prod.snd (Prod.snd (Prod.snd (Prod.snd r)))) :: Prod.snd (Prod.snd (Prod.snd (Prod.snd (Prod.snd r)))) :: ([] : List Int)) (Int.toNat x) (Prod.fst (Prod.snd (Prod.snd r))))) ((0 : Int) ≤ x_3 ∧ x_3 < (↑(4 : Nat) : Int) ∧ I_1 (IntKind.wrap IntKind.i64 (x_3 + (1 : Int))) (IntKind.wrap IntKind.i64 (x_4 + IntKind.wrap IntKind.i64 (List.getD (Prod.fst r_1 :: Prod.fst (Prod.snd r_1) :: Prod.fst (Prod.snd (Prod.snd r_1)) :: Prod.snd (Prod.snd (Prod.snd r_1)) :: ([] : List Int)) (Int.toNat x_3) (Prod.fst r_1) * IntKind.wrap IntKind.i64 (List.getD (Prod.fst (Prod.snd (Prod.snd r)) :: Prod.fst (Prod.snd (Prod.snd (Prod.snd r))) :: Prod.fst (Prod.snd (Prod.snd (Prod.snd (Prod.snd r)))) :: Prod.snd (Prod.snd (Prod.snd (Prod.snd (Prod.snd r)))) :: ([] : List Int)) (Int.toNat x_3) (Prod.fst (Prod.snd (Prod.snd r))) + Prod.fst (Prod.snd s))))) ∧ μ_1 (IntKind.wrap IntKind.i64 (x_3 + (1 : Int))) (IntKind.wrap IntKind.i64 (x_4 + IntKind.wrap IntKind.i64 (List.getD (Prod.fst r_1 :: Prod.fst (Prod.snd r_1) :: Prod.fst (Prod.snd (Prod.snd r_1)) :: Prod.snd (Prod.snd (Prod.snd r_1)) :: ([] : List Int)) (Int.toNat x_3) (Prod.fst r_1) * IntKind.wrap IntKind.i64 (List.getD (Prod.fst (Prod.snd (Prod.snd r)) :: Prod.fst (Prod.snd (Prod.snd (Prod.snd r))) :: Prod.fst (Prod.snd (Prod.snd (Prod.snd (Prod.snd r)))) :: Prod.snd (Prod.snd (Prod.snd (Prod.snd (Prod.snd r)))) :: ([] : List Int)) (Int.toNat x_3) (Prod.fst (Prod.snd (Prod.snd r))) + Prod.fst (Prod.snd s))))) < μ_1 x_3 x_4) (I_1 (IntKind.wrap IntKind.i64 (x_3 + (1 : Int))) x_4 ∧ μ_1 (IntKind.wrap IntKind.i64 (x_3 + (1 : Int))) x_4 < μ_1 x_3 x_4)) (List.length (Prod.fst s) ≤ (9223372036854775807 : Nat) → ∃ (I_2 : Int → Int → Prop), ∃ (μ_2 : Int → Int → Nat), I_2 (0 : Int) x_4 ∧ ∀ (x_5 x_6 : Int), I_2 x_5 x_6 → cnd (decide (x_5 < (↑(List.length (Prod.fst s)) : Int))) ((0 : Int) ≤ x_5 ∧ x_5 < (↑(List.length (Prod.fst s)) : Int) ∧ (0 : Int) ≤ x ∧ x < (↑(4 : Nat) : Int) ∧ cnd (decide (List.getD (Prod.fst s) (Int.toNat x_5) (0 : Int) ≥ List.getD (Prod.fst (Prod.snd (Prod.snd r)) :: Prod.fst (Prod.snd (Prod.snd (Prod.snd r))) :: Prod.fst (Prod.snd (Prod.snd (Prod.snd (Prod.snd r)))) :: Prod.snd (Prod.snd (Prod.snd (Prod.snd (Prod.snd r)))) :: ([] : List Int)) (Int.toNat x) (Prod.fst (Prod.snd (Prod.snd r))))) (I_2 (IntKind.wrap IntKind.i64 (x_5 + (1 : Int))) (IntKind.wrap IntKind.i64 (x_6 - IntKind.wrap IntKind.i64 (List.getD (Prod.fst s) (Int.toNat x_5) (0 : Int) + Prod.fst (Prod.snd s)))) ∧ μ_2 (IntKind.wrap IntKind.i64 (x_5 + (1 : Int))) (IntKind.wrap IntKind.i64 (x_6 - IntKind.wrap IntKind.i64 (List.getD (Prod.fst s) (Int.toNat x_5) (0 : Int) + Prod.fst (Prod.snd s)))) < μ_2 x_5 x_6) (I_2 (IntKind.wrap IntKind.i64 (x_5 + (1 : Int))) x_6 ∧ μ_2 (IntKind.wrap IntKind.i64 (x_5 + (1 : Int))) x_6 < μ_2 x_5 x_6)) (IntKind.wrap IntKind.i64 (p + Prod.fst (Prod.snd s)) ≠ (0 : Int) ∧ cnd (decide (IntKind.wrap IntKind.i64 (Int.tdiv (IntKind.wrap IntKind.i64 (IntKind.wrap IntKind.i64 (mxI (0 : Int) x_6 + IntKind.wrap IntKind.i64 (p + Prod.fst (Prod.snd s))) - (1 : Int))) (IntKind.wrap IntKind.i64 (p + Prod.fst (Prod.snd s)))) > x_1)) (I (IntKind.wrap IntKind.i64 (x + (1 : Int))) (IntKind.wrap IntKind.i64 (Int.tdiv (IntKind.wrap IntKind.i64 (IntKind.wrap IntKind.i64 (mxI (0 : Int) x_6 + IntKind.wrap IntKind.i64 (p + Prod.fst (Prod.snd s))) - (1 : Int))) (IntKind.wrap IntKind.i64 (p + Prod.fst (Prod.snd s))))) x ∧ μ (IntKind.wrap IntKind.i64 (x + (1 : Int))) (IntKind.wrap IntKind.i64 (Int.tdiv (IntKind.wrap IntKind.i64 (IntKind.wrap IntKind.i64 (mxI (0 : Int) x_6 + IntKind.wrap IntKind.i64 (p + Prod.fst (Prod.snd s))) - (1 : Int))) (IntKind.wrap IntKind.i64 (p + Prod.fst (Prod.snd s))))) x < μ x x_1 x_2) (I (IntKind.wrap IntKind.i64 (x + (1 : Int))) x_1 x_2 ∧ μ (IntKind.wrap IntKind.i64 (x + (1 : Int))) x_1 x_2 < μ x x_1 x_2)))) (Q (x_1, x_2, (0 : Int), ())))))
theorem v34 (s : List Int × Int × List (Int × Int)) (f : List ((Int × Int) × Int × Int)) (p : Int) (Q : Int × Int × Int × Unit → Prop) : V34 s f p Q = vcFunc (S0 [(20, f20_ct), (78, f78_ct), (65, f65_ct), (66, f66_ct), (69, f69_ct)] []) f34_ct.own f34_ct.fresh f34_an Try.f34 (bodyOf Try.f34) f34_ct.A f34_ct.C f34_ct.R (s, f, p, ()) () Q := by kernel_rfl

def V83 (l : List Int) (f : List ((Int × Int) × Int × Int)) (Q : Bool → Prop) : Prop := List.length f ≤ (9223372036854775807 : Nat) → f58_wp ((0 : Int), IntKind.wrap IntKind.i64 ((↑(List.length f) : Int) - (1 : Int)), l, ()) () fun (r : Bool) ↦ cnd (!r) (Q true) (f84_wp l () fun (r : Bool) ↦ Q !r)
theorem v83 (l : List Int) (f : List ((Int × Int) × Int × Int)) (Q : Bool → Prop) : V83 l f Q = vcFunc (S0 [(58, f58_ct), (84, f84_ct)] []) f83_ct.own f83_ct.fresh no_an Try.f83 (bodyOf Try.f83) f83_ct.A f83_ct.C f83_ct.R l (f, ()) Q := by kernel_rfl

def V36 (s : List Int × Int × List (Int × Int)) (f : List ((Int × Int) × Int × Int)) (c : List (List Int)) (Q : List Int × Int × Unit → Prop) : Prop := f20_wp ((Prod.fst s, Prod.fst (Prod.snd s), Prod.snd (Prod.snd s)), f, ()) () fun (r : Int) ↦ cnd (r != (0 : Int)) (Q (([] : List Int), r, ())) (List.length c ≤ (9223372036854775807 : Nat) → List.length (Prod.fst s) ≤ (9223372036854775807 : Nat) → cnd ((↑(List.length c) : Int) != (↑(List.length (Prod.fst s)) : Int)) (Q (([] : List Int), (7 : Int), ())) (f85_wp (c, fun (x : List Int) (Q : Bool → Prop) ↦ f83_wp x (f, ()) fun (r : Bool) ↦ Q r, ()) () fun (r : Bool) ↦ cnd r (Q (([] : List Int), (7 : Int), ())) (List.length c ≤ (9223372036854775807 : Nat) → ∃ (I : Int → List Int → Prop), ∃ (μ : Int → List Int → Nat), I (0 : Int) ([] : List Int) ∧ ∀ (x : Int) (x_1 : List Int), I x x_1 → cnd (decide (x < (↑(List.length c) : Int))) ((0 : Int) ≤ x ∧ x < (↑(List.length c) : Int) ∧ (0 : Int) ≤ x ∧ x < (↑(List.length (Prod.fst s)) : Int) ∧ (List.length (List.getD c (Int.toNat x) ([] : List Int)) ≤ (9223372036854775807 : Nat) → ∃ (I_1 : Int → Int → List Int → Prop), ∃ (μ_1 : Int → Int → List Int → Nat), I_1 (0 : Int) (List.getD (Prod.fst s) (Int.toNat x) (0 : Int)) x_1 ∧ ∀ (x_2 x_3 : Int) (x_4 : List Int), I_1 x_2 x_3 x_4 → cnd (decide (x_2 < (↑(List.length (List.getD c (Int.toNat x) ([] : List Int))) : Int))) ((0 : Int) ≤ x_2 ∧ x_2 < (↑(List.length (List.getD c (Int.toNat x) ([] : List Int))) : Int) ∧ (0 : Int) ≤ List.getD (List.getD c (Int.toNat x) ([] : List Int)) (Int.toNat x_2) (0 : Int) ∧ List.getD (List.getD c (Int.toNat x) ([] : List Int)) (Int.toNat x_2) (0 : Int) < (↑(List.length f) : Int) ∧ cnd (decide (x_2 > (0 : Int))) (cnd (decide (IntKind.wrap IntKind.i64 (IntKind.wrap IntKind.i64 (x_3 - Prod.snd (Prod.fst (List.getD f (Int.toNat (List.getD (List.getD c (Int.toNat x) ([] : List Int)) (Int.toNat x_2) (0 : Int))) (((0 : Int), (0 : Int)), (0 : Int), (0 : Int))))) - Prod.fst (Prod.snd s)) < (0 : Int))) (Q (([] : List Int), (9 : Int), ())) (I_1 (IntKind.wrap IntKind.i64 (x_2 + (1 : Int))) (IntKind.wrap IntKind.i64 (IntKind.wrap IntKind.i64 (x_3 - Prod.snd (Prod.fst (List.getD f (Int.toNat (List.getD (List.getD c (Int.toNat x) ([] : List Int)) (Int.toNat x_2) (0 : Int))) (((0 : Int), (0 : Int)), (0 : Int), (0 : Int))))) - Prod.fst (Prod.snd s))) x_4 ∧ μ_1 (IntKind.wrap IntKind.i64 (x_2 + (1 : Int))) (IntKind.wrap IntKind.i64 (IntKind.wrap IntKind.i64 (x_3 - Prod.snd (Prod.fst (List.getD f (Int.toNat (List.getD (List.getD c (Int.toNat x) ([] : List Int)) (Int.toNat x_2) (0 : Int))) (((0 : Int), (0 : Int)), (0 : Int), (0 : Int))))) - Prod.fst (Prod.snd s))) x_4 < μ_1 x_2 x_3 x_4)) (cnd (decide (IntKind.wrap IntKind.i64 (x_3 - Prod.snd (Prod.fst (List.getD f (Int.toNat (List.getD (List.getD c (Int.toNat x) ([] : List Int)) (Int.toNat x_2) (0 : Int))) (((0 : Int), (0 : Int)), (0 : Int), (0 : Int))))) < (0 : Int))) (Q (([] : List Int), (9 : Int), ())) (I_1 (IntKind.wrap IntKind.i64 (x_2 + (1 : Int))) (IntKind.wrap IntKind.i64 (x_3 - Prod.snd (Prod.fst (List.getD f (Int.toNat (List.getD (List.getD c (Int.toNat x) ([] : List Int)) (Int.toNat x_2) (0 : Int))) (((0 : Int), (0 : Int)), (0 : Int), (0 : Int)))))) x_4 ∧ μ_1 (IntKind.wrap IntKind.i64 (x_2 + (1 : Int))) (IntKind.wrap IntKind.i64 (x_3 - Prod.snd (Prod.fst (List.getD f (Int.toNat (List.getD (List.getD c (Int.toNat x) ([] : List Int)) (Int.toNat x_2) (0 : Int))) (((0 : Int), (0 : Int)), (0 : Int), (0 : Int)))))) x_4 < μ_1 x_2 x_3 x_4))) (List.length (List.getD c (Int.toNat x) ([] : List Int)) ≤ (9223372036854775807 : Nat) → cnd (decide ((↑(List.length (List.getD c (Int.toNat x) ([] : List Int))) : Int) > (0 : Int))) ((List.length x_4 + List.length (mxI (0 : Int) (IntKind.wrap IntKind.i64 (x_3 - Prod.fst (Prod.snd s))) :: ([] : List Int))) * (8 : Nat) ≤ (140737488355328 : Nat) ∧ I (IntKind.wrap IntKind.i64 (x + (1 : Int))) (x_4 ++ mxI (0 : Int) (IntKind.wrap IntKind.i64 (x_3 - Prod.fst (Prod.snd s))) :: ([] : List Int)) ∧ μ (IntKind.wrap IntKind.i64 (x + (1 : Int))) (x_4 ++ mxI (0 : Int) (IntKind.wrap IntKind.i64 (x_3 - Prod.fst (Prod.snd s))) :: ([] : List Int)) < μ x x_1) ((List.length x_4 + List.length (x_3 :: ([] : List Int))) * (8 : Nat) ≤ (140737488355328 : Nat) ∧ I (IntKind.wrap IntKind.i64 (x + (1 : Int))) (x_4 ++ x_3 :: ([] : List Int)) ∧ μ (IntKind.wrap IntKind.i64 (x + (1 : Int))) (x_4 ++ x_3 :: ([] : List Int)) < μ x x_1)))) (Q (x_1, (0 : Int), ())))))
theorem v36 (s : List Int × Int × List (Int × Int)) (f : List ((Int × Int) × Int × Int)) (c : List (List Int)) (Q : List Int × Int × Unit → Prop) : V36 s f c Q = vcFunc (S0 [(20, f20_ct), (83, f83_ct), (85, f85_ct)] []) f36_ct.own f36_ct.fresh f36_an Try.f36 (bodyOf Try.f36) f36_ct.A f36_ct.C f36_ct.R (s, f, c, ()) () Q := by kernel_rfl

def V39 (s : List Int × Int × List (Int × Int)) (f : List ((Int × Int) × Int × Int)) (Q : Int × Int × Int × Unit → Prop) : Prop := f20_wp ((Prod.fst s, Prod.fst (Prod.snd s), Prod.snd (Prod.snd s)), f, ()) () fun (r : Int) ↦ cnd (r != (0 : Int)) (Q ((0 : Int), (0 : Int), r, ())) (f65_wp ((Prod.fst s, Prod.fst (Prod.snd s), Prod.snd (Prod.snd s)), f, fun (x : Int × Int) (Q : Int → Prop) ↦ f66_wp x () fun (r : Int) ↦ Q r, ()) () fun (r : (List Int × Int × List (Int × Int)) × List ((Int × Int) × Int × Int) × Int × Int × Int × Int) ↦ ∃ (r_1 : List ((Int × Int × Int × Int) × (Int × Int × Int × Int) × Int × Int)), (f68_wp (((Prod.fst (Prod.fst r), Prod.fst (Prod.snd (Prod.fst r)), Prod.snd (Prod.snd (Prod.fst r))), Prod.fst (Prod.snd r), Prod.fst (Prod.snd (Prod.snd r)), Prod.fst (Prod.snd (Prod.snd (Prod.snd r))), Prod.fst (Prod.snd (Prod.snd (Prod.snd (Prod.snd r)))), Prod.snd (Prod.snd (Prod.snd (Prod.snd (Prod.snd r))))), Prod.fst (Prod.snd s), IntKind.wrap IntKind.i64 (Int.sub (0 : Int) (Prod.fst (Prod.snd s))), ()) () fun (r' : List ((Int × Int × Int × Int) × (Int × Int × Int × Int) × Int × Int)) ↦ r' = r_1) ∧ ∃ (r_2 : List ((Int × Int × Int × Int) × (Int × Int × Int × Int) × Int × Int) × Kd.T k138), (f81_wp r_1 () fun (r' : List ((Int × Int × Int × Int) × (Int × Int × Int × Int) × Int × Int) × Kd.T k138) ↦ r' = r_2) ∧ ∃ (r_3 : Int × Int × Int × Int), (f69_wp ((Prod.fst (Prod.fst r), Prod.fst (Prod.snd (Prod.fst r)), Prod.snd (Prod.snd (Prod.fst r))), Prod.fst (Prod.snd r), Prod.fst (Prod.snd (Prod.snd r)), Prod.fst (Prod.snd (Prod.snd (Prod.snd r))), Prod.fst (Prod.snd (Prod.snd (Prod.snd (Prod.snd r)))), Prod.snd (Prod.snd (Prod.snd (Prod.snd (Prod.snd r))))) () fun (r' : Int × Int × Int × Int) ↦ r' = r_3) ∧ ∃ (r_4 : Int), (f82_wp (r_2, (0 : Int), (Prod.fst r_3, Prod.fst (Prod.snd r_3), Prod.fst (Prod.snd (Prod.snd r_3)), Prod.snd (Prod.snd (Prod.snd r_3))), ()) () fun (r' : Int) ↦ r' = r_4) ∧ ∃ (r_5 : List ((Int × Int × Int × Int) × (Int × Int × Int × Int) × Int × Int)), (f77_wp ((Prod.fst (Prod.fst r), Prod.fst (Prod.snd (Prod.fst r)), Prod.snd (Prod.snd (Prod.fst r))), Prod.fst (Prod.snd r), Prod.fst (Prod.snd (Prod.snd r)), Prod.fst (Prod.snd (Prod.snd (Prod.snd r))), Prod.fst (Prod.snd (Prod.snd (Prod.snd (Prod.snd r)))), Prod.snd (Prod.snd (Prod.snd (Prod.snd (Prod.snd r))))) () fun (r' : List ((Int × Int × Int × Int) × (Int × Int × Int × Int) × Int × Int)) ↦ r' = r_5) ∧ ∃ (r_6 : List ((Int × Int × Int × Int) × (Int × Int × Int × Int) × Int × Int) × Kd.T k138), (f81_wp r_5 () fun (r' : List ((Int × Int × Int × Int) × (Int × Int × Int × Int) × Int × Int) × Kd.T k138) ↦ r' = r_6) ∧ ∃ (r_7 : Int × Int × Int × Int), (f69_wp ((Prod.fst (Prod.fst r), Prod.fst (Prod.snd (Prod.fst r)), Prod.snd (Prod.snd (Prod.fst r))), Prod.fst (Prod.snd r), Prod.fst (Prod.snd (Prod.snd r)), Prod.fst (Prod.snd (Prod.snd (Prod.snd r))), Prod.fst (Prod.snd (Prod.snd (Prod.snd (Prod.snd r)))), Prod.snd (Prod.snd (Prod.snd (Prod.snd (Prod.snd r))))) () fun (r' : Int × Int × Int × Int) ↦ r' = r_7) ∧ ∃ (r : Int), (f82_wp (r_6, (0 : Int), (Prod.fst r_7, Prod.fst (Prod.snd r_7), Prod.fst (Prod.snd (Prod.snd r_7)), Prod.snd (Prod.snd (Prod.snd r_7))), ()) () fun (r' : Int) ↦ r' = r) ∧ cnd (decide (r_4 ≥ (549755813888 : Int))) (Q ((0 : Int), (0 : Int), (9 : Int), ())) (cnd (decide (r ≥ (1099511627776 : Int))) (Q ((0 : Int), (0 : Int), (9 : Int), ())) (Q (r_4, r, (0 : Int), ()))))
theorem v39 (s : List Int × Int × List (Int × Int)) (f : List ((Int × Int) × Int × Int)) (Q : Int × Int × Int × Unit → Prop) : V39 s f Q = vcFunc (S0 [(20, f20_ct), (65, f65_ct), (66, f66_ct), (68, f68_ct), (81, f81_ct), (69, f69_ct), (82, f82_ct), (77, f77_ct)] []) f39_ct.own f39_ct.fresh no_an Try.f39 (bodyOf Try.f39) f39_ct.A f39_ct.C f39_ct.R (s, f, ()) () Q := by kernel_rfl

def V41 (s : List Int × Int × List (Int × Int)) (f : List ((Int × Int) × Int × Int)) (k : Int) (Q : Int × Int × Unit → Prop) : Prop := f20_wp ((Prod.fst s, Prod.fst (Prod.snd s), Prod.snd (Prod.snd s)), f, ()) () fun (r : Int) ↦ cnd (r != (0 : Int)) (Q ((0 : Int), r, ())) (List.length f ≤ (9223372036854775807 : Nat) → f58_wp ((0 : Int), IntKind.wrap IntKind.i64 ((↑(List.length f) : Int) - (1 : Int)), k :: ([] : List Int), ()) () fun (r : Bool) ↦ cnd (!r) (Q ((0 : Int), (7 : Int), ())) (∃ (I : Int → Prop), ∃ (μ : Int → Nat), I (40 : Int) ∧ ∀ (x : Int), I x → cnd (decide (x ≥ (2 : Int))) (f65_wp ((Prod.fst s, Prod.fst (Prod.snd s), Prod.snd (Prod.snd s)), f, fun (x : Int × Int) (Q : Int → Prop) ↦ f66_wp x () fun (r : Int) ↦ Q r, ()) () fun (r : (List Int × Int × List (Int × Int)) × List ((Int × Int) × Int × Int) × Int × Int × Int × Int) ↦ (0 : Int) ≤ k ∧ k < (↑(4 : Nat) : Int) ∧ ∃ (r_1 : Int × Int × Int × Int → (Bool → Prop) → Prop), (f86_wp ((Prod.fst (Prod.fst r), Prod.fst (Prod.snd (Prod.fst r)), Prod.snd (Prod.snd (Prod.fst r))), Prod.fst (Prod.snd r), List.getD (List.set (Prod.fst (Prod.snd (Prod.snd r)) :: Prod.fst (Prod.snd (Prod.snd (Prod.snd r))) :: Prod.fst (Prod.snd (Prod.snd (Prod.snd (Prod.snd r)))) :: Prod.snd (Prod.snd (Prod.snd (Prod.snd (Prod.snd r)))) :: ([] : List Int)) (Int.toNat k) x) (nat_lit 0) x, List.getD (List.set (Prod.fst (Prod.snd (Prod.snd r)) :: Prod.fst (Prod.snd (Prod.snd (Prod.snd r))) :: Prod.fst (Prod.snd (Prod.snd (Prod.snd (Prod.snd r)))) :: Prod.snd (Prod.snd (Prod.snd (Prod.snd (Prod.snd r)))) :: ([] : List Int)) (Int.toNat k) x) (nat_lit 1) x, List.getD (List.set (Prod.fst (Prod.snd (Prod.snd r)) :: Prod.fst (Prod.snd (Prod.snd (Prod.snd r))) :: Prod.fst (Prod.snd (Prod.snd (Prod.snd (Prod.snd r)))) :: Prod.snd (Prod.snd (Prod.snd (Prod.snd (Prod.snd r)))) :: ([] : List Int)) (Int.toNat k) x) (nat_lit 2) x, List.getD (List.set (Prod.fst (Prod.snd (Prod.snd r)) :: Prod.fst (Prod.snd (Prod.snd (Prod.snd r))) :: Prod.fst (Prod.snd (Prod.snd (Prod.snd (Prod.snd r)))) :: Prod.snd (Prod.snd (Prod.snd (Prod.snd (Prod.snd r)))) :: ([] : List Int)) (Int.toNat k) x) (nat_lit 3) x) () fun (r' : Int × Int × Int × Int → (Bool → Prop) → Prop) ↦ r' = r_1) ∧ ∃ (r_2 : Int × Int × Int × Int), (f69_wp ((Prod.fst (Prod.fst r), Prod.fst (Prod.snd (Prod.fst r)), Prod.snd (Prod.snd (Prod.fst r))), Prod.fst (Prod.snd r), List.getD (List.set (Prod.fst (Prod.snd (Prod.snd r)) :: Prod.fst (Prod.snd (Prod.snd (Prod.snd r))) :: Prod.fst (Prod.snd (Prod.snd (Prod.snd (Prod.snd r)))) :: Prod.snd (Prod.snd (Prod.snd (Prod.snd (Prod.snd r)))) :: ([] : List Int)) (Int.toNat k) x) (nat_lit 0) x, List.getD (List.set (Prod.fst (Prod.snd (Prod.snd r)) :: Prod.fst (Prod.snd (Prod.snd (Prod.snd r))) :: Prod.fst (Prod.snd (Prod.snd (Prod.snd (Prod.snd r)))) :: Prod.snd (Prod.snd (Prod.snd (Prod.snd (Prod.snd r)))) :: ([] : List Int)) (Int.toNat k) x) (nat_lit 1) x, List.getD (List.set (Prod.fst (Prod.snd (Prod.snd r)) :: Prod.fst (Prod.snd (Prod.snd (Prod.snd r))) :: Prod.fst (Prod.snd (Prod.snd (Prod.snd (Prod.snd r)))) :: Prod.snd (Prod.snd (Prod.snd (Prod.snd (Prod.snd r)))) :: ([] : List Int)) (Int.toNat k) x) (nat_lit 2) x, List.getD (List.set (Prod.fst (Prod.snd (Prod.snd r)) :: Prod.fst (Prod.snd (Prod.snd (Prod.snd r))) :: Prod.fst (Prod.snd (Prod.snd (Prod.snd (Prod.snd r)))) :: Prod.snd (Prod.snd (Prod.snd (Prod.snd (Prod.snd r)))) :: ([] : List Int)) (Int.toNat k) x) (nat_lit 3) x) () fun (r' : Int × Int × Int × Int) ↦ r' = r_2) ∧ ∃ (r : Bool), (r_1 (Prod.fst r_2, Prod.fst (Prod.snd r_2), Prod.fst (Prod.snd (Prod.snd r_2)), Prod.snd (Prod.snd (Prod.snd r_2))) fun (r' : Bool) ↦ r' = r) ∧ cnd r (Q (x, (0 : Int), ())) (I (IntKind.wrap IntKind.i64 (x - (1 : Int))) ∧ μ (IntKind.wrap IntKind.i64 (x - (1 : Int))) < μ x)) (Q ((0 : Int), (9 : Int), ()))))
theorem v41 (s : List Int × Int × List (Int × Int)) (f : List ((Int × Int) × Int × Int)) (k : Int) (Q : Int × Int × Unit → Prop) : V41 s f k Q = vcFunc (S0 [(20, f20_ct), (58, f58_ct), (65, f65_ct), (66, f66_ct), (86, f86_ct), (69, f69_ct)] []) f41_ct.own f41_ct.fresh f41_an Try.f41 (bodyOf Try.f41) f41_ct.A f41_ct.C f41_ct.R (s, f, k, ()) () Q := by kernel_rfl

end Go.Proofs.Fa
set_option linter.unusedVariables false
namespace Go.Proofs.Fa
open Go Go.GX Go.Proofs

theorem inB_iff {a b n : Int} : inB a b n = true ↔ a ≤ n ∧ n ≤ b := by simp [inB]
theorem all_iff {p : Int → Bool} {l : List Int} : l.all p = true ↔ ∀ x, x ∈ l → p x = true := List.all_eq_true

structure VOK (s : Store) (f : List Spring) : Prop where
  n6 : s.1.length ≤ 6
  n5 : s.2.2.length ≤ 5
  lv : ∀ l, l ∈ s.1 → 1 ≤ l ∧ l ≤ 200
  sm : 0 ≤ s.2.1 ∧ s.2.1 ≤ 10
  lt : ∀ l, l ∈ s.2.2 → (1 ≤ l.1 ∧ l.1 ≤ 200) ∧ (0 ≤ l.2 ∧ l.2 ≤ 200)
  f1 : 1 ≤ f.length
  f4 : f.length ≤ 4
  sp : ∀ s, s ∈ f → (2 ≤ s.1.1 ∧ s.1.1 ≤ s.1.2 ∧ s.1.2 ≤ 40) ∧ (0 ≤ s.2.1 ∧ s.2.1 ≤ 4) ∧ (1 ≤ s.2.2 ∧ s.2.2 ≤ 200)
theorem not_false_eq {b : Bool} (h : ¬ b = false) : b = true := by cases b <;> simp_all
theorem vok_of {s : Store} {f : List Spring} (h : checkF s f = 0) : VOK s f := by
  unfold checkF at h
  split at h
  · cases h
  rename_i h1
  split at h
  · cases h
  rename_i h2
  split at h
  · cases h
  rename_i h3
  split at h
  · cases h
  rename_i h4
  simp only [not_or] at h1 h2
  obtain ⟨h2, h2b, h2c⟩ := h2
  have h2 := not_false_eq h2
  have h2b := not_false_eq h2b
  have h2c := not_false_eq h2c
  have h3 := not_false_eq h3
  have h4 := not_false_eq h4
  refine ⟨by omega, by omega, fun l hl => inB_iff.1 (all_iff.1 h2 l hl), inB_iff.1 h2b, fun l hl => ?_, by have := (inB_iff.1 h3).1; omega, by have := (inB_iff.1 h3).2; omega, fun x hx => ?_⟩
  · have := List.all_eq_true.1 h2c l hl
    simp only [isLotF, Bool.and_eq_true] at this
    exact ⟨inB_iff.1 this.1, inB_iff.1 this.2⟩
  · have := List.all_eq_true.1 h4 x hx
    simp only [isSprF, Bool.and_eq_true, decide_eq_true_eq] at this
    obtain ⟨⟨⟨⟨g1, g2⟩, g3⟩, g4⟩, g5⟩ := this
    have g1 := inB_iff.1 g1
    have g2 := inB_iff.1 g2
    exact ⟨⟨by omega, g3, by omega⟩, inB_iff.1 g4, inB_iff.1 g5⟩
theorem all4_tup {p : Int → Prop} {g : Nat → Int} (h : ∀ i, i < 4 → p (g i)) : all4 p (tup4 g) := ⟨h 0 (by omega), h 1 (by omega), h 2 (by omega), h 3 (by omega)⟩
theorem at4_tup (g : Nat → Int) : ∀ {k : Nat}, k < 4 → at4 (tup4 g) k = g k
  | 0, _ => rfl
  | 1, _ => rfl
  | 2, _ => rfl
  | 3, _ => rfl
  | k + 4, h => absurd h (by omega)
theorem VOK.getS {s : Store} {f : List Spring} (v : VOK s f) {i : Nat} (hi : i < f.length) : (2 ≤ (f.getD i ((0, 0), 0, 0)).1.1 ∧ (f.getD i ((0, 0), 0, 0)).1.1 ≤ (f.getD i ((0, 0), 0, 0)).1.2 ∧ (f.getD i ((0, 0), 0, 0)).1.2 ≤ 40) ∧ (0 ≤ (f.getD i ((0, 0), 0, 0)).2.1 ∧ (f.getD i ((0, 0), 0, 0)).2.1 ≤ 4) ∧ (1 ≤ (f.getD i ((0, 0), 0, 0)).2.2 ∧ (f.getD i ((0, 0), 0, 0)).2.2 ≤ 200) := v.sp _ (getD_mem hi)
theorem VOK.cH {s : Store} {f : List Spring} (v : VOK s f) : all4 (fun x => 0 ≤ x ∧ x ≤ 40) (cH f) := by
  unfold Fa.cH cntF
  refine all4_tup fun i _ => ?_
  show 0 ≤ (if i < f.length then _ else _) ∧ (if i < f.length then _ else _) ≤ 40
  split
  · rename_i h; have := v.getS h; simp only; omega
  · omega
theorem VOK.cL {s : Store} {f : List Spring} (v : VOK s f) : all4 (fun x => 0 ≤ x ∧ x ≤ 40) (cL f) := by
  unfold Fa.cL cntF
  refine all4_tup fun i _ => ?_
  show 0 ≤ (if i < f.length then _ else _) ∧ (if i < f.length then _ else _) ≤ 40
  split
  · rename_i h; have := v.getS h; simp only; omega
  · omega
theorem VOK.want4 {s : Store} {f : List Spring} (v : VOK s f) : all4 (fun x => 0 ≤ x ∧ x ≤ 4) (wantF f) := by
  unfold wantF
  refine all4_tup fun i _ => ?_
  show 0 ≤ (if i < f.length then _ else _) ∧ (if i < f.length then _ else _) ≤ 4
  split
  · rename_i h; have := v.getS h; omega
  · omega
theorem all4_mono {p q : Int → Prop} (h : ∀ x, p x → q x) {t : FansT} (ht : all4 p t) : all4 q t := ⟨h _ ht.1, h _ ht.2.1, h _ ht.2.2.1, h _ ht.2.2.2⟩
theorem VOK.want {s : Store} {f : List Spring} (v : VOK s f) : FOK (wantF f) := all4_mono (fun x h => ⟨h.1, by omega⟩) v.want4
theorem VOK.x {s : Store} {f : List Spring} (v : VOK s f) {c : FansT} (hc : all4 (fun x => 0 ≤ x ∧ x ≤ 40) c) : XOK (s, f, c) where
  n := v.f4
  nl := by have := v.n6; show s.1.length ≤ 500; omega
  nt := by have := v.n5; show s.2.2.length ≤ 500; omega
  lv := fun l hl => by have := v.lv l hl; constructor <;> omega
  sm := by have := v.sm; exact ⟨by show -400 ≤ s.2.1; omega, by show s.2.1 ≤ 400; omega⟩
  lt := fun l hl => by have := v.lt l hl; exact ⟨⟨by omega, by omega⟩, ⟨by omega, by omega⟩⟩
  sp := fun x hx => by have := v.sp x hx; constructor <;> omega
  ct := all4_mono (fun x h => ⟨by omega, by omega⟩) hc
theorem leaves_ok {ls : List Int} {seam : Int} {n : Nat} {c : FansT} {each first : Int} (hn : ls.length ≤ 1000) (hl : ∀ l, l ∈ ls → bnd 400 l) (hs : bnd 400 seam) (hc : all4 (bnd 400) c) (he : bnd 1000 each) (hf : bnd 1000 first) : BinsOK (leavesF ls seam n c each first) := by
  refine ⟨by simpa [leavesF] using hn, fun b hb => ?_⟩
  simp only [leavesF, List.mem_map] at hb
  obtain ⟨p, hp, rfl⟩ := hb
  have hp := hl p hp
  refine ⟨all4_tup fun i hi => ?_, all4_tup fun i hi => ?_, ?_, ?_⟩
  · split
    · have := all4_at hc hi
      exact ⟨by have := this.1; have := hs.1; omega, by have := this.2; have := hs.2; omega⟩
    · exact ⟨by omega, by omega⟩
  · split
    · exact ⟨by have := he.1; omega, by have := he.2; omega⟩
    · exact ⟨by omega, by omega⟩
  · exact ⟨by show -1000000 ≤ p + seam; have := hp.1; have := hs.1; omega, by show p + seam ≤ 1000000; have := hp.2; have := hs.2; omega⟩
  · exact ⟨by show -1000000 ≤ first; have := hf.1; omega, by show first ≤ 1000000; have := hf.2; omega⟩
theorem XOK.lvs {x : Fashion} (h : XOK x) {each first : Int} (he : bnd 1000 each) (hf : bnd 1000 first) : BinsOK (lvs x each first) :=
  leaves_ok (by have := h.nl; omega) h.lv h.sm h.ct he hf
theorem XOK.lts {x : Fashion} (h : XOK x) : BinsOK (lts x) := by
  refine ⟨by have := h.nt; simp only [Fa.lts, lotsF, List.length_map]; omega, fun b hb => ?_⟩
  simp only [Fa.lts, lotsF, List.mem_map] at hb
  obtain ⟨l, hl, rfl⟩ := hb
  have hl := h.lt l hl
  refine ⟨all4_tup fun i hi => ?_, all4_tup fun i hi => ?_, ?_, ⟨by show -1000000 ≤ (0 : Int); omega, by show (0 : Int) ≤ 1000000; omega⟩⟩
  · split
    · split
      · exact ⟨by have := hl.2.1; omega, by have := hl.2.2; omega⟩
      · have := all4_at h.ct hi
        exact ⟨by have := this.1; omega, by have := this.2; omega⟩
    · exact ⟨by omega, by omega⟩
  · split
    · rename_i hlt
      have h1 := all4_at h.ct hi
      have h2 := h.sp _ (getD_mem (d := ((0, 0), 0, 0)) hlt)
      have h3 : bnd 800 (l.1 - (x.2.1.getD i ((0, 0), 0, 0)).2.2) := ⟨by have := hl.1.1; have := h2.2; omega, by have := hl.1.2; have := h2.1; omega⟩
      have := bnd_mul (by omega) h1 h3
      exact ⟨by have := this.1; omega, by have := this.2; omega⟩
    · exact ⟨by omega, by omega⟩
  · exact ⟨by show -1000000 ≤ l.2; have := hl.2.1; omega, by show l.2 ≤ 1000000; have := hl.2.2; omega⟩
theorem b0 : bnd 1000 0 := ⟨by omega, by omega⟩
theorem b1 : bnd 1000 1 := ⟨by omega, by omega⟩
theorem ne_of_bne {a b : Int} (h : (a != b) = true) : a ≠ b := by simpa using h
theorem eq_of_bne {a b : Int} (h : (a != b) = false) : a = b := by simpa using h

theorem le4_no {f : FansT} (hf : FOK f) : le4 NO4 f := ⟨⟨by decide, hf.1.1⟩, ⟨by decide, hf.2.1.1⟩, ⟨by decide, hf.2.2.1.1⟩, ⟨by decide, hf.2.2.2.1⟩⟩
theorem fold_le4 {b : BinT} {r : List BinT} {f : FansT} {left : Int} : ∀ (l : List FansT) (st : List Int × FansT × Bool), le4 st.2.1 f → (∀ s, s ∈ l → le4 s f) → le4 (l.foldl (smStep b r f left) st).2.1 f
  | [], st, h, _ => h
  | s :: l, st, h, hl => by
    rw [List.foldl_cons]
    refine fold_le4 l _ ?_ fun s' hs' => hl s' (by simp [hs'])
    unfold smStep
    split
    · split
      · exact hl s (by simp)
      · exact h
    · exact h
theorem smPick_le4 {b : BinT} {r : List BinT} {f : FansT} {left : Int} (hf : FOK f) : le4 (smPick b r f left).2.1 f :=
  fold_le4 _ _ (le4_no hf) fun s hs => (mem_upTo hf).1 hs
theorem p95 {p : Pk} {f : FansT} {Q : List (List Int) → Prop} (h : f95_wp (p, f, ()) () Q) : V95 p f Q := by
  obtain ⟨⟨hp, hf⟩, h⟩ := h
  have hp : POK p := hp
  have hf : FOK f := hf
  have h : Q (smallF p.1 f) := h
  have hN : p.1.length ≤ 1000 := hp.b.n
  have hL := least_bnd p.1 hp.b f hf
  simp only [GX.Fa.NONE] at hL
  refine ⟨⟨hp, hf, Int.le_refl _, by show (0 : Int) ≤ p.1.length; omega⟩, ?_⟩
  show cnd (decide (GX.Fa.least (p.1.drop 0) f ≥ 1099511627776)) _ _
  rw [List.drop_zero]
  unfold smallF at h
  refine cnd_iff.2 ⟨fun hc => ?_, fun hc hl => ?_⟩
  · rw [if_pos (show GX.Fa.least p.1 f ≥ GX.Fa.NONE from of_decide_eq_true hc)] at h; exact h
  rw [if_neg (show ¬ GX.Fa.least p.1 f ≥ GX.Fa.NONE from of_decide_eq_false hc)] at h
  refine ⟨fun x l left fn => ∃ k : Nat, (k ≤ p.1.length ∧ x = k ∧ l.length = k) ∧ FOK fn ∧ bnd (2000000000000000 + (k : Int) * 5000000000) left ∧ smGo p.1 (GX.Fa.least p.1 f) f = l ++ smGo (p.1.drop k) left fn, fun x _ _ _ => (p.1.length - x).toNat,
    ⟨0, ⟨Nat.zero_le _, rfl, rfl⟩, hf, ⟨by show _ ≤ GX.Fa.least p.1 f; have := hL.1; omega, by show GX.Fa.least p.1 f ≤ _; have := hL.2; omega⟩, rfl⟩, ?_⟩
  rintro x l left fn ⟨k, ⟨hk, rfl, hlk⟩, hfn, hleft, heq⟩
  refine cnd_iff.2 ⟨fun hc => ?_, fun hc => ?_⟩
  · have hc : (k : Int) < p.1.length := of_decide_eq_true hc
    have hk : k < p.1.length := by omega
    have hw : IntKind.wrap .i64 ((k : Int) + 1) = k + 1 := wrapS (by omega) (by omega)
    obtain ⟨b, hb⟩ : ∃ b : BinT, b = p.1.getD k ((0, 0, 0, 0), (0, 0, 0, 0), 0, 0) := ⟨_, rfl⟩
    have hd : p.1.drop k = b :: p.1.drop (k + 1) := by rw [List.drop_eq_getElem_cons hk, hb, getD_lt hk]
    have hB := hp.b.drop k
    rw [hd] at hB
    obtain ⟨hb1, hr1⟩ := hB.cons
    refine ⟨by omega, by omega, hfn, fun pre best some found => (best, some, found) = pre.foldl (smStep b (p.1.drop (k + 1)) fn left) ([], NO4, false), rfl, ?_, ?_⟩
    · intro pre s rest hxs best some found hst
      have hst : (best, some, found) = pre.foldl (smStep b (p.1.drop (k + 1)) fn left) ([], NO4, false) := hst
      have hxs : GX.Fa.upTo fn = pre ++ s :: rest := hxs
      have hs : le4 s fn := (mem_upTo hfn).1 (by rw [hxs]; simp)
      have hsf := hs.fok hfn
      rw [hw]
      refine ⟨GX.Fa.fitsB b s, ⟨⟨by show BOK (p.1.getD k _); rw [← hb]; exact hb1, hsf⟩, by show GX.Fa.fitsB (p.1.getD k _) s = _; rw [← hb]⟩, cnd_iff.2 ⟨fun hfit => ?_, fun hfit => ?_⟩⟩
      · have hfit : GX.Fa.fitsB b s = false := by simpa using hfit
        show (best, some, found) = (pre ++ [s]).foldl _ _
        rw [fold_snoc, ← hst]
        unfold smStep
        rw [hfit]; rfl
      · have hfit : GX.Fa.fitsB b s = true := by simpa using hfit
        refine ⟨_, ⟨⟨by show BOK (p.1.getD k _); rw [← hb]; exact hb1, hsf⟩, rfl⟩, _, ⟨⟨hfn.bnd, hsf.bnd⟩, rfl⟩, _, ⟨⟨hp, hs.less hfn, by show 0 ≤ (k : Int) + 1; omega, by show (k : Int) + 1 ≤ p.1.length; omega⟩, rfl⟩, ?_⟩
        have hL := loss_bnd hb1 hsf
        have hR := least_bnd _ hr1 _ (hs.less hfn)
        simp only [GX.Fa.NONE] at hR
        have hn := hr1.n
        have e1 : IntKind.wrap .i64 (GX.Fa.lossV b s + GX.Fa.least (p.1.drop (k + 1)) (GX.Fa.less fn s)) = GX.Fa.lossV b s + GX.Fa.least (p.1.drop (k + 1)) (GX.Fa.less fn s) :=
          wrapS (by have := hL.1; have := hR.1; omega) (by have := hL.2; have := hR.2; omega)
        show cnd (IntKind.wrap .i64 (GX.Fa.lossV (p.1.getD k _) s + GX.Fa.least (p.1.drop (k + 1)) (GX.Fa.less fn s)) != left) ((best, some, found) = (pre ++ [s]).foldl _ _) _
        rw [← hb, e1, fold_snoc, ← hst]
        refine cnd_iff.2 ⟨fun hc2 => ?_, fun hc2 => ⟨hsf, ?_⟩⟩
        · unfold smStep
          rw [hfit, decide_eq_false (ne_of_bne hc2)]; rfl
        · show cnd (!found) ((listF s, s, true) = _) _
          have ee : smStep b (p.1.drop (k + 1)) fn left (best, some, found) s = if !found || decide (cmpL (listF s) best < 0) then (listF s, s, true) else (best, some, found) := by
            unfold smStep
            rw [hfit, decide_eq_true (eq_of_bne hc2)]; rfl
          simp only [fold_snoc, ← hst, ee]
          refine cnd_iff.2 ⟨fun hc3 => ?_, fun hc3 => ?_⟩
          · rw [hc3]; rfl
          · show cnd (decide (cmpL (listF s) best < 0)) _ _
            rw [hc3]
            refine cnd_iff.2 ⟨fun hc4 => ?_, fun hc4 => ?_⟩
            · rw [hc4]; rfl
            · rw [hc4]; rfl
    · intro best some found hst
      have hst : (best, some, found) = smPick b (p.1.drop (k + 1)) fn left := hst
      have hle := smPick_le4 (b := b) (r := p.1.drop (k + 1)) (left := left) hfn
      rw [← hst] at hle
      have hle : le4 some fn := hle
      have hL := loss_bnd hb1 (hle.fok hfn)
      have e1 : IntKind.wrap .i64 (left - GX.Fa.lossV b some) = left - GX.Fa.lossV b some := wrapS (by have := hL.2; have := hleft.1; omega) (by have := hL.1; have := hleft.2; omega)
      refine ⟨?_, _, ⟨⟨by show BOK (p.1.getD k _); rw [← hb]; exact hb1, hle.fok hfn⟩, rfl⟩, _, ⟨⟨hfn.bnd, (hle.fok hfn).bnd⟩, rfl⟩, ?_⟩
      · simp only [List.length_cons, List.length_nil]; omega
      · show (∃ k' : Nat, (_ ∧ IntKind.wrap .i64 ((k : Int) + 1) = k' ∧ _) ∧ _ ∧ bnd _ (IntKind.wrap .i64 (left - GX.Fa.lossV (p.1.getD k _) some)) ∧ _ = (l ++ [best]) ++ smGo _ (IntKind.wrap .i64 (left - GX.Fa.lossV (p.1.getD k _) some)) _) ∧ (_ - IntKind.wrap .i64 ((k : Int) + 1)).toNat < _
        rw [hw, ← hb, e1]
        refine ⟨⟨k + 1, ⟨by omega, by push_cast; rfl, by simp [hlk]⟩, hle.less hfn, ⟨by push_cast; have := hL.2; have := hleft.1; omega, by push_cast; have := hL.1; have := hleft.2; omega⟩, ?_⟩, by simp only; omega⟩
        rw [heq, hd, smGo, ← hst]
        simp only [List.append_assoc, List.singleton_append]
  · have hc : ¬ (k : Int) < p.1.length := of_decide_eq_false hc
    rw [heq, List.drop_eq_nil_of_le (by omega), smGo, List.append_nil] at h
    exact h
end Go.Proofs.Fa
set_option linter.unusedVariables false
namespace Go.Proofs.Fa
open Go Go.GX Go.Proofs

theorem forUpGSN {σ : Type} {n : Nat} {N : Int} (hN : N = n) (hn : n ≤ 9223372036854775807) (go : Nat → Prop) (F : Nat → σ) (h0 : go 0) {s0 : σ} (hs0 : s0 = F 0) {body : (Int → σ → Prop) → (Int → σ → Nat) → Int → σ → Prop}
    (hb : ∀ k : Nat, k < n → go k → ∀ (I : Int → σ → Prop) (μ : Int → σ → Nat), (go (k + 1) → I (k + 1 : Int) (F (k + 1)) ∧ μ (k + 1 : Int) (F (k + 1)) < μ k (F k)) → IntKind.wrap .i64 ((k : Int) + 1) = k + 1 → body I μ k (F k))
    {e : Int → σ → Prop} (he : go n → e n (F n)) :
    ∃ (I : Int → σ → Prop) (μ : Int → σ → Nat), I 0 s0 ∧ ∀ x s, I x s → cnd (decide (x < N)) (body I μ x s) (e x s) := by
  subst hN
  exact forUpGS hn go F h0 hs0 hb he
theorem pok {bs : List BinT} (h : BinsOK bs) : POK (bs, bs) := ⟨rfl, h⟩
theorem p67 {bs : List BinT} {f : FansT} {Q : List (List Int) × Int × Unit → Prop} (h : f67_wp (bs, f, ()) () Q) : V67 bs f Q := by
  obtain ⟨⟨hb, hf⟩, h⟩ := h
  have hb : BinsOK bs := hb
  have hf : FOK f := hf
  have h : Q ((listedF bs f).1, (listedF bs f).2, ()) := h
  refine ⟨hb.n, ⟨pok hb, hf, Int.le_refl _, by show (0 : Int) ≤ bs.length; omega⟩, ?_⟩
  show cnd (decide (GX.Fa.least bs f ≥ 1099511627776)) _ _
  unfold listedF at h
  refine cnd_iff.2 ⟨fun hc => ?_, fun hc => ⟨⟨pok hb, hf⟩, ?_⟩⟩
  · rw [if_pos (show GX.Fa.least bs f ≥ GX.Fa.NONE from of_decide_eq_true hc)] at h; exact h
  · rw [if_neg (show ¬ GX.Fa.least bs f ≥ GX.Fa.NONE from of_decide_eq_false hc)] at h; exact h
theorem p102 {f : FansT} {p q : Pk} {Q : Bool → Prop} (h : f102_wp f (p, q, ()) Q) : V102 f p q Q := by
  obtain ⟨⟨hp, hq, hf⟩, h⟩ := h
  have hp : POK p := hp
  have hq : POK q := hq
  have hf : FOK f := hf
  have h : Q (canF p.1 f && canF q.1 f) := h
  refine ⟨⟨hp, hf, Int.le_refl _, by show (0 : Int) ≤ p.1.length; omega⟩, ?_⟩
  show cnd (canF p.1 f) _ _
  cases hc : canF p.1 f with
  | true =>
    refine ⟨⟨hq, hf, Int.le_refl _, by show (0 : Int) ≤ q.1.length; omega⟩, ?_⟩
    rw [hc] at h
    exact h
  | false => rw [hc] at h; exact h
theorem p86 {x : Fashion} {Q : (FansT → (Bool → Prop) → Prop) → Prop} (h : f86_wp x () Q) : V86 x Q := by
  obtain ⟨hx, h⟩ := h
  have hx : XOK x := hx
  have h1 := hx.lvs b0 b0
  have h2 := hx.lts
  refine ⟨lvs x 0 0, ⟨hx, rfl⟩, (lvs x 0 0, lvs x 0 0), ⟨h1.n, rfl⟩, lts x, ⟨hx, rfl⟩, (lts x, lts x), ⟨h2.n, rfl⟩, h⟩
theorem says_hi (l : List (Int × Int)) : Says (fun (x : Int × Int) (Q : Int → Prop) => f66_wp x () fun (r : Int) => Q r) (fun s => s.2) l := fun x _ Q h => h
theorem p21 {s : Store} {f : List Spring} {Q : List (List Int) × Int × Unit → Prop} (h : f21_wp (s, f, ()) () Q) : V21 s f Q := by
  have h : Q ((resLeaves s f).1, (resLeaves s f).2, ()) := h
  unfold resLeaves at h
  show cnd (checkF s f != 0) _ _
  refine cnd_iff.2 ⟨fun hc => ?_, fun hc => ?_⟩
  · rw [if_pos (ne_of_bne hc)] at h; exact h
  have hc := eq_of_bne hc
  have v := vok_of hc
  rw [if_neg (by simpa using hc)] at h
  have hx := v.x v.cH
  refine ⟨fun s => s.2, ⟨v.f4, says_hi _⟩, _, ⟨hx, rfl⟩, _, ⟨v.f4, rfl⟩, _, ⟨⟨hx.lvs b0 b1, v.want⟩, rfl⟩, h⟩
theorem p29 {s : Store} {f : List Spring} {Q : List (List Int) × Int × Unit → Prop} (h : f29_wp (s, f, ()) () Q) : V29 s f Q := by
  have h : Q ((resLots s f).1, (resLots s f).2, ()) := h
  unfold resLots at h
  show cnd (checkF s f != 0) _ _
  refine cnd_iff.2 ⟨fun hc => ?_, fun hc => ?_⟩
  · rw [if_pos (ne_of_bne hc)] at h; exact h
  have hc := eq_of_bne hc
  have v := vok_of hc
  rw [if_neg (by simpa using hc)] at h
  have hx := v.x v.cH
  refine ⟨fun s => s.2, ⟨v.f4, says_hi _⟩, _, ⟨hx, rfl⟩, _, ⟨v.f4, rfl⟩, _, ⟨⟨hx.lts, v.want⟩, rfl⟩, h⟩
theorem p50 {s : Store} {f : List Spring} {Q : List Int × Int × Unit → Prop} (h : f50_wp (s, f, ()) () Q) : V50 s f Q := by
  have h : Q ((resMost s f).1, (resMost s f).2, ()) := h
  unfold resMost at h
  show cnd (checkF s f != 0) _ _
  refine cnd_iff.2 ⟨fun hc => ?_, fun hc => ?_⟩
  · rw [if_pos (ne_of_bne hc)] at h; exact h
  have hc := eq_of_bne hc
  have v := vok_of hc
  rw [if_neg (by simpa using hc)] at h
  have hx := v.x v.cH
  have hw := v.want
  refine ⟨fun s => s.2, ⟨v.f4, says_hi _⟩, hx, v.f4, hw, fun pre b => b = pre.foldl (mostStep (makesF (s, f, cH f))) NO4 ∧ le4 b (wantF f), ⟨rfl, le4_no hw⟩, ?_, ?_⟩
  · rintro pre t rest hxs b ⟨hb, hble⟩
    have hxs : GX.Fa.upTo (wantF f) = pre ++ t :: rest := hxs
    have ht : le4 t (wantF f) := (mem_upTo hw).1 (by rw [hxs]; simp)
    have htf := ht.fok hw
    have hbf := hble.fok hw
    have e0 : (pre ++ [t]).foldl (mostStep (makesF (s, f, cH f))) NO4 = mostStep (makesF (s, f, cH f)) b t := by rw [fold_snoc, ← hb]
    have go : ∀ b', mostStep (makesF (s, f, cH f)) b t = b' → le4 b' (wantF f) → b' = (pre ++ [t]).foldl (mostStep (makesF (s, f, cH f))) NO4 ∧ le4 b' (wantF f) := fun b' h1 h2 => ⟨by rw [e0, h1], h2⟩
    refine ⟨_, ⟨htf.bnd, rfl⟩, _, ⟨hbf.bnd, rfl⟩, ?_⟩
    show cnd (decide (sumF t < sumF b)) (_ ∧ _) (cnd (sumF t == sumF b) _ _)
    refine cnd_iff.2 ⟨fun h1 => go b ?_ hble, fun h1 => cnd_iff.2 ⟨fun h2 => ⟨by decide, by decide, by decide, by decide, by decide, by decide, _, rfl, ?_⟩, fun h2 => ⟨_, ⟨⟨pok (hx.lvs b0 b0), pok hx.lts, htf⟩, rfl⟩, cnd_iff.2 ⟨fun h3 => go b ?_ hble, fun h3 => go t ?_ ht⟩⟩⟩⟩
    · unfold mostStep; rw [h1]; rfl
    · show cnd (decide (cmpL (l4 t) (l4 b) ≤ 0)) (_ ∧ _) _
      refine cnd_iff.2 ⟨fun h3 => go b ?_ hble, fun h3 => ⟨_, ⟨⟨pok (hx.lvs b0 b0), pok hx.lts, htf⟩, rfl⟩, cnd_iff.2 ⟨fun h4 => go b ?_ hble, fun h4 => go t ?_ ht⟩⟩⟩
      · unfold mostStep; rw [h1, h2, h3]; rfl
      · have h4 : (!(makesF (s, f, cH f) t)) = true := h4
        unfold mostStep; rw [h1, h2, h3, h4]; rfl
      · have h4 : (!(makesF (s, f, cH f) t)) = false := h4
        unfold mostStep; rw [h1, h2, h3, h4]; rfl
    · have h3 : (!(makesF (s, f, cH f) t)) = true := h3
      unfold mostStep; rw [h1, h2, h3]; rfl
    · have h3 : (!(makesF (s, f, cH f) t)) = false := h3
      unfold mostStep; rw [h1, h2, h3]; rfl
  · rintro b ⟨hb, hble⟩ _
    refine ⟨by decide, by omega, by have := v.f4; omega, ?_, ?_⟩
    · show ((l4 b).take _).length ≤ 1000000
      rw [List.length_take]; simp [l4]; omega
    · have hb : b = mostF (makesF (s, f, cH f)) (wantF f) := hb
      rw [hb]
      exact h
theorem p83 {l : List Int} {f : List Spring} {Q : Bool → Prop} (h : f83_wp l (f, ()) Q) : V83 l f Q := by
  obtain ⟨hn, h⟩ := h
  have hn : f.length ≤ 100 := hn
  have h : Q (noneF f.length l) := h
  intro hl
  show cnd (!(l.all (inB 0 (IntKind.wrap .i64 ((f.length : Int) - 1))))) (Q true) (Q (!(sortedB l)))
  rw [wrapS (by omega) (by omega)]
  unfold noneF at h
  cases ha : !(l.all (inB 0 ((f.length : Int) - 1))) with
  | true => rw [ha] at h; exact h
  | false => rw [ha] at h; exact h
theorem p39 {s : Store} {f : List Spring} {Q : Int × Int × Int × Unit → Prop} (h : f39_wp (s, f, ()) () Q) : V39 s f Q := by
  have h : Q ((resLoss s f).1, (resLoss s f).2.1, (resLoss s f).2.2, ()) := h
  unfold resLoss at h
  show cnd (checkF s f != 0) _ _
  refine cnd_iff.2 ⟨fun hc => ?_, fun hc => ?_⟩
  · rw [if_pos (ne_of_bne hc)] at h; exact h
  have hc := eq_of_bne hc
  have v := vok_of hc
  rw [if_neg (by simpa using hc)] at h
  have hx := v.x v.cH
  have hs := v.sm
  have e : IntKind.wrap .i64 (Int.sub 0 s.2.1) = -s.2.1 := by
    have : Int.sub 0 s.2.1 = -s.2.1 := by show (0 : Int) - s.2.1 = _; omega
    rw [this, wrapS (by omega) (by omega)]
  have h1 : BinsOK (lvs (s, f, cH f) s.2.1 (-s.2.1)) := hx.lvs ⟨by omega, by omega⟩ ⟨by omega, by omega⟩
  refine ⟨fun s => s.2, ⟨v.f4, says_hi _⟩, lvs (s, f, cH f) s.2.1 (-s.2.1), ⟨hx, by rw [e]; rfl⟩, _, ⟨h1.n, rfl⟩, _, ⟨v.f4, rfl⟩, _, ⟨⟨pok h1, v.want, Int.le_refl _, by show (0 : Int) ≤ _; omega⟩, rfl⟩, _, ⟨hx, rfl⟩, _, ⟨hx.lts.n, rfl⟩, _, ⟨v.f4, rfl⟩, _, ⟨⟨pok hx.lts, v.want, Int.le_refl _, by show (0 : Int) ≤ _; omega⟩, rfl⟩, ?_⟩
  show cnd (decide (GX.Fa.least (lvs (s, f, cH f) s.2.1 (-s.2.1)) (wantF f) ≥ 549755813888)) _ (cnd (decide (GX.Fa.least (lts (s, f, cH f)) (wantF f) ≥ GX.Fa.NONE)) _ _)
  unfold lossF at h
  refine cnd_iff.2 ⟨fun h1 => ?_, fun h1 => cnd_iff.2 ⟨fun h2 => ?_, fun h2 => ?_⟩⟩
  · rw [if_pos (by rw [h1]; rfl)] at h; exact h
  · rw [if_pos (by rw [h1, h2]; rfl)] at h; exact h
  · rw [if_neg (by rw [h1, h2]; decide)] at h; exact h
theorem set4_put (t : FansT) (u : Int) : ∀ {k : Nat}, k < 4 → set4 t k u = put4 t k u
  | 0, _ => rfl
  | 1, _ => rfl
  | 2, _ => rfl
  | 3, _ => rfl
  | k + 4, h => absurd h (by omega)
theorem put4_all {p : Int → Prop} {t : FansT} {k : Nat} {u : Int} (ht : all4 p t) (hu : p u) : all4 p (put4 t k u) := by
  unfold put4
  refine all4_tup fun i hi => ?_
  split
  · exact hu
  · exact all4_at ht hi
theorem p41 {s : Store} {f : List Spring} {k : Int} {Q : Int × Int × Unit → Prop} (h : f41_wp (s, f, k, ()) () Q) : V41 s f k Q := by
  have h : Q ((resRise s f k).1, (resRise s f k).2, ()) := h
  unfold resRise at h
  show cnd (checkF s f != 0) _ _
  refine cnd_iff.2 ⟨fun hc => ?_, fun hc hl => ?_⟩
  · rw [if_pos (ne_of_bne hc)] at h; exact h
  have hc := eq_of_bne hc
  have v := vok_of hc
  rw [if_neg (by simpa using hc)] at h
  have hf4 := v.f4
  show cnd (!([k].all (inB 0 (IntKind.wrap .i64 ((f.length : Int) - 1))))) _ _
  rw [all_one, wrapS (by omega) (by omega)]
  refine cnd_iff.2 ⟨fun h1 => ?_, fun h1 => ?_⟩
  · rw [if_pos (by simpa using h1)] at h; exact h
  have h1 : inB 0 ((f.length : Int) - 1) k = true := by simpa using h1
  rw [if_neg (by rw [h1]; simp)] at h
  have hk := inB_iff.1 h1
  obtain ⟨j, rfl⟩ := Int.eq_ofNat_of_zero_le hk.1
  have hj : j < 4 := by omega
  rw [Int.toNat_natCast] at h
  refine ⟨fun x => ∃ n : Nat, x = n ∧ n ≤ 40 ∧ riseGo s f j 40 = riseGo s f j n, fun x => x.toNat, ⟨40, rfl, by omega, rfl⟩, ?_⟩
  rintro x ⟨n, rfl, hn, heq⟩
  refine cnd_iff.2 ⟨fun h2 => ?_, fun h2 => ?_⟩
  · have h2 : (n : Int) ≥ 2 := of_decide_eq_true h2
    obtain ⟨m, rfl⟩ : ∃ m, n = m + 1 := ⟨n - 1, by omega⟩
    have hx : XOK (s, f, put4 (cH f) j ((m + 1 : Nat) : Int)) := v.x (put4_all v.cH ⟨by omega, by omega⟩)
    refine ⟨fun s => s.2, ⟨v.f4, says_hi _⟩, by omega, by omega, ?_⟩
    show ∃ r, (f86_wp (s, f, set4 (cH f) j ((m + 1 : Nat) : Int)) () fun r' => r' = r) ∧ ∃ r2, (f69_wp (s, f, set4 (cH f) j ((m + 1 : Nat) : Int)) () fun r' => r' = r2) ∧ _
    rw [set4_put _ _ hj]
    refine ⟨_, ⟨hx, rfl⟩, _, ⟨v.f4, rfl⟩, _, ⟨⟨pok (hx.lvs b0 b0), pok hx.lts, v.want⟩, rfl⟩, ?_⟩
    show cnd (riseOK s f j ((m + 1 : Nat) : Int)) _ _
    have er : riseGo s f j (m + 1) = if riseOK s f j ((m + 1 : Nat) : Int) then (((m + 1 : Nat) : Int), 0) else riseGo s f j m := by
      rw [riseGo, if_neg (by omega)]
    rw [heq, er] at h
    refine cnd_iff.2 ⟨fun h3 => ?_, fun h3 => ?_⟩
    · rw [if_pos h3] at h; exact h
    · have hw : IntKind.wrap .i64 (((m + 1 : Nat) : Int) - 1) = m := by rw [wrapS (by omega) (by omega)]; push_cast; omega
      rw [hw]
      refine ⟨⟨m, rfl, by omega, ?_⟩, by show (m : Int).toNat < ((m + 1 : Nat) : Int).toNat; omega⟩
      rw [heq, er, if_neg (by rw [h3]; simp)]
  · have h2 : ¬ (n : Int) ≥ 2 := of_decide_eq_false h2
    rw [heq] at h
    have : riseGo s f j n = (0, 9) := by
      match n, h2 with
      | 0, _ => rfl
      | 1, _ => rfl
      | n + 2, h2 => omega
    rw [this] at h
    exact h
theorem p31 {s : Store} {f : List Spring} {p : Int} {Q : Int × Int × Unit → Prop} (h : f31_wp (s, f, p, ()) () Q) : V31 s f p Q := by
  have h : Q ((resNew s f p).1, (resNew s f p).2, ()) := h
  unfold resNew at h
  show cnd (checkF s f != 0) _ _
  refine cnd_iff.2 ⟨fun hc => ?_, fun hc => ?_⟩
  · rw [if_pos (ne_of_bne hc)] at h; exact h
  have hc := eq_of_bne hc
  have v := vok_of hc
  rw [if_neg (by simpa using hc)] at h
  show cnd (!(inB 1 200 p)) _ _
  refine cnd_iff.2 ⟨fun h1 => ?_, fun h1 => ?_⟩
  · rw [if_pos (by simpa using h1)] at h; exact h
  have h1 : inB 1 200 p = true := by simpa using h1
  rw [if_neg (by rw [h1]; simp)] at h
  have hp := inB_iff.1 h1
  have hw4 := v.want4
  have hN : 0 ≤ sumF (wantF f) ∧ sumF (wantF f) ≤ 16 := by
    obtain ⟨⟨g1, g1'⟩, ⟨g2, g2'⟩, ⟨g3, g3'⟩, ⟨g4, g4'⟩⟩ := hw4
    unfold sumF; omega
  obtain ⟨N, hNe⟩ := Int.eq_ofNat_of_zero_le hN.1
  refine ⟨fun s => s.2, ⟨v.f4, says_hi _⟩, by have := v.n6; omega, v.f4, v.want.bnd, ?_⟩
  have hw : IntKind.wrap .i64 (sumF (wantF f) + 1) = ((N + 1 : Nat) : Int) := by rw [hNe, wrapS (by omega) (by omega)]; push_cast; rfl
  have hf : newF s f p = match (List.range (N + 1)).find? (newOK s f p) with | some n => ((n : Int), 0) | none => (0, 9) := by
    unfold newF; rw [hNe]; rfl
  refine forUpGSN (σ := List Int × Int × List Lot × List Spring × FansT) (n := N + 1) hw (by omega) (fun k => ∀ m, m < k → newOK s f p m = false) (fun k => (s.1 ++ List.replicate k p, s.2.1, s.2.2, f, cH f)) (fun m hm => absurd hm (Nat.not_lt_zero _)) (by simp; rfl) (fun k hk hg I μ hI hw => ?_) (fun hg => ?_)
  · have hlv : ∀ l, l ∈ s.1 ++ List.replicate k p → bnd 400 l := fun l hl => by
      rcases List.mem_append.1 hl with h2 | h2
      · have := v.lv l h2; exact ⟨by omega, by omega⟩
      · rw [List.eq_of_mem_replicate h2]; exact ⟨by omega, by omega⟩
    have hln : (s.1 ++ List.replicate k p).length ≤ 500 := by have := v.n6; rw [List.length_append, List.length_replicate]; omega
    have hx0 := v.x v.cH
    have hx : XOK ((s.1 ++ List.replicate k p, s.2.1, s.2.2), f, cH f) := ⟨hx0.n, hln, hx0.nt, hlv, hx0.sm, hx0.lt, hx0.sp, hx0.ct⟩
    have hB := hx.lvs b0 b0
    refine ⟨_, ⟨hx, rfl⟩, _, ⟨hB.n, rfl⟩, _, ⟨v.f4, rfl⟩, _, ⟨⟨pok hB, v.want, Int.le_refl _, by show (0 : Int) ≤ _; omega⟩, rfl⟩, ?_⟩
    show cnd (newOK s f p k) _ _
    refine cnd_iff.2 ⟨fun h2 => ?_, fun h2 => ⟨?_, ?_⟩⟩
    · have : (List.range (N + 1)).find? (newOK s f p) = some k := by
        rw [List.find?_range_eq_some]
        exact ⟨h2, List.mem_range.2 hk, fun j hj => by rw [hg j hj]; rfl⟩
      rw [hf, this] at h
      exact h
    · have := hln
      simp only [List.length_cons, List.length_nil]
      omega
    · rw [hw]
      have e : s.1 ++ List.replicate k p ++ [p] = s.1 ++ List.replicate (k + 1) p := by rw [List.append_assoc, ← List.replicate_succ']
      show I _ (s.1 ++ List.replicate k p ++ [p], s.2.1, s.2.2, f, cH f) ∧ μ _ (s.1 ++ List.replicate k p ++ [p], s.2.1, s.2.2, f, cH f) < _
      rw [e]
      refine hI fun m hm => ?_
      rcases Nat.lt_succ_iff_lt_or_eq.1 hm with h3 | rfl
      · exact hg m h3
      · exact h2
  · have : (List.range (N + 1)).find? (newOK s f p) = none := by
      rw [List.find?_eq_none]
      intro m hm
      rw [hg m (List.mem_range.1 hm)]; simp
    rw [hf, this] at h
    exact h
end Go.Proofs.Fa
set_option linter.unusedVariables false
namespace Go.Proofs.Fa
open Go Go.GX Go.Proofs

theorem for4b {body : (Int → Int → Prop) → (Int → Int → Nat) → Int → Int → Prop} (F : Nat → Int) {s0 : Int} (h0 : s0 = F 0)
    (hb : ∀ k : Nat, k < 4 → ∀ (I : Int → Int → Prop) (μ : Int → Int → Nat), (I (k + 1 : Int) (F (k + 1)) ∧ μ (k + 1 : Int) (F (k + 1)) < μ k (F k)) → IntKind.wrap .i64 ((k : Int) + 1) = k + 1 → body I μ k (F k))
    {e : Int → Int → Prop} (he : e 4 (F 4)) :
    ∃ (I : Int → Int → Prop) (μ : Int → Int → Nat), I 0 s0 ∧ ∀ x s, I x s → cnd (decide (x < 4)) (body I μ x s) (e x s) := for4 F h0 hb he
theorem needS_bnd {c w : FansT} {seam ck : Int} (hc : all4 (fun x => 0 ≤ x ∧ x ≤ 40) c) (hw : all4 (fun x => 0 ≤ x ∧ x ≤ 4) w) (hs : 0 ≤ seam ∧ seam ≤ 10) : ∀ {k : Nat}, k ≤ 4 → 0 ≤ needS c w seam ck k ∧ needS c w seam ck k ≤ (k : Int) * 200
  | 0, _ => ⟨Int.le_refl _, by simp [needS]⟩
  | k + 1, h => by
    have ih := needS_bnd hc hw hs (ck := ck) (k := k) (by omega)
    have h1 := all4_at hc (k := k) (by omega)
    have h2 := all4_at hw (k := k) (by omega)
    have h1 : 0 ≤ at4 c k ∧ at4 c k ≤ 40 := h1
    have h2 : 0 ≤ at4 w k ∧ at4 w k ≤ 4 := h2
    have h3 : 0 ≤ at4 w k * (at4 c k + seam) := Int.mul_nonneg h2.1 (by omega)
    have h4 : at4 w k * (at4 c k + seam) ≤ 4 * 50 := Int.mul_le_mul h2.2 (by omega) (by omega) (by omega)
    simp only [needS]
    push_cast
    split <;> omega
theorem hasS_succ {ls : List Int} {seam ck : Int} {k : Nat} (hk : k < ls.length) : hasS (ls.take (k + 1)) seam ck = if ls.getD k 0 ≥ ck then hasS (ls.take k) seam ck + (ls.getD k 0 + seam) else hasS (ls.take k) seam ck := by
  unfold hasS
  rw [List.take_add_one, List.foldl_append, List.getElem?_eq_getElem hk, getD_lt hk]
  rfl
theorem hasS_bnd {ls : List Int} {seam ck : Int} (hl : ∀ l, l ∈ ls → 1 ≤ l ∧ l ≤ 200) (hs : 0 ≤ seam ∧ seam ≤ 10) : ∀ {k : Nat}, k ≤ ls.length → 0 ≤ hasS (ls.take k) seam ck ∧ hasS (ls.take k) seam ck ≤ (k : Int) * 210
  | 0, _ => ⟨Int.le_refl _, by simp [hasS]⟩
  | k + 1, h => by
    have ih := hasS_bnd hl hs (ck := ck) (k := k) (by omega)
    have h1 := hl _ (getD_mem (d := 0) (show k < ls.length by omega))
    rw [hasS_succ (by omega)]
    push_cast
    split <;> omega
def boundS (s : Store) (f : List Spring) (p : Int) (k : Nat) : Int × Int := (List.range k).foldl (boundStep s f p) (0, 0)
theorem boundS_succ (s : Store) (f : List Spring) (p : Int) (k : Nat) : boundS s f p (k + 1) = boundStep s f p (boundS s f p k) k := by
  unfold boundS; rw [List.range_succ, List.foldl_append]; rfl
theorem p34 {s : Store} {f : List Spring} {p : Int} {Q : Int × Int × Int × Unit → Prop} (h : f34_wp (s, f, p, ()) () Q) : V34 s f p Q := by
  have h : Q ((resBound s f p).1, (resBound s f p).2.1, (resBound s f p).2.2, ()) := h
  unfold resBound at h
  show cnd (checkF s f != 0) _ _
  refine cnd_iff.2 ⟨fun hc => ?_, fun hc => ?_⟩
  · rw [if_pos (ne_of_bne hc)] at h; exact h
  have hc := eq_of_bne hc
  have v := vok_of hc
  rw [if_neg (by simpa using hc)] at h
  show cnd (!(inB 1 200 p)) _ _
  refine cnd_iff.2 ⟨fun h1 => ?_, fun h1 => ?_⟩
  · rw [if_pos (by simpa using h1)] at h; exact h
  have h1 : inB 1 200 p = true := by simpa using h1
  rw [if_neg (by rw [h1]; simp)] at h
  have hp := inB_iff.1 h1
  have hs := v.sm
  have hf4 := v.f4
  have hn6 := v.n6
  refine ⟨(s, f, cH f), ⟨fun s => s.2, ⟨v.f4, says_hi _⟩, rfl⟩, fun hl => ?_⟩
  refine forUp2 (σ := Int) (τ := Int) (n := f.length) hl (fun k => (boundS s f p k).1) (fun k => (boundS s f p k).2) rfl rfl (fun k hk I μ hI hw => ⟨v.f4, ?_⟩) h
  have hk4 : k < 4 := by omega
  refine for4b (needS (cH f) (wantF f) s.2.1 (at4 (cH f) k)) rfl (fun i hi I μ hI hw => ?_) ?_
  · refine ⟨by omega, by omega, by omega, by omega, by omega, by omega, ?_⟩
    rw [hw]
    show cnd (decide (at4L (cH f) i ≥ at4L (cH f) k)) (_ ∧ _ ∧ I _ (IntKind.wrap .i64 (_ + IntKind.wrap .i64 (at4L (wantF f) i * IntKind.wrap .i64 (at4L (cH f) i + s.2.1)))) ∧ μ _ (IntKind.wrap .i64 (_ + IntKind.wrap .i64 (at4L (wantF f) i * IntKind.wrap .i64 (at4L (cH f) i + s.2.1)))) < _) _
    rw [at4_L _ hi, at4_L _ hi, at4_L _ hk4]
    have b1 := needS_bnd (ck := at4 (cH f) k) v.cH v.want4 hs (k := i) (by omega)
    have g1 : 0 ≤ at4 (cH f) i ∧ at4 (cH f) i ≤ 40 := all4_at v.cH hi
    have g2 : 0 ≤ at4 (wantF f) i ∧ at4 (wantF f) i ≤ 4 := all4_at v.want4 hi
    have h3 : 0 ≤ at4 (wantF f) i * (at4 (cH f) i + s.2.1) := Int.mul_nonneg g2.1 (by omega)
    have h4 : at4 (wantF f) i * (at4 (cH f) i + s.2.1) ≤ 4 * 50 := Int.mul_le_mul g2.2 (by omega) (by omega) (by omega)
    rw [wrapS (x := at4 (cH f) i + s.2.1) (by omega) (by omega), wrapS (x := at4 (wantF f) i * (at4 (cH f) i + s.2.1)) (by omega) (by omega), wrapS (x := needS _ _ _ _ i + _) (by omega) (by omega)]
    simp only [needS] at hI
    refine cnd_iff.2 ⟨fun h5 => ⟨by omega, by omega, ?_⟩, fun h5 => ?_⟩
    · rw [if_pos (of_decide_eq_true h5)] at hI; exact hI
    · rw [if_neg (of_decide_eq_false h5), Int.add_zero] at hI; exact hI
  intro hl2
  have bN := needS_bnd (ck := at4 (cH f) k) v.cH v.want4 hs (k := 4) (by omega)
  refine forUp (σ := Int) (n := s.1.length) hl2 (fun j => needS (cH f) (wantF f) s.2.1 (at4 (cH f) k) 4 - hasS (s.1.take j) s.2.1 (at4 (cH f) k)) (by simp [hasS]) (fun j hj I μ hI hw => ?_) ?_
  · refine ⟨by omega, by omega, by omega, by omega, ?_⟩
    rw [hw]
    show cnd (decide (s.1.getD j 0 ≥ at4L (cH f) k)) _ _
    rw [at4_L _ hk4]
    have bH := hasS_bnd (ck := at4 (cH f) k) v.lv hs (k := j) (by omega)
    have hg := v.lv _ (getD_mem (d := 0) hj)
    simp only [hasS_succ hj] at hI
    show cnd _ (I _ (IntKind.wrap .i64 (_ - IntKind.wrap .i64 (s.1.getD j 0 + s.2.1))) ∧ μ _ (IntKind.wrap .i64 (_ - IntKind.wrap .i64 (s.1.getD j 0 + s.2.1))) < _) _
    rw [wrapS (x := s.1.getD j 0 + s.2.1) (by omega) (by omega), wrapS (by omega) (by omega)]
    refine cnd_iff.2 ⟨fun h5 => ?_, fun h5 => ?_⟩
    · rw [if_pos (of_decide_eq_true h5)] at hI
      rw [show needS (cH f) (wantF f) s.2.1 (at4 (cH f) k) 4 - (hasS (s.1.take j) s.2.1 (at4 (cH f) k) + (s.1.getD j 0 + s.2.1)) = needS (cH f) (wantF f) s.2.1 (at4 (cH f) k) 4 - hasS (s.1.take j) s.2.1 (at4 (cH f) k) - (s.1.getD j 0 + s.2.1) by omega] at hI
      exact hI
    · rw [if_neg (of_decide_eq_false h5)] at hI; exact hI
  · have bH := hasS_bnd (ck := at4 (cH f) k) v.lv hs (k := s.1.length) (by omega)
    rw [List.take_length] at bH
    simp only [List.take_length]
    have e1 : IntKind.wrap .i64 (p + s.2.1) = p + s.2.1 := wrapS (by omega) (by omega)
    rw [hw, e1]
    have hm : 0 ≤ mxI 0 (missB s f k) ∧ mxI 0 (missB s f k) ≤ 800 := by
      unfold mxI missB
      split <;> omega
    have e2 : IntKind.wrap .i64 (mxI 0 (missB s f k) + (p + s.2.1)) = mxI 0 (missB s f k) + (p + s.2.1) := wrapS (by omega) (by omega)
    have e3 : IntKind.wrap .i64 (mxI 0 (missB s f k) + (p + s.2.1) - 1) = mxI 0 (missB s f k) + (p + s.2.1) - 1 := wrapS (by omega) (by omega)
    have hd : 0 ≤ boundN s f p k ∧ boundN s f p k ≤ 100000 := by
      unfold boundN
      rw [Int.tdiv_eq_ediv_of_nonneg (by omega)]
      refine ⟨Int.ediv_nonneg (by omega) (by omega), ?_⟩
      have := Int.ediv_le_self (a := mxI 0 (missB s f k) + (p + s.2.1) - 1) (p + s.2.1) (by omega)
      omega
    have e4 : IntKind.wrap .i64 (boundN s f p k) = boundN s f p k := wrapS (by omega) (by omega)
    refine ⟨by omega, ?_⟩
    show cnd (decide (IntKind.wrap .i64 (Int.tdiv (IntKind.wrap .i64 (IntKind.wrap .i64 (mxI 0 (missB s f k) + (p + s.2.1)) - 1)) (p + s.2.1)) > _)) (I _ (IntKind.wrap .i64 (Int.tdiv (IntKind.wrap .i64 (IntKind.wrap .i64 (mxI 0 (missB s f k) + (p + s.2.1)) - 1)) (p + s.2.1))) _ ∧ μ _ (IntKind.wrap .i64 (Int.tdiv (IntKind.wrap .i64 (IntKind.wrap .i64 (mxI 0 (missB s f k) + (p + s.2.1)) - 1)) (p + s.2.1))) _ < _) _
    rw [e2, e3]
    show cnd (decide (IntKind.wrap .i64 (boundN s f p k) > _)) (I _ (IntKind.wrap .i64 (boundN s f p k)) _ ∧ μ _ (IntKind.wrap .i64 (boundN s f p k)) _ < _) _
    rw [e4]
    simp only [boundS_succ, boundStep] at hI
    refine cnd_iff.2 ⟨fun h5 => ?_, fun h5 => ?_⟩
    · rw [if_pos (of_decide_eq_true h5)] at hI; exact hI
    · rw [if_neg (of_decide_eq_false h5)] at hI; exact hI

theorem restGo_none {f : List Spring} {seam : Int} {a : List Int} : ∀ {b : List Int} {first : Bool} {left : Int}, restGo f seam b first left = none → restGo f seam (b ++ a) first left = none
  | [], _, _, h => by cases h
  | sp :: b, first, left, h => by
    simp only [restGo, List.cons_append] at h ⊢
    split
    · rfl
    · rename_i hh
      rw [if_neg hh] at h
      exact restGo_none h

theorem restGo_snoc {f : List Spring} {seam : Int} {x : Int} : ∀ {b : List Int} {first : Bool} {left l : Int}, restGo f seam b first left = some l →
    restGo f seam (b ++ [x]) first left = (if restNx f seam x (first && b.isEmpty) l < 0 then none else some (restNx f seam x (first && b.isEmpty) l))
  | [], first, left, l, h => by
    cases h
    simp only [List.nil_append, restGo, List.isEmpty_nil, Bool.and_true]
  | sp :: b, first, left, l, h => by
    simp only [restGo, List.cons_append] at h ⊢
    split at h
    · cases h
    · rename_i hh
      rw [if_neg hh, restGo_snoc h]
      simp only [List.isEmpty_cons, Bool.and_false, Bool.false_and]
theorem restGo_bnd {f : List Spring} {seam : Int} (hf : ∀ s, s ∈ f → 0 ≤ s.1.2) (hs : 0 ≤ seam) : ∀ {b : List Int} {first : Bool} {left l : Int}, 0 ≤ left → restGo f seam b first left = some l → 0 ≤ l ∧ l ≤ left
  | [], first, left, l, h0, h => by cases h; exact ⟨h0, Int.le_refl _⟩
  | sp :: b, first, left, l, h0, h => by
    simp only [restGo] at h
    split at h
    · cases h
    · rename_i hh
      have := restGo_bnd hf hs (by omega) h
      have g : 0 ≤ (f.getD sp.toNat ((0, 0), 0, 0)).1.2 := by
        by_cases hl : sp.toNat < f.length
        · exact hf _ (getD_mem hl)
        · rw [List.getD_eq_getElem?_getD, List.getElem?_eq_none (by omega)]; exact Int.le_refl _
      unfold restNx at this
      split at this <;> omega
theorem restAll_snoc {f : List Spring} {seam : Int} : ∀ {ls : List Int} {c : List (List Int)} {k : Nat} {out : List Int}, k < c.length → c.length = ls.length → restAll f seam (ls.take k) (c.take k) = some out →
    restAll f seam (ls.take (k + 1)) (c.take (k + 1)) = (restOne f seam (ls.getD k 0) (c.getD k [])).map fun x => out ++ [x]
  | [], c, k, out, hk, hl, h => by rw [List.length_nil] at hl; omega
  | leaf :: ls, [], k, out, hk, hl, h => by simp at hk
  | leaf :: ls, l :: c, 0, out, hk, hl, h => by
    cases h
    simp only [List.take_succ_cons, List.take_zero, restAll, List.getD_cons_zero]
    cases restOne f seam leaf l <;> rfl
  | leaf :: ls, l :: c, k + 1, out, hk, hl, h => by
    simp only [List.take_succ_cons, restAll, List.getD_cons_succ] at h ⊢
    cases hr : restOne f seam leaf l with
    | none => rw [hr] at h; cases h
    | some x =>
      rw [hr] at h
      simp only [List.take_succ_cons, restAll, List.getD_cons_succ] at h ⊢
      cases ha : restAll f seam (ls.take k) (c.take k) with
      | none => rw [ha] at h; cases h
      | some o =>
        rw [ha] at h
        cases h
        rw [restAll_snoc (by simpa using hk) (by simpa using hl) ha]
        cases restOne f seam (ls.getD k 0) (c.getD k []) <;> rfl
theorem restAll_none {f : List Spring} {seam : Int} : ∀ {ls : List Int} {c : List (List Int)} {k : Nat}, c.length = ls.length → restAll f seam (ls.take k) (c.take k) = none → restAll f seam ls c = none
  | [], c, k, hl, h => by
    obtain rfl : c = [] := by cases c with | nil => rfl | cons a r => simp at hl
    simpa using h
  | leaf :: ls, [], k, hl, h => by simp at hl
  | leaf :: ls, l :: c, 0, hl, h => by cases h
  | leaf :: ls, l :: c, k + 1, hl, h => by
    simp only [List.take_succ_cons, restAll] at h ⊢
    cases hr : restOne f seam leaf l with
    | none => rfl
    | some x =>
      rw [hr] at h
      simp only at h ⊢
      cases ha : restAll f seam (ls.take k) (c.take k) with
      | none => rw [restAll_none (by simpa using hl) ha]; rfl
      | some o => rw [ha] at h; cases h
theorem take_snoc {α : Type} {l : List α} {k : Nat} (hk : k < l.length) (d : α) : l.take (k + 1) = l.take k ++ [l.getD k d] := by
  rw [List.take_add_one, List.getElem?_eq_getElem hk, getD_lt hk]; rfl
theorem p36 {s : Store} {f : List Spring} {c : List (List Int)} {Q : List Int × Int × Unit → Prop} (h : f36_wp (s, f, c, ()) () Q) : V36 s f c Q := by
  have h : Q ((resRest s f c).1, (resRest s f c).2, ()) := h
  unfold resRest at h
  show cnd (checkF s f != 0) _ _
  refine cnd_iff.2 ⟨fun hc => ?_, fun hc _ _ => ?_⟩
  · rw [if_pos (ne_of_bne hc)] at h; exact h
  have hc := eq_of_bne hc
  have v := vok_of hc
  rw [if_neg (by simpa using hc)] at h
  have hs := v.sm
  have hf4 := v.f4
  have hn6 := v.n6
  unfold restF at h
  refine cnd_iff.2 ⟨fun h1 => ?_, fun h1 => ?_⟩
  · have h1 : (c.length : Int) ≠ s.1.length := ne_of_bne h1
    rw [if_pos (.inl (by omega))] at h; exact h
  have h1 : (c.length : Int) = s.1.length := eq_of_bne h1
  have hcl : c.length = s.1.length := by omega
  refine ⟨noneF f.length, fun l _ Q h => ⟨by show f.length ≤ 100; omega, h⟩, cnd_iff.2 ⟨fun h2 => ?_, fun h2 _ => ?_⟩⟩
  · rw [if_pos (.inr h2)] at h; exact h
  have h2 : c.any (noneF f.length) = false := h2
  rw [if_neg (by rw [h2]; simp [hcl])] at h
  have hin : ∀ k, k < c.length → ∀ j, j < (c.getD k []).length → 0 ≤ (c.getD k []).getD j 0 ∧ (c.getD k []).getD j 0 ≤ (f.length : Int) - 1 := by
    intro k hk j hj
    have := (List.any_eq_false.1 h2) _ (getD_mem (d := []) hk)
    simp only [noneF, Bool.or_eq_true, not_or] at this
    have h3 : (c.getD k []).all (inB 0 ((f.length : Int) - 1)) = true := by
      have := this.1
      cases hh : (c.getD k []).all (inB 0 ((f.length : Int) - 1)) with
      | true => rfl
      | false => rw [hh] at this; simp at this
    exact inB_iff.1 (all_iff.1 h3 _ (getD_mem hj))
  refine ⟨fun x out => ∃ k : Nat, (k ≤ c.length ∧ x = k ∧ out.length = k) ∧ restAll f s.2.1 (s.1.take k) (c.take k) = some out, fun x _ => (c.length - x).toNat, ⟨0, ⟨Nat.zero_le _, rfl, rfl⟩, by cases c <;> cases s.1 <;> rfl⟩, ?_⟩
  rintro x out ⟨k, ⟨hk, rfl, hol⟩, hout⟩
  refine cnd_iff.2 ⟨fun h3 => ?_, fun h3 => ?_⟩
  · have h3 : (k : Int) < c.length := of_decide_eq_true h3
    have hk : k < c.length := by omega
    refine ⟨by omega, by omega, by omega, by omega, fun hl => ?_⟩
    have hleaf := v.lv _ (getD_mem (d := 0) (show k < s.1.length by omega))
    have hsn := restAll_snoc hk hcl hout
    have hnn : restOne f s.2.1 (s.1.getD k 0) (c.getD k []) = none → restAll f s.2.1 s.1 c = none := fun hh => restAll_none (k := k + 1) hcl (by rw [hsn, hh]; rfl)
    have hfs : ∀ s, s ∈ f → 0 ≤ s.1.2 := fun s hs => by have := v.sp s hs; omega
    refine forUpGS2 (n := (c.getD k []).length) hl (fun j left out' => out' = out ∧ restGo f s.2.1 ((c.getD k []).take j) true (s.1.getD k 0) = some left) ⟨rfl, by simp [restGo]⟩ (fun j hj left out' hg I μ hI hw => ?_) (fun left out' hg _ => ?_)
    · obtain ⟨rfl, hg⟩ := hg
      have hij := hin k hk j hj
      have hb := restGo_bnd hfs hs.1 (by omega) hg
      have hsp : (f.getD ((c.getD k []).getD j 0).toNat ((0, 0), 0, 0)).1.2 ≤ 40 ∧ 0 ≤ (f.getD ((c.getD k []).getD j 0).toNat ((0, 0), 0, 0)).1.2 := by
        have := v.getS (i := ((c.getD k []).getD j 0).toNat) (by omega)
        omega
      have hstep := restGo_snoc (x := (c.getD k []).getD j 0) hg
      rw [← take_snoc hj 0] at hstep
      refine ⟨by omega, by show (j : Int) < ((c.getD k []).length : Int); omega, hij.1, by show (c.getD k []).getD j 0 < (f.length : Int); omega, ?_⟩
      rw [hw]
      have e1 : IntKind.wrap .i64 (left - (f.getD ((c.getD k []).getD j 0).toNat ((0, 0), 0, 0)).1.2) = left - (f.getD ((c.getD k []).getD j 0).toNat ((0, 0), 0, 0)).1.2 := wrapS (by omega) (by omega)
      have e2 : IntKind.wrap .i64 (left - (f.getD ((c.getD k []).getD j 0).toNat ((0, 0), 0, 0)).1.2 - s.2.1) = left - (f.getD ((c.getD k []).getD j 0).toNat ((0, 0), 0, 0)).1.2 - s.2.1 := wrapS (by omega) (by omega)
      show cnd (decide ((j : Int) > 0)) (cnd (decide (IntKind.wrap .i64 (IntKind.wrap .i64 (left - (f.getD ((c.getD k []).getD j 0).toNat ((0, 0), 0, 0)).1.2) - s.2.1) < 0)) _ (I _ (IntKind.wrap .i64 (IntKind.wrap .i64 (left - (f.getD ((c.getD k []).getD j 0).toNat ((0, 0), 0, 0)).1.2) - s.2.1)) _ ∧ μ _ (IntKind.wrap .i64 (IntKind.wrap .i64 (left - (f.getD ((c.getD k []).getD j 0).toNat ((0, 0), 0, 0)).1.2) - s.2.1)) _ < _))
        (cnd (decide (IntKind.wrap .i64 (left - (f.getD ((c.getD k []).getD j 0).toNat ((0, 0), 0, 0)).1.2) < 0)) _ (I _ (IntKind.wrap .i64 (left - (f.getD ((c.getD k []).getD j 0).toNat ((0, 0), 0, 0)).1.2)) _ ∧ μ _ (IntKind.wrap .i64 (left - (f.getD ((c.getD k []).getD j 0).toNat ((0, 0), 0, 0)).1.2)) _ < _))
      rw [e1, e2]
      have out9 : restGo f s.2.1 ((c.getD k []).take (j + 1)) true (s.1.getD k 0) = none → Q ([], 9, ()) := fun hh => by
        have h4 : restOne f s.2.1 (s.1.getD k 0) (c.getD k []) = none := by
          have := restGo_none (a := (c.getD k []).drop (j + 1)) hh
          rw [List.take_append_drop] at this
          unfold restOne; rw [this]; rfl
        rw [hnn h4] at h; exact h
      have hemp : ((c.getD k []).take j).isEmpty = decide (j = 0) := by
        cases j with
        | zero => rfl
        | succ j =>
          cases hh : (c.getD k []).take (j + 1) with
          | nil => have := congrArg List.length hh; rw [List.length_take, List.length_nil] at this; omega
          | cons a r => rfl
      rw [hemp] at hstep
      refine cnd_iff.2 ⟨fun h4 => ?_, fun h4 => ?_⟩
      · have h4 : (j : Int) > 0 := of_decide_eq_true h4
        have h5 : ¬ j = 0 := by omega
        simp only [h5, decide_false, Bool.and_false, restNx, Bool.false_eq_true, if_false] at hstep
        refine cnd_iff.2 ⟨fun h6 => ?_, fun h6 => hI _ _ ⟨rfl, ?_⟩⟩
        · rw [if_pos (of_decide_eq_true h6)] at hstep; exact out9 hstep
        · rw [if_neg (of_decide_eq_false h6)] at hstep; exact hstep
      · have h4 : ¬ (j : Int) > 0 := of_decide_eq_false h4
        have h5 : j = 0 := by omega
        simp only [h5, decide_true, Bool.and_true, restNx, if_true, Int.sub_zero] at hstep
        subst h5
        refine cnd_iff.2 ⟨fun h6 => ?_, fun h6 => hI _ _ ⟨rfl, ?_⟩⟩
        · rw [if_pos (of_decide_eq_true h6)] at hstep; exact out9 hstep
        · rw [if_neg (of_decide_eq_false h6)] at hstep; exact hstep
    · obtain ⟨rfl, hg⟩ := hg
      rw [List.take_length] at hg
      have hb := restGo_bnd hfs hs.1 (by omega) hg
      have hw2 : IntKind.wrap .i64 ((k : Int) + 1) = k + 1 := wrapS (by omega) (by omega)
      have e3 : IntKind.wrap .i64 (left - s.2.1) = left - s.2.1 := wrapS (by omega) (by omega)
      rw [hw2, e3]
      have fin : ∀ y, restOne f s.2.1 (s.1.getD k 0) (c.getD k []) = some y → (∃ k' : Nat, (k' ≤ c.length ∧ (k : Int) + 1 = k' ∧ (out' ++ [y]).length = k') ∧ restAll f s.2.1 (s.1.take k') (c.take k') = some (out' ++ [y])) ∧ ((c.length : Int) - ((k : Int) + 1)).toNat < ((c.length : Int) - (k : Int)).toNat := fun y hy => by
        refine ⟨⟨k + 1, ⟨by omega, by push_cast; rfl, by simp [hol]⟩, ?_⟩, by omega⟩
        rw [hsn, hy]; rfl
      refine cnd_iff.2 ⟨fun h4 => ⟨by simp only [List.length_cons, List.length_nil]; omega, fin _ ?_⟩, fun h4 => ⟨by simp only [List.length_cons, List.length_nil]; omega, fin _ ?_⟩⟩
      · have h4 : ((c.getD k []).length : Int) > 0 := of_decide_eq_true h4
        unfold restOne
        rw [hg, Option.map_some, if_pos (by omega)]
      · have h4 : ¬ ((c.getD k []).length : Int) > 0 := of_decide_eq_false h4
        unfold restOne
        rw [hg, Option.map_some, if_neg (by omega)]
  · have h3 : ¬ (k : Int) < c.length := of_decide_eq_false h3
    have : k = c.length := by omega
    subst this
    rw [List.take_length, hcl, List.take_length] at hout
    rw [hout] at h
    exact h
end Go.Proofs.Fa
set_option maxRecDepth 100000
namespace Go.Proofs.Fa
open Go Go.GX Go.Proofs
variable [Inhabited BaseD]
theorem ok92 : CallsOK Try.prog (assoc glT) 92 f92_ct :=
  callsOK_mkM [] st_ok mp_ok it_ok mk_ok in_ok AllOK.nil no_an Try.func92 (by kernel_rfl) (by kernel_rfl) f92_ct fun n ⟨lo, hi, _⟩ Q h => (v92 n lo hi Q).mp (p92 h)
theorem ok104 : CallsOK Try.prog (assoc glT) 104 f104_ct :=
  callsOK_mkM [] st_ok mp_ok it_ok mk_ok in_ok AllOK.nil idx_an Try.func104 (by kernel_rfl) (by kernel_rfl) f104_ct fun ⟨xs, f, _⟩ _ Q h => (v104 xs f Q).mp (p104 h)
theorem ok91 : CallsOK Try.prog (assoc glT) 91 f91_ct :=
  callsOK_mkM [] st_ok mp_ok it_ok mk_ok in_ok (AllOK.cons ok104 AllOK.nil) no_an Try.func91 (by kernel_rfl) (by kernel_rfl) f91_ct fun ⟨xs, f, _⟩ _ Q h => (v91 xs f Q).mp (p91 h)
theorem ok93 : CallsOK Try.prog (assoc glT) 93 f93_ct :=
  callsOK_mkM [] st_ok mp_ok it_ok mk_ok in_ok AllOK.nil idx_an Try.func93 (by kernel_rfl) (by kernel_rfl) f93_ct fun ⟨xs, f, _⟩ _ Q h => (v93 xs f Q).mp (p93 h)
theorem ok59 : CallsOK Try.prog (assoc glT) 59 f59_ct :=
  callsOK_mkM [] st_ok mp_ok it_ok mk_ok in_ok (AllOK.cons ok93 AllOK.nil) no_an Try.func59 (by kernel_rfl) (by kernel_rfl) f59_ct fun ⟨xs, f, _⟩ _ Q h => (v59 xs f Q).mp (p59 h)
theorem ok94 : CallsOK Try.prog (assoc glT) 94 f94_ct :=
  callsOK_mkM [] st_ok mp_ok it_ok mk_ok in_ok AllOK.nil idx_an Try.func94 (by kernel_rfl) (by kernel_rfl) f94_ct fun ⟨xs, f, _⟩ _ Q h => (v94 xs f Q).mp (p94 h)
theorem ok62 : CallsOK Try.prog (assoc glT) 62 f62_ct :=
  callsOK_mkM [] st_ok mp_ok it_ok mk_ok in_ok (AllOK.cons ok94 AllOK.nil) no_an Try.func62 (by kernel_rfl) (by kernel_rfl) f62_ct fun ⟨xs, f, _⟩ _ Q h => (v62 xs f Q).mp (p62 h)
theorem ok101 : CallsOK Try.prog (assoc glT) 101 f101_ct :=
  callsOK_mkM [] st_ok mp_ok it_ok mk_ok in_ok AllOK.nil idx_an Try.func101 (by kernel_rfl) (by kernel_rfl) f101_ct fun ⟨xs, f, _⟩ _ Q h => (v101 xs f Q).mp (p101 h)
theorem ok85 : CallsOK Try.prog (assoc glT) 85 f85_ct :=
  callsOK_mkM [] st_ok mp_ok it_ok mk_ok in_ok (AllOK.cons ok101 AllOK.nil) no_an Try.func85 (by kernel_rfl) (by kernel_rfl) f85_ct fun ⟨xs, f, _⟩ _ Q h => (v85 xs f Q).mp (p85 h)
theorem ok58 : CallsOK Try.prog (assoc glT) 58 f58_ct :=
  callsOK_mkM [] st_ok mp_ok it_ok mk_ok in_ok (AllOK.cons ok91 (AllOK.cons ok92 AllOK.nil)) no_an Try.func58 (by kernel_rfl) (by kernel_rfl) f58_ct fun ⟨lo, hi, xs, _⟩ _ Q h => (v58 lo hi xs Q).mp (p58 h)
theorem ok61 : CallsOK Try.prog (assoc glT) 61 f61_ct :=
  callsOK_mkM [] st_ok mp_ok it_ok mk_ok in_ok (AllOK.cons ok58 AllOK.nil) no_an Try.func61 (by kernel_rfl) (by kernel_rfl) f61_ct fun l _ Q h => (v61 l Q).mp (p61 h)
theorem ok60 : CallsOK Try.prog (assoc glT) 60 f60_ct :=
  callsOK_mkM [] st_ok mp_ok it_ok mk_ok in_ok (AllOK.cons ok61 AllOK.nil) no_an Try.func60 (by kernel_rfl) (by kernel_rfl) f60_ct fun l _ Q h => (v60 l Q).mp (p60 h)
theorem ok64 : CallsOK Try.prog (assoc glT) 64 f64_ct :=
  callsOK_mkM [] st_ok mp_ok it_ok mk_ok in_ok (AllOK.cons ok58 AllOK.nil) no_an Try.func64 (by kernel_rfl) (by kernel_rfl) f64_ct fun s _ Q h => (v64 s Q).mp (p64 h)
theorem ok63 : CallsOK Try.prog (assoc glT) 63 f63_ct :=
  callsOK_mkM [] st_ok mp_ok it_ok mk_ok in_ok (AllOK.cons ok64 AllOK.nil) no_an Try.func63 (by kernel_rfl) (by kernel_rfl) f63_ct fun s _ Q h => (v63 s Q).mp (p63 h)
theorem ok20 : CallsOK Try.prog (assoc glT) 20 f20_ct :=
  callsOK_mkM [] st_ok mp_ok it_ok mk_ok in_ok (AllOK.cons ok58 (AllOK.cons ok59 (AllOK.cons ok60 (AllOK.cons ok62 (AllOK.cons ok63 AllOK.nil))))) no_an Try.func20 (by kernel_rfl) (by kernel_rfl) f20_ct fun ⟨s, f, _⟩ _ Q h => (v20 s f Q).mp (p20 h)
theorem ok78 : CallsOK Try.prog (assoc glT) 78 f78_ct :=
  callsOK_mkM [] st_ok mp_ok it_ok mk_ok in_ok (AllOK.cons ok58 AllOK.nil) no_an Try.func78 (by kernel_rfl) (by kernel_rfl) f78_ct fun n _ Q h => (v78 n Q).mp (p78 h)
theorem ok79 : CallsOK Try.prog (assoc glT) 79 f79_ct :=
  callsOK_mkM [300] st_ok mp_ok it_ok mk_ok in_ok AllOK.nil no_an Try.func79 (by kernel_rfl) (by kernel_rfl) f79_ct fun xs _ Q h => (v79 xs Q).mp (p79 h)
theorem ok106 : CallsOK Try.prog (assoc glT) 106 f106_ct :=
  callsOK_mkM [] st_ok mp_ok it_ok mk_ok in_ok AllOK.nil no_an Try.func106 (by kernel_rfl) (by kernel_rfl) f106_ct fun n _ Q h => (v106 n Q).mp (p106 h)
theorem ok100 : CallsOK Try.prog (assoc glT) 100 f100_ct :=
  callsOK_mkM [] st_ok mp_ok it_ok mk_ok in_ok (AllOK.cons ok106 AllOK.nil) no_an Try.func100 (by kernel_rfl) (by kernel_rfl) f100_ct fun ⟨a, b, _⟩ _ Q h => (v100 a b Q).mp (p100 h)
theorem ok103 : CallsOK Try.prog (assoc glT) 103 f103_ct :=
  callsOK_mkM [] st_ok mp_ok it_ok mk_ok in_ok (AllOK.cons ok106 AllOK.nil) no_an Try.func103 (by kernel_rfl) (by kernel_rfl) f103_ct fun ⟨a, b, _⟩ _ Q h => (v103 a b Q).mp (p103 h)
theorem ok89 : CallsOK Try.prog (assoc glT) 89 f89_ct :=
  callsOK_mkM [] st_ok mp_ok it_ok mk_ok in_ok (AllOK.cons ok103 AllOK.nil) f89_an Try.func89 (by kernel_rfl) (by kernel_rfl) f89_ct fun ⟨a, b, _⟩ _ Q h => (v89 a b Q).mp (p89 h)
theorem ok84 : CallsOK Try.prog (assoc glT) 84 f84_ct :=
  callsOK_mkM [] st_ok mp_ok it_ok mk_ok in_ok (AllOK.cons ok100 AllOK.nil) f84_an Try.func84 (by kernel_rfl) (by kernel_rfl) f84_ct fun xs _ Q h => (v84 xs Q).mp (p84 h)
theorem ok110 : CallsOK Try.prog (assoc glT) 110 f110_ct :=
  callsOK_mkM [] st_ok mp_ok it_ok mk_ok in_ok AllOK.nil no_an Try.func110 (by kernel_rfl) (by kernel_rfl) f110_ct fun ⟨a, b, _⟩ _ Q h => (v110 a b Q).mp (p110 h)
theorem ok108 : CallsOK Try.prog (assoc glT) 108 f108_ct :=
  callsOK_mkM [] st_ok mp_ok it_ok mk_ok in_ok (AllOK.cons ok110 AllOK.nil) no_an Try.func108 (by kernel_rfl) (by kernel_rfl) f108_ct fun ⟨a, b, _⟩ _ Q h => (v108 a b Q).mp (p108 h)
theorem ok107 : CallsOK Try.prog (assoc glT) 107 f107_ct :=
  callsOK_mkM [903,906] st_ok mp_ok it_ok mk_ok in_ok (AllOK.cons ok108 AllOK.nil) f107_an Try.func107 (by kernel_rfl) (by kernel_rfl) f107_ct fun ⟨xs, n, _⟩ _ Q h => (v107 xs n Q).mp (p107 h)
theorem ok80 : CallsOK Try.prog (assoc glT) 80 f80_ct :=
  callsOK_mkM [] st_ok mp_ok it_ok mk_ok in_ok AllOK.nil f80_an Try.func80 (by kernel_rfl) (by kernel_rfl) f80_ct fun f _ Q h => (v80 f Q).mp (p80 h)
theorem ok105 : CallsOK Try.prog (assoc glT) 105 f105_ct :=
  callsOK_mkM [] st_ok mp_ok it_ok mk_ok in_ok (AllOK.cons ok107 AllOK.nil) f105_an Try.func105 (by kernel_rfl) (by kernel_rfl) f105_ct fun f _ Q h => (v105 f Q).mp (p105 h)
theorem ok97 : CallsOK Try.prog (assoc glT) 97 f97_ct :=
  callsOK_mkM [] st_ok mp_ok it_ok mk_ok in_ok AllOK.nil f97_an Try.func97 (by kernel_rfl) (by kernel_rfl) f97_ct fun ⟨b, f, _⟩ _ Q h => (v97 b f Q).mp (p97 h)
theorem ok98 : CallsOK Try.prog (assoc glT) 98 f98_ct :=
  callsOK_mkM [] st_ok mp_ok it_ok mk_ok in_ok AllOK.nil f97_an Try.func98 (by kernel_rfl) (by kernel_rfl) f98_ct fun ⟨b, f, _⟩ _ Q h => (v98 b f Q).mp (p98 h)
theorem ok99 : CallsOK Try.prog (assoc glT) 99 f99_ct :=
  callsOK_mkM [] st_ok mp_ok it_ok mk_ok in_ok AllOK.nil f99_an Try.func99 (by kernel_rfl) (by kernel_rfl) f99_ct fun ⟨a, b, _⟩ _ Q h => (v99 a b Q).mp (p99 h)
theorem ok66 : CallsOK Try.prog (assoc glT) 66 f66_ct :=
  callsOK_mkM [] st_ok mp_ok it_ok mk_ok in_ok AllOK.nil no_an Try.func66 (by kernel_rfl) (by kernel_rfl) f66_ct fun s _ Q h => (v66 s Q).mp (p66 h)
theorem ok65 : CallsOK Try.prog (assoc glT) 65 f65_ct :=
  callsOK_mkM [] st_ok mp_ok it_ok mk_ok in_ok AllOK.nil f65_an Try.func65 (by kernel_rfl) (by kernel_rfl) f65_ct fun ⟨s, f, e, _⟩ _ Q h => (v65 s f e Q).mp (p65 h)
theorem ok69 : CallsOK Try.prog (assoc glT) 69 f69_ct :=
  callsOK_mkM [] st_ok mp_ok it_ok mk_ok in_ok AllOK.nil f69_an Try.func69 (by kernel_rfl) (by kernel_rfl) f69_ct fun x _ Q h => (v69 x Q).mp (p69 h)
theorem ok68 : CallsOK Try.prog (assoc glT) 68 f68_ct :=
  callsOK_mkM [] st_ok mp_ok it_ok mk_ok in_ok AllOK.nil f68_an Try.func68 (by kernel_rfl) (by kernel_rfl) f68_ct fun ⟨x, e, i, _⟩ _ Q h => (v68 x e i Q).mp (p68 h)
theorem ok77 : CallsOK Try.prog (assoc glT) 77 f77_ct :=
  callsOK_mkM [] st_ok mp_ok it_ok mk_ok in_ok AllOK.nil f77_an Try.func77 (by kernel_rfl) (by kernel_rfl) f77_ct fun x _ Q h => (v77 x Q).mp (p77 h)
theorem ok82 : CallsOK Try.prog (assoc glT) 82 f82_ct := ok82x ok97 ok98 ok99
end Go.Proofs.Fa
set_option maxRecDepth 100000
namespace Go.Proofs.Fa
open Go Go.GX Go.Proofs
variable [Inhabited BaseD]
theorem ok95 : CallsOK Try.prog (assoc glT) 95 f95_ct :=
  callsOK_mkM [] st_ok mp_ok it_ok mk_ok in_ok (AllOK.cons ok82 (AllOK.cons ok97 (AllOK.cons ok98 (AllOK.cons ok99 (AllOK.cons ok105 (AllOK.cons ok89 AllOK.nil)))))) f95_an Try.func95 (by kernel_rfl) (by kernel_rfl) f95_ct fun ⟨p, f, _⟩ _ Q h => (v95 p f Q).mp (p95 h)
theorem ok67 : CallsOK Try.prog (assoc glT) 67 f67_ct :=
  callsOK_mkM [] st_ok mp_ok it_ok mk_ok in_ok (AllOK.cons ok81 (AllOK.cons ok82 (AllOK.cons ok95 AllOK.nil))) no_an Try.func67 (by kernel_rfl) (by kernel_rfl) f67_ct fun ⟨bs, f, _⟩ _ Q h => (v67 bs f Q).mp (p67 h)
theorem ok102 : CallsOK Try.prog (assoc glT) 102 f102_ct :=
  callsOK_mkM [] st_ok mp_ok it_ok mk_ok in_ok (AllOK.cons ok82 AllOK.nil) no_an Try.func102 (by kernel_rfl) (by kernel_rfl) f102_ct fun f ⟨p, q, _⟩ Q h => (v102 f p q Q).mp (p102 h)
theorem ok86 : CallsOK Try.prog (assoc glT) 86 f86_ct :=
  callsOK_mkM [] st_ok mp_ok it_ok mk_ok in_ok (AllOK.cons ok68 (AllOK.cons ok81 (AllOK.cons ok77 (AllOK.cons ok102 AllOK.nil)))) no_an Try.func86 (by kernel_rfl) (by kernel_rfl) f86_ct fun x _ Q h => (v86 x Q).mp (p86 h)
theorem ok21 : CallsOK Try.prog (assoc glT) 21 f21_ct :=
  callsOK_mkM [] st_ok mp_ok it_ok mk_ok in_ok (AllOK.cons ok20 (AllOK.cons ok65 (AllOK.cons ok66 (AllOK.cons ok68 (AllOK.cons ok69 (AllOK.cons ok67 AllOK.nil)))))) no_an Try.func21 (by kernel_rfl) (by kernel_rfl) f21_ct fun ⟨s, f, _⟩ _ Q h => (v21 s f Q).mp (p21 h)
theorem ok29 : CallsOK Try.prog (assoc glT) 29 f29_ct :=
  callsOK_mkM [] st_ok mp_ok it_ok mk_ok in_ok (AllOK.cons ok20 (AllOK.cons ok65 (AllOK.cons ok66 (AllOK.cons ok77 (AllOK.cons ok69 (AllOK.cons ok67 AllOK.nil)))))) no_an Try.func29 (by kernel_rfl) (by kernel_rfl) f29_ct fun ⟨s, f, _⟩ _ Q h => (v29 s f Q).mp (p29 h)
theorem ok50 : CallsOK Try.prog (assoc glT) 50 f50_ct :=
  callsOK_mkM [] st_ok mp_ok it_ok mk_ok in_ok (AllOK.cons ok20 (AllOK.cons ok65 (AllOK.cons ok66 (AllOK.cons ok86 (AllOK.cons ok69 (AllOK.cons ok80 (AllOK.cons ok89 (AllOK.cons ok79 AllOK.nil)))))))) f50_an Try.func50 (by kernel_rfl) (by kernel_rfl) f50_ct fun ⟨s, f, _⟩ _ Q h => (v50 s f Q).mp (p50 h)
theorem ok31 : CallsOK Try.prog (assoc glT) 31 f31_ct :=
  callsOK_mkM [] st_ok mp_ok it_ok mk_ok in_ok (AllOK.cons ok20 (AllOK.cons ok78 (AllOK.cons ok65 (AllOK.cons ok66 (AllOK.cons ok79 (AllOK.cons ok69 (AllOK.cons ok80 (AllOK.cons ok68 (AllOK.cons ok81 (AllOK.cons ok82 AllOK.nil)))))))))) f31_an Try.func31 (by kernel_rfl) (by kernel_rfl) f31_ct fun ⟨s, f, p, _⟩ _ Q h => (v31 s f p Q).mp (p31 h)
theorem ok34 : CallsOK Try.prog (assoc glT) 34 f34_ct :=
  callsOK_mkM [] st_ok mp_ok it_ok mk_ok in_ok (AllOK.cons ok20 (AllOK.cons ok78 (AllOK.cons ok65 (AllOK.cons ok66 (AllOK.cons ok69 AllOK.nil))))) f34_an Try.func34 (by kernel_rfl) (by kernel_rfl) f34_ct fun ⟨s, f, p, _⟩ _ Q h => (v34 s f p Q).mp (p34 h)
theorem ok83 : CallsOK Try.prog (assoc glT) 83 f83_ct :=
  callsOK_mkM [] st_ok mp_ok it_ok mk_ok in_ok (AllOK.cons ok58 (AllOK.cons ok84 AllOK.nil)) no_an Try.func83 (by kernel_rfl) (by kernel_rfl) f83_ct fun l ⟨f, _⟩ Q h => (v83 l f Q).mp (p83 h)
theorem ok36 : CallsOK Try.prog (assoc glT) 36 f36_ct :=
  callsOK_mkM [] st_ok mp_ok it_ok mk_ok in_ok (AllOK.cons ok20 (AllOK.cons ok83 (AllOK.cons ok85 AllOK.nil))) f36_an Try.func36 (by kernel_rfl) (by kernel_rfl) f36_ct fun ⟨s, f, c, _⟩ _ Q h => (v36 s f c Q).mp (p36 h)
theorem ok39 : CallsOK Try.prog (assoc glT) 39 f39_ct :=
  callsOK_mkM [] st_ok mp_ok it_ok mk_ok in_ok (AllOK.cons ok20 (AllOK.cons ok65 (AllOK.cons ok66 (AllOK.cons ok68 (AllOK.cons ok81 (AllOK.cons ok69 (AllOK.cons ok82 (AllOK.cons ok77 AllOK.nil)))))))) no_an Try.func39 (by kernel_rfl) (by kernel_rfl) f39_ct fun ⟨s, f, _⟩ _ Q h => (v39 s f Q).mp (p39 h)
theorem ok41 : CallsOK Try.prog (assoc glT) 41 f41_ct :=
  callsOK_mkM [] st_ok mp_ok it_ok mk_ok in_ok (AllOK.cons ok20 (AllOK.cons ok58 (AllOK.cons ok65 (AllOK.cons ok66 (AllOK.cons ok86 (AllOK.cons ok69 AllOK.nil)))))) f41_an Try.func41 (by kernel_rfl) (by kernel_rfl) f41_ct fun ⟨s, f, k, _⟩ _ Q h => (v41 s f k Q).mp (p41 h)
end Go.Proofs.Fa
namespace Go.Proofs.Fa
open Go Go.GX Go.Proofs

def f32_wp : Int × Int × Int × Unit → Unit → (Bool → Prop) → Prop := fun a _ Q => Q (inB a.2.1 a.2.2.1 a.1)
def f32_ct : Ct := ⟨arg3 k3 k3 k3, .unit, .bool, f32_wp, false, false⟩
def f22_wp : Store × List Spring × Unit → Unit → (Int → Prop) → Prop := fun a _ Q => Q (checkF a.1 a.2.1)
def f22_ct : Ct := ⟨arg2 k25 k26, .unit, k31, f22_wp, false, false⟩
def f22_an : Nat → Items
  | 0 => [.t 5 k3]
  | 2 => [.t 6 k3]
  | 4 => [.t 7 k3]
  | _ => []
def f16_wp : Store × List Spring × Unit → Unit → (Bool → Prop) → Prop := fun a _ Q => Q (decide (8 < a.1.1.length ∨ 8 < a.1.2.2.length ∨ 8 < a.2.1.length))
def f16_ct : Ct := ⟨arg2 k25 k26, .unit, .bool, f16_wp, false, false⟩
def f18_wp : Store → Unit → (Store → Prop) → Prop := fun s _ Q => (s.1.length ≤ 8 ∧ s.2.2.length ≤ 8) ∧ Q s
def f18_ct : Ct := ⟨k25, .unit, k25, f18_wp, false, false⟩
def f19_wp : List Spring → Unit → (List Spring → Prop) → Prop := fun f _ Q => f.length ≤ 8 ∧ Q f
def f19_ct : Ct := ⟨k26, .unit, k26, f19_wp, false, false⟩
def f38_wp : List Int × List Int × Unit → Unit → (Bool → Prop) → Prop := fun a _ Q => Q (decide (a.1 = a.2.1))
def f38_ct : Ct := ⟨arg2 k22 k22, .unit, .bool, f38_wp, false, false⟩
def one_an : Nat → Items
  | 0 => [.t 5 k3]
  | _ => []
def f71_wp : List Spring × List Spring × Unit → Unit → (Bool → Prop) → Prop := fun a _ Q => Q (decide (a.1 = a.2.1))
def f71_ct : Ct := ⟨arg2 k26 k26, .unit, .bool, f71_wp, false, false⟩
def f70_wp : Store × Store × Unit → Unit → (Bool → Prop) → Prop := fun a _ Q => Q (decide (a.1 = a.2.1))
def f70_ct : Ct := ⟨arg2 k25 k25, .unit, .bool, f70_wp, false, false⟩
def f23_wp : Store × Store × List Spring × List Spring × Unit → Unit → (Bool → Prop) → Prop := fun a _ Q => Q (decide (a.1 = a.2.1 ∧ a.2.2.1 = a.2.2.2.1))
def f23_ct : Ct := ⟨arg4 k25 k25 k26 k26, .unit, .bool, f23_wp, false, false⟩
def f28_wp : List (List Int) × List (List Int) × Unit → Unit → (Bool → Prop) → Prop := fun a _ Q => Q (decide (a.1 = a.2.1))
def f28_ct : Ct := ⟨arg2 k33 k33, .unit, .bool, f28_wp, false, false⟩

def F5 (f : FansT) : Prop := all4 (fun x => 0 ≤ x ∧ x ≤ 4) f
def atF (n : Int) : FansT := (n / 125, n / 25 % 5, n / 5 % 5, n % 5)
def idx5 (f : FansT) : Int := ((f.1 * 5 + f.2.1) * 5 + f.2.2.1) * 5 + f.2.2.2
def costF (b : BinT) (f : FansT) : Int := if GX.Fa.fitsB b f then GX.Fa.lossV b f else -1
def lstStep (b : BinT) (rest : FansT → Int) (f : FansT) (best : Int) (s : FansT) : Int :=
  if !ge0 (GX.Fa.less f s) || decide (rest (GX.Fa.less f s) < 0) then best
  else if decide (0 ≤ costF b s) && (decide (best < 0) || decide (costF b s + rest (GX.Fa.less f s) < best)) then costF b s + rest (GX.Fa.less f s) else best
def lstR (b : BinT) (rest : FansT → Int) (f : FansT) : Int := (List.range ((idx5 f).toNat + 1)).foldl (fun best (n : Nat) => lstStep b rest f best (atF n)) (-1)
def tval : List BinT → FansT → Int
  | [], f => if GX.Fa.isNo f then 0 else -1
  | b :: r, f => lstR b (tval r) f
structure Bins0 (bs : List BinT) : Prop where
  b : BinsOK bs
  n : ∀ b, b ∈ bs → ∀ s, F5 s → GX.Fa.fitsB b s = true → 0 ≤ GX.Fa.lossV b s
  k : bs.length ≤ 100
def f26_wp : List Spring × Bool × Unit → Unit → (FansT → Prop) → Prop := fun a _ Q => a.1.length ≤ 4 ∧ Q (if a.2.1 then cH a.1 else cL a.1)
def f26_ct : Ct := ⟨arg2 k26 .bool, .unit, k41, f26_wp, false, false⟩
def f27_wp : List Spring → Unit → (FansT → Prop) → Prop := fun f _ Q => f.length ≤ 4 ∧ Q (wantF f)
def f27_ct : Ct := ⟨k26, .unit, k41, f27_wp, false, false⟩
def leavesR (ls : List Int) (seam : Int) (c : FansT) (each first : Int) : List BinT := ls.map fun p => (tup4 fun i => at4 c i + seam, tup4 fun _ => each, p + seam, first)
def f25_wp : List Int × Int × FansT × Int × Int × Unit → Unit → (List BinT → Prop) → Prop := fun a _ Q =>
  (a.1.length ≤ 500 ∧ (∀ l, l ∈ a.1 → bnd 400 l) ∧ bnd 400 a.2.1 ∧ all4 (bnd 400) a.2.2.1) ∧ Q (leavesR a.1 a.2.1 a.2.2.1 a.2.2.2.1 a.2.2.2.2.1)
def f25_ct : Ct := ⟨.pair k22 (.pair k3 (arg3 k41 k3 k3)), .unit, k39, f25_wp, true, false⟩
def lotR (f : List Spring) (c : FansT) (l : Lot) : BinT :=
  (tup4 fun i => if i < f.length then (if (f.getD i ((0, 0), 0, 0)).2.2 > l.1 then 1000 else at4 c i) else 0,
    tup4 fun i => if i < f.length then (if (f.getD i ((0, 0), 0, 0)).2.2 > l.1 then 0 else at4 c i * (l.1 - (f.getD i ((0, 0), 0, 0)).2.2)) else 0, l.2, 0)
def lotsR (ls : List Lot) (f : List Spring) (c : FansT) : List BinT := ls.map (lotR f c)
def f30_wp : List Lot × List Spring × FansT × Unit → Unit → (List BinT → Prop) → Prop := fun a _ Q =>
  (a.1.length ≤ 500 ∧ a.2.1.length ≤ 4 ∧ (∀ l, l ∈ a.1 → bnd 400 l.1 ∧ bnd 400 l.2) ∧ (∀ s, s ∈ a.2.1 → bnd 400 s.2.2) ∧ all4 (bnd 400) a.2.2.1) ∧ Q (lotsR a.1 a.2.1 a.2.2.1)
def f30_ct : Ct := ⟨arg3 k23 k26 k41, .unit, k39, f30_wp, true, false⟩
def bump (t : FansT) (k : Int) : FansT := put4 t k.toNat (at4 t k.toNat + 1)
def numF (l : List Int) : FansT := l.foldl bump NO4
def fromL (b : List Int) : Int := if b.length > 0 then b.getD (b.length - 1) 0 else 0

def listsF : Nat → List Int → FansT → List (List Int)
  | 0, _, _ => []
  | n + 1, b, f => b :: (List.range (4 - (fromL b).toNat)).flatMap fun j => if at4 (numF b) ((fromL b).toNat + j) < at4 f ((fromL b).toNat + j) then listsF n (b ++ [(((fromL b).toNat + j : Nat) : Int)]) f else []
def allL (f : FansT) : List (List Int) := listsF ((sumF f).toNat + 1) [] f
def smOK (b : BinT) (r : List BinT) (left : Int) (f : FansT) (l : List Int) : Bool :=
  decide (0 ≤ costF b (numF l)) && decide (0 ≤ tval r (GX.Fa.less f (numF l))) && decide (costF b (numF l) + tval r (GX.Fa.less f (numF l)) = left)
def smR : List BinT → Int → FansT → List (List Int)
  | [], _, _ => []
  | b :: r, left, f => match (allL f).find? (smOK b r left f) with
    | some l => l :: smR r (left - costF b (numF l)) (GX.Fa.less f (numF l))
    | none => smR r left f
def smallR (bs : List BinT) (f : FansT) : List (List Int) × Bool := if tval bs f < 0 then ([], false) else (smR bs (tval bs f) f, true)
def f24_wp : List BinT × FansT × Unit → Unit → (List (List Int) × Bool × Unit → Prop) → Prop := fun a _ Q => (Bins0 a.1 ∧ F5 a.2.1) ∧ Q ((smallR a.1 a.2.1).1, (smallR a.1 a.2.1).2, ())
def f24_ct : Ct := ⟨arg2 k39 k41, .unit, res2 k33 .bool, f24_wp, false, false⟩
def lvR (s : Store) (c : FansT) (each first : Int) : List BinT := leavesR s.1 s.2.1 c each first
def ltR (s : Store) (f : List Spring) (c : FansT) : List BinT := lotsR s.2.2 f c
def f35_wp : Store × List Spring × Int × Unit → Unit → (Int × Int × Unit → Prop) → Prop := fun a _ Q => (checkF a.1 a.2.1 = 0 ∧ inB 1 200 a.2.2.1 = true) ∧ Q ((boundF a.1 a.2.1 a.2.2.1).1, (boundF a.1 a.2.1 a.2.2.1).2, ())
def f35_ct : Ct := ⟨arg3 k25 k26 k3, .unit, res2 k3 k3, f35_wp, false, false⟩
def f35_an : Nat → Items
  | 0 => [.t 10 k3, .t 8 k3, .t 9 k3]
  | 2 => [.t 14 k3, .t 11 k3]
  | 4 => [.t 15 k3, .t 12 k3]
  | 6 => [.t 12 k3, .t 13 k3]
  | _ => []
end Go.Proofs.Fa
