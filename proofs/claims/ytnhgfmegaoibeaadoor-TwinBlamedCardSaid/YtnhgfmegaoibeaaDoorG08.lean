/- Part 8 of the texts behind the proof: TwM11, TwP27, TwC12, TwV16b, TwC13, TwV19, TwP29, TwO11, TwV15b, TwP27b, TwP26, TwO11b, Gx25, TwBr. -/
import Derived.Test.YtnhgfmegaoibeaaDoorG07
import Derived.Test.YtnhgfmegaoibeaaDoorProg
import Derived.ProofKit
import Derived.OpenShut
import Derived.Test.YtnhgfmegaoibeaaDoorRows
import Derived.LaidMore
import Derived.Lay
import Derived.SevenTiedAt
set_option linter.unusedSimpArgs false
set_option linter.unusedVariables false
set_option linter.unusedVariables false
set_option maxRecDepth 100000
namespace Go.Proofs.Tw
open Go Go.GX Go.Proofs
theorem numsF_congr {p q : Nat → Bool} {n : Nat} (h : ∀ i, i < n → p i = q i) : numsF p n = numsF q n := by
  unfold numsF
  rw [List.filter_congr fun i hi => h i (List.mem_range.1 hi)]
theorem hasF_iff {l : List Int} {n : Int} : hasF l n = true ↔ n ∈ l := by
  unfold hasF
  rw [List.any_eq_true]
  constructor
  · rintro ⟨y, hy, e⟩
    rw [beq_iff_eq] at e
    exact e ▸ hy
  · exact fun h => ⟨n, h, by simp⟩
theorem numsF_mem {p : Nat → Bool} {n : Nat} {y : Int} : y ∈ numsF p n ↔ ∃ i : Nat, i < n ∧ p i = true ∧ y = (i : Int) := by
  unfold numsF
  rw [List.mem_map]
  constructor
  · rintro ⟨i, hi, rfl⟩
    rw [List.mem_filter, List.mem_range] at hi
    exact ⟨i, hi.1, hi.2, rfl⟩
  · rintro ⟨i, h1, h2, rfl⟩
    exact ⟨i, List.mem_filter.2 ⟨List.mem_range.2 h1, h2⟩, rfl⟩
theorem numsF_has {p : Nat → Bool} {n i : Nat} (hi : i < n) : hasF (numsF p n) i = p i := by
  cases h : p i with
  | true => exact hasF_iff.2 (numsF_mem.2 ⟨i, hi, h, rfl⟩)
  | false =>
    rw [Bool.eq_false_iff]
    intro hh
    obtain ⟨k, _, hk, e⟩ := numsF_mem.1 (hasF_iff.1 hh)
    have : i = k := by omega
    rw [this, hk] at h
    cases h

theorem nums_set {n : Nat} (h : n ≤ 5) (p : Nat → Bool) : numsF p n ∈ setsF n := by
  have key : ∀ a b c d e : Bool, ((List.range 6).all fun n => (setsF n).contains (numsF (fun i => [a, b, c, d, e].getD i false) n)) = true := by decide +kernel
  have := List.all_eq_true.1 (key (p 0) (p 1) (p 2) (p 3) (p 4)) n (List.mem_range.2 (by omega))
  rw [List.contains_iff_mem] at this
  rw [numsF_congr (q := fun i => [p 0, p 1, p 2, p 3, p 4].getD i false)]
  · exact this
  · intro i hi
    rcases (by omega : i = 0 ∨ i = 1 ∨ i = 2 ∨ i = 3 ∨ i = 4) with rfl | rfl | rfl | rfl | rfl <;> rfl
def sortB : List (List Int) → Bool
  | [] => true
  | s :: L => (L.all fun t => decide (s.length ≤ t.length)) && sortB L
theorem sets_sort {n : Nat} (h : n ≤ 5) : sortB (setsF n) = true := by
  rcases le5 h with rfl | rfl | rfl | rfl | rfl | rfl <;> decide +kernel
theorem find_least {p : List Int → Bool} : ∀ {L : List (List Int)}, sortB L = true → ∀ {s : List Int}, L.find? p = some s → ∀ t, t ∈ L → p t = true → s.length ≤ t.length
  | [], _, s, h, _, _, _ => by cases h
  | a :: L, hs, s, h, t, ht, hp => by
    simp only [sortB, Bool.and_eq_true] at hs
    rw [List.find?_cons] at h
    cases ha : p a with
    | true =>
      rw [ha] at h
      cases h
      rcases List.mem_cons.1 ht with rfl | ht
      · exact Nat.le_refl _
      · exact of_decide_eq_true (List.all_eq_true.1 hs.1 t ht)
    | false =>
      rw [ha] at h
      rcases List.mem_cons.1 ht with rfl | ht
      · rw [ha] at hp; cases hp
      · exact find_least hs.2 h t ht hp

def leastS (k : Nat) (p : Nat → List Int → Bool) (m : Nat) : List Int := ((setsF k).find? (p m)).getD []
theorem nil_set (n : Nat) : [] ∈ setsF n := by
  obtain ⟨L, hL⟩ := sets_cons n
  rw [hL]; simp
theorem least_mem (k : Nat) (p : Nat → List Int → Bool) (m : Nat) : leastS k p m ∈ setsF k := by
  unfold leastS
  cases h : (setsF k).find? (p m) with
  | none => exact nil_set k
  | some s => exact List.mem_of_find?_eq_some h
theorem least_ok {k : Nat} (hk : k ≤ 5) {p : Nat → List Int → Bool} {m : Nat} {t : List Int} (ht : t ∈ setsF k) (hp : p m t = true) : p m (leastS k p m) = true ∧ ∀ t, t ∈ setsF k → p m t = true → (leastS k p m).length ≤ t.length := by
  unfold leastS
  cases h : (setsF k).find? (p m) with
  | none =>
    have := List.find?_eq_none.1 h t ht
    exact absurd hp this
  | some s => exact ⟨List.find?_some h, find_least (sets_sort hk) h⟩
theorem blame_two (k : Nat) (p : Nat → List Int → Bool) : blameF 2 k p = (leastS k p 0).map (fun f => ((0 : Int), f)) ++ (leastS k p 1).map fun f => ((1 : Int), f) := by
  unfold blameF
  rw [show List.range 2 = [0, 1] from rfl, List.flatMap_cons, List.flatMap_cons, List.flatMap_nil, List.append_nil]
  rfl

end Go.Proofs.Tw
set_option linter.unusedVariables false
set_option maxRecDepth 100000
namespace Go.Proofs.Tw
open Go Go.GX Go.Proofs
theorem FsOK.at {l : Fans} (h : FsOK l) {i m : Nat} (hi : i < l.length) (hm : m < 2) : (l.getD i []).length = 2 ∧ -1000000 ≤ (l.getD i []).getD m 0 ∧ (l.getD i []).getD m 0 ≤ 1000000 := by
  have h1 := h.len _ (getD_mem (d := ([] : List Int)) hi)
  exact ⟨h1, h.val _ (getD_mem hi) _ (getD_mem (by omega))⟩
theorem gg_off {g : Gauge} (hg : GgOK g) {m : Nat} (hm : m < 2) : 0 ≤ g.1.getD m 0 ∧ g.1.getD m 0 ≤ 5 ∧ 0 ≤ g.2.1.getD m 0 ∧ g.2.1.getD m 0 ≤ 100 ∧ -100 ≤ (g.2.2.getD m (0, 0)).1 ∧ (g.2.2.getD m (0, 0)).1 ≤ (g.2.2.getD m (0, 0)).2 ∧ (g.2.2.getD m (0, 0)).2 ≤ 100 := by
  obtain ⟨l1, l2, l3, o0, o1, k0, k1, c0, c1⟩ := hg.facts
  rcases (by omega : m = 0 ∨ m = 1) with rfl | rfl <;> omega
end Go.Proofs.Tw
namespace Go.Proofs.Tw
open Go Go.GX Go.Proofs

def slipOK (l : List Slip) (many : Int) (i : Nat) : Bool :=
  decide (0 ≤ (l.getD i (0, 0)).1) && (decide ((l.getD i (0, 0)).1 ≤ 1) && (decide (0 ≤ (l.getD i (0, 0)).2) && (decide ((l.getD i (0, 0)).2 < many) && (decide (i = 0) || (decide ((l.getD (i - 1) (0, 0)).1 ≤ (l.getD i (0, 0)).1) && (!decide ((l.getD i (0, 0)).1 = (l.getD (i - 1) (0, 0)).1) || decide ((l.getD (i - 1) (0, 0)).2 < (l.getD i (0, 0)).2)))))))
def slipsB (l : List Slip) (many : Int) : Bool := (List.range l.length).all (slipOK l many)
def f51_wp : List Slip × Int × Unit → Unit → (Bool → Prop) → Prop := fun a _ Q => Q (slipsB a.1 a.2.1)
def f51_ct : Ct := ⟨arg2 kSlips kI, .unit, .bool, f51_wp, false, false⟩
def f51_an : Nat → Items
  | 0 => [.t 5 kI]
  | _ => []

end Go.Proofs.Tw
set_option linter.unusedVariables false
set_option maxRecDepth 100000
namespace Go.Proofs.Tw
open Go Go.GX Go.Proofs

def V51 (l : List (Int × Int)) (n : Int) (Q : Bool → Prop) : Prop := ∃ (I : Int → Prop), ∃ (μ : Int → Nat), I (0 : Int) ∧ ∀ (x : Int), I x → List.length l ≤ (9223372036854775807 : Nat) → cnd (decide (x < (↑(List.length l) : Int))) ((0 : Int) ≤ x ∧ x < (↑(List.length l) : Int) ∧ cnd (decide (Prod.fst (List.getD l (Int.toNat x) ((0 : Int), (0 : Int))) < (0 : Int))) (Q false) ((0 : Int) ≤ x ∧ x < (↑(List.length l) : Int) ∧ cnd (decide (Prod.fst (List.getD l (Int.toNat x) ((0 : Int), (0 : Int))) > (1 : Int))) (Q false) ((0 : Int) ≤ x ∧ x < (↑(List.length l) : Int) ∧ cnd (decide (Prod.snd (List.getD l (Int.toNat x) ((0 : Int), (0 : Int))) < (0 : Int))) (Q false) ((0 : Int) ≤ x ∧ x < (↑(List.length l) : Int) ∧ cnd (decide (Prod.snd (List.getD l (Int.toNat x) ((0 : Int), (0 : Int))) ≥ n)) (Q false) (cnd (decide (x > (0 : Int))) ((0 : Int) ≤ x ∧ x < (↑(List.length l) : Int) ∧ (0 : Int) ≤ IntKind.wrap IntKind.i64 (x - (1 : Int)) ∧ IntKind.wrap IntKind.i64 (x - (1 : Int)) < (↑(List.length l) : Int) ∧ cnd (decide (Prod.fst (List.getD l (Int.toNat x) ((0 : Int), (0 : Int))) < Prod.fst (List.getD l (Int.toNat (IntKind.wrap IntKind.i64 (x - (1 : Int)))) ((0 : Int), (0 : Int))))) (Q false) ((0 : Int) ≤ x ∧ x < (↑(List.length l) : Int) ∧ (0 : Int) ≤ IntKind.wrap IntKind.i64 (x - (1 : Int)) ∧ IntKind.wrap IntKind.i64 (x - (1 : Int)) < (↑(List.length l) : Int) ∧ cnd (Prod.fst (List.getD l (Int.toNat x) ((0 : Int), (0 : Int))) == Prod.fst (List.getD l (Int.toNat (IntKind.wrap IntKind.i64 (x - (1 : Int)))) ((0 : Int), (0 : Int)))) ((0 : Int) ≤ x ∧ x < (↑(List.length l) : Int) ∧ (0 : Int) ≤ IntKind.wrap IntKind.i64 (x - (1 : Int)) ∧ IntKind.wrap IntKind.i64 (x - (1 : Int)) < (↑(List.length l) : Int) ∧ cnd (decide (Prod.snd (List.getD l (Int.toNat x) ((0 : Int), (0 : Int))) ≤ Prod.snd (List.getD l (Int.toNat (IntKind.wrap IntKind.i64 (x - (1 : Int)))) ((0 : Int), (0 : Int))))) (Q false) (I (IntKind.wrap IntKind.i64 (x + (1 : Int))) ∧ μ (IntKind.wrap IntKind.i64 (x + (1 : Int))) < μ x)) (I (IntKind.wrap IntKind.i64 (x + (1 : Int))) ∧ μ (IntKind.wrap IntKind.i64 (x + (1 : Int))) < μ x))) (I (IntKind.wrap IntKind.i64 (x + (1 : Int))) ∧ μ (IntKind.wrap IntKind.i64 (x + (1 : Int))) < μ x)))))) (Q true)
theorem v51 (l : List (Int × Int)) (n : Int) (Q : Bool → Prop) : V51 l n Q = vcFunc (S0 [] []) f51_ct.own f51_ct.fresh f51_an Tryd.f51 (bodyOf Tryd.f51) f51_ct.A f51_ct.C f51_ct.R (l, n, ()) () Q := by kernel_rfl

end Go.Proofs.Tw
namespace Go.Proofs.Tw
open Go Go.GX Go.Proofs
def f48o_ct : Ct := ⟨kFs, .unit, kFs, f48_wp, false, true⟩
def f48o_an : Nat → Items
  | 0 => [.t 4 kI, .mat 3 5001 5002 false 81 true 3 kI]
  | _ => []
end Go.Proofs.Tw
set_option linter.unusedVariables false
set_option maxRecDepth 100000
namespace Go.Proofs.Tw
open Go Go.GX Go.Proofs

def V48o (fs : Fans) (Q : Fans → Prop) : Prop := ∃ (I : Int → List (List Int) → Prop), ∃ (μ : Int → List (List Int) → Nat), I (0 : Int) (List.map (fun (xs : List Int) ↦ xs) ([] : List (List Int))) ∧ ∀ (x : Int) (x_1 : List (List Int)), I x x_1 → List.length fs ≤ (9223372036854775807 : Nat) → cnd (decide (x < (↑(List.length fs) : Int))) ((0 : Int) ≤ x ∧ x < (↑(List.length fs) : Int) ∧ (List.length ([] : List Int) + List.length (List.getD fs (Int.toNat x) ([] : List Int))) * (8 : Nat) ≤ (140737488355328 : Nat) ∧ (List.length x_1 + List.length ((([] : List Int) ++ List.getD fs (Int.toNat x) ([] : List Int)) :: ([] : List (List Int)))) * (24 : Nat) ≤ (140737488355328 : Nat) ∧ List.length ((([] : List Int) ++ List.getD fs (Int.toNat x) ([] : List Int)) :: ([] : List (List Int))) ≠ (0 : Nat) ∧ I (IntKind.wrap IntKind.i64 (x + (1 : Int))) (List.map (fun (xs : List Int) ↦ xs) (List.map (fun (xs : List Int) ↦ xs) x_1 ++ (([] : List Int) ++ List.getD fs (Int.toNat x) ([] : List Int)) :: ([] : List (List Int)))) ∧ μ (IntKind.wrap IntKind.i64 (x + (1 : Int))) (List.map (fun (xs : List Int) ↦ xs) (List.map (fun (xs : List Int) ↦ xs) x_1 ++ (([] : List Int) ++ List.getD fs (Int.toNat x) ([] : List Int)) :: ([] : List (List Int)))) < μ x x_1) (Q (List.map (fun (x : List Int) ↦ x) x_1))
theorem V48oE (fs : Fans) (Q : Fans → Prop) : V48o fs Q = (vcFunc (S0 [] [100, 509]) true false f48o_an Tryd.f48 (bodyOf Tryd.f48) kFs .unit kFs fs () Q) := by kernel_rfl

end Go.Proofs.Tw
set_option linter.unusedVariables false
set_option maxRecDepth 100000
namespace Go.Proofs.Tw
open Go Go.GX Go.Proofs
theorem slip_iff {l : List Slip} {n : Int} {i : Nat} : slipOK l n i = true ↔ (0 ≤ (l.getD i (0, 0)).1 ∧ (l.getD i (0, 0)).1 ≤ 1 ∧ 0 ≤ (l.getD i (0, 0)).2 ∧ (l.getD i (0, 0)).2 < n ∧ (i = 0 ∨ ((l.getD (i - 1) (0, 0)).1 ≤ (l.getD i (0, 0)).1 ∧ (¬ (l.getD i (0, 0)).1 = (l.getD (i - 1) (0, 0)).1 ∨ (l.getD (i - 1) (0, 0)).2 < (l.getD i (0, 0)).2)))) := by
  unfold slipOK
  generalize l.getD i (0, 0) = a
  generalize l.getD (i - 1) (0, 0) = b
  simp only [Bool.and_eq_true, Bool.or_eq_true, decide_eq_true_eq, Bool.not_eq_true', decide_eq_false_iff_not]
theorem p51 {l : List Slip} {n : Int} {Q : Bool → Prop} (h : f51_wp (l, n, ()) () Q) : V51 l n Q := by
  have h : Q (slipsB l n) := h
  refine forUpGL (n := l.length) (fun k => ∀ i, i < k → slipOK l n i = true) (fun j hj => absurd hj (Nat.not_lt_zero _)) (fun i hi hgo hL I μ hI hw => ?_) (fun hgo => ?_)
  · have hF : slipOK l n i = false → Q false := fun e => by
      have : slipsB l n = false := by
        unfold slipsB
        rw [List.all_eq_false]
        exact ⟨i, List.mem_range.2 hi, by rw [e]; simp⟩
      rwa [this] at h
    have hI : slipOK l n i = true → I ((i : Int) + 1) ∧ μ ((i : Int) + 1) < μ i := fun e => hI fun j hj => by
      rcases Nat.lt_succ_iff_lt_or_eq.1 hj with hj | rfl
      · exact hgo j hj
      · exact e
    rw [Bool.eq_false_iff, ne_eq, slip_iff] at hF
    rw [slip_iff] at hI
    simp only [Int.toNat_natCast, hw]
    refine ⟨by omega, by omega, cnd_iff.2 ⟨fun h1 => hF (by have := of_decide_eq_true h1; omega), fun h1 => ⟨by omega, by omega, cnd_iff.2 ⟨fun h2 => hF (by have := of_decide_eq_true h2; omega), fun h2 => ⟨by omega, by omega, cnd_iff.2 ⟨fun h3 => hF (by have := of_decide_eq_true h3; omega), fun h3 => ⟨by omega, by omega, cnd_iff.2 ⟨fun h4 => hF (by have := of_decide_eq_true h4; omega), fun h4 => ?_⟩⟩⟩⟩⟩⟩⟩⟩
    have h1 := of_decide_eq_false h1
    have h2 := of_decide_eq_false h2
    have h3 := of_decide_eq_false h3
    have h4 := of_decide_eq_false h4
    refine cnd_iff.2 ⟨fun h5 => ?_, fun h5 => ?_⟩
    · have h5 : (i : Int) > 0 := of_decide_eq_true h5
      have hw1 : IntKind.wrap .i64 ((i : Int) - 1) = ((i - 1 : Nat) : Int) := by rw [wrapS (by omega) (by omega)]; omega
      simp only [hw1, Int.toNat_natCast]
      refine ⟨by omega, by omega, by omega, by omega, cnd_iff.2 ⟨fun h6 => hF (by have := of_decide_eq_true h6; omega), fun h6 => ⟨by omega, by omega, by omega, by omega, cnd_iff.2 ⟨fun h7 => ⟨by omega, by omega, by omega, by omega, cnd_iff.2 ⟨fun h8 => hF ?_, fun h8 => hI ?_⟩⟩, fun h7 => hI ?_⟩⟩⟩⟩
      · have h6 := of_decide_eq_false h6
        have h7 := eq_of_beq h7
        have h8 := of_decide_eq_true h8
        omega
      · have h6 := of_decide_eq_false h6
        have h7 := eq_of_beq h7
        have h8 := of_decide_eq_false h8
        omega
      · have h6 := of_decide_eq_false h6
        have h7 : ¬ (l.getD i (0, 0)).1 = (l.getD (i - 1) (0, 0)).1 := by simpa using h7
        omega
    · have h5 : ¬ (i : Int) > 0 := of_decide_eq_false h5
      exact hI (by omega)
  · have : slipsB l n = true := by
      unfold slipsB
      rw [List.all_eq_true]
      exact fun i hi => hgo i (List.mem_range.1 hi)
    rwa [this] at h
theorem p48o {fs : Fans} {Q : Fans → Prop} (h : f48_wp fs () Q) : V48o fs Q := by
  obtain ⟨⟨h1, h2⟩, h⟩ := h
  unfold V48o
  simp only [List.map_id_fun', id, List.nil_append]
  refine forUpL (n := fs.length) (fun k => fs.take k) rfl (fun k hk I μ hI hw => ?_) (by rw [List.take_length]; exact h)
  have hl := h2 _ (getD_mem (d := ([] : List Int)) hk)
  rw [List.take_succ_eq_append_getElem hk, ← getD_lt hk (d := ([] : List Int))] at hI
  simp only [Int.toNat_natCast, hw]
  exact ⟨by omega, by omega, by simp only [List.length_nil]; omega, by simp only [List.length_take, List.length_cons, List.length_nil]; omega, by simp, hI⟩
end Go.Proofs.Tw
set_option maxRecDepth 100000
namespace Go.Proofs.Tw
open Go Go.GX Go.Proofs

theorem ok51 : CallsOK Tryd.prog (assoc glT) 51 f51_ct :=
  callsOK_mk [] st_ok mk_ok in_ok AllOK.nil f51_an Tryd.func51 (by kernel_rfl) (by kernel_rfl) f51_ct fun ⟨l, n, _⟩ _ Q h => (v51 l n Q).mp (p51 h)
end Go.Proofs.Tw
set_option linter.unusedVariables false
set_option maxRecDepth 100000
namespace Go.Proofs.Tw
open Go Go.GX Go.Proofs

def V53 (g : List Int × List Int × List (Int × Int)) (l : List (List Int)) (f : List Int) (Q : Bool → Prop) : Prop := List.length f ≤ (9223372036854775807 : Nat) → List.length l ≤ (9223372036854775807 : Nat) → cnd ((↑(List.length f) : Int) != (↑(List.length l) : Int)) (Q false) (∃ (I : Int → Prop), ∃ (μ : Int → Nat), I (0 : Int) ∧ ∀ (x : Int), I x → List.length f ≤ (9223372036854775807 : Nat) → cnd (decide (x < (↑(List.length f) : Int))) ((0 : Int) ≤ x ∧ x < (↑(List.length f) : Int) ∧ cnd (decide (List.getD f (Int.toNat x) (0 : Int) < (-1 : Int))) (Q false) ((0 : Int) ≤ x ∧ x < (↑(List.length f) : Int) ∧ (List.length l ≤ (9223372036854775807 : Nat) → cnd (decide (List.getD f (Int.toNat x) (0 : Int) ≥ (↑(List.length l) : Int))) (Q false) ((0 : Int) ≤ x ∧ x < (↑(List.length f) : Int) ∧ cnd (List.getD f (Int.toNat x) (0 : Int) == x) (Q false) (∃ (I_1 : Int → Prop), ∃ (μ_1 : Int → Nat), I_1 (0 : Int) ∧ ∀ (x_1 : Int), I_1 x_1 → List.length (Prod.fst g) ≤ (9223372036854775807 : Nat) → cnd (decide (x_1 < (↑(List.length (Prod.fst g)) : Int))) ((0 : Int) ≤ x ∧ x < (↑(List.length f) : Int) ∧ cnd (decide (List.getD f (Int.toNat x) (0 : Int) ≥ (0 : Int))) ((0 : Int) ≤ x ∧ x < (↑(List.length l) : Int) ∧ (0 : Int) ≤ x_1 ∧ x_1 < (↑(List.length (List.getD l (Int.toNat x) ([] : List Int))) : Int) ∧ (0 : Int) ≤ x ∧ x < (↑(List.length f) : Int) ∧ (0 : Int) ≤ List.getD f (Int.toNat x) (0 : Int) ∧ List.getD f (Int.toNat x) (0 : Int) < (↑(List.length l) : Int) ∧ (0 : Int) ≤ x_1 ∧ x_1 < (↑(List.length (List.getD l (Int.toNat (List.getD f (Int.toNat x) (0 : Int))) ([] : List Int))) : Int) ∧ (0 : Int) ≤ x_1 ∧ x_1 < (↑(List.length (Prod.fst g)) : Int) ∧ (0 : Int) ≤ x_1 ∧ x_1 < (↑(List.length (Prod.snd (Prod.snd g))) : Int) ∧ cnd (decide (IntKind.wrap IntKind.i64 (IntKind.wrap IntKind.i64 (List.getD (List.getD l (Int.toNat x) ([] : List Int)) (Int.toNat x_1) (0 : Int) - List.getD (List.getD l (Int.toNat (List.getD f (Int.toNat x) (0 : Int))) ([] : List Int)) (Int.toNat x_1) (0 : Int)) + IntKind.wrap IntKind.i64 ((2 : Int) * List.getD (Prod.fst g) (Int.toNat x_1) (0 : Int))) < Prod.fst (List.getD (Prod.snd (Prod.snd g)) (Int.toNat x_1) ((0 : Int), (0 : Int))))) (Q false) ((0 : Int) ≤ x_1 ∧ x_1 < (↑(List.length (Prod.fst g)) : Int) ∧ (0 : Int) ≤ x_1 ∧ x_1 < (↑(List.length (Prod.snd (Prod.snd g))) : Int) ∧ cnd (decide (IntKind.wrap IntKind.i64 (IntKind.wrap IntKind.i64 (List.getD (List.getD l (Int.toNat x) ([] : List Int)) (Int.toNat x_1) (0 : Int) - List.getD (List.getD l (Int.toNat (List.getD f (Int.toNat x) (0 : Int))) ([] : List Int)) (Int.toNat x_1) (0 : Int)) - IntKind.wrap IntKind.i64 ((2 : Int) * List.getD (Prod.fst g) (Int.toNat x_1) (0 : Int))) > Prod.snd (List.getD (Prod.snd (Prod.snd g)) (Int.toNat x_1) ((0 : Int), (0 : Int))))) (Q false) (I_1 (IntKind.wrap IntKind.i64 (x_1 + (1 : Int))) ∧ μ_1 (IntKind.wrap IntKind.i64 (x_1 + (1 : Int))) < μ_1 x_1))) (I (IntKind.wrap IntKind.i64 (x + (1 : Int))) ∧ μ (IntKind.wrap IntKind.i64 (x + (1 : Int))) < μ x)) (I (IntKind.wrap IntKind.i64 (x + (1 : Int))) ∧ μ (IntKind.wrap IntKind.i64 (x + (1 : Int))) < μ x)))))) (Q true))
theorem v53 (g : List Int × List Int × List (Int × Int)) (l : List (List Int)) (f : List Int) (Q : Bool → Prop) : V53 g l f Q = vcFunc (S0 [] []) f53_ct.own f53_ct.fresh f53_an Tryd.f53 (bodyOf Tryd.f53) f53_ct.A f53_ct.C f53_ct.R (g, l, f, ()) () Q := by kernel_rfl

end Go.Proofs.Tw
set_option linter.unusedVariables false
set_option maxRecDepth 100000
namespace Go.Proofs.Tw
open Go Go.GX Go.Proofs
theorem p53 {g : Gauge} {l : Fans} {f : List Int} {Q : Bool → Prop} (h : f53_wp (g, l, f, ()) () Q) : V53 g l f Q := by
  obtain ⟨⟨hg, hl⟩, h⟩ := h
  simp only at hg hl
  have h : Q (copiesB g l f) := h
  obtain ⟨l1, l2, l3, o0, o1, k0, k1, c0, c1⟩ := hg.facts
  intro _ _
  by_cases hn : f.length = l.length
  case neg =>
    refine cnd_iff.2 ⟨fun _ => ?_, fun h1 => ?_⟩
    · have : copiesB g l f = false := by unfold copiesB; rw [decide_eq_false hn]; rfl
      rwa [this] at h
    · simp at h1; omega
  refine cnd_iff.2 ⟨fun h1 => ?_, fun _ => ?_⟩
  · simp at h1; omega
  have hb : ∀ i, i < f.length → (decide (-1 ≤ f.getD i 0) && (decide (f.getD i 0 < l.length) && (!decide (f.getD i 0 = (i : Int)) && (decide (f.getD i 0 < 0) || (List.range g.1.length).all fun m => copyB g l i (f.getD i 0).toNat m)))) = false → Q false := by
    intro i hi e
    have : copiesB g l f = false := by
      unfold copiesB
      rw [decide_eq_true hn, Bool.true_and, List.all_eq_false]
      exact ⟨i, List.mem_range.2 hi, by rw [e]; simp⟩
    rwa [this] at h
  refine forUpGL (n := f.length) (fun k => ∀ i, i < k → (decide (-1 ≤ f.getD i 0) && (decide (f.getD i 0 < l.length) && (!decide (f.getD i 0 = (i : Int)) && (decide (f.getD i 0 < 0) || (List.range g.1.length).all fun m => copyB g l i (f.getD i 0).toNat m)))) = true) (fun j hj => absurd hj (Nat.not_lt_zero _)) (fun i hi hgo _ I μ hI hw1 => ?_) (fun hgo => ?_)
  · have hbi := hb i hi
    have hI : (decide (-1 ≤ f.getD i 0) && (decide (f.getD i 0 < l.length) && (!decide (f.getD i 0 = (i : Int)) && (decide (f.getD i 0 < 0) || (List.range g.1.length).all fun m => copyB g l i (f.getD i 0).toNat m)))) = true → I ((i : Int) + 1) ∧ μ ((i : Int) + 1) < μ i := fun e => hI fun j hj => by
      rcases Nat.lt_succ_iff_lt_or_eq.1 hj with hj | rfl
      · exact hgo j hj
      · exact e
    simp only [Int.toNat_natCast, hw1]
    refine ⟨by omega, by omega, cnd_iff.2 ⟨fun h1 => hbi ?_, fun h1 => ⟨by omega, by omega, fun _ => cnd_iff.2 ⟨fun h2 => hbi ?_, fun h2 => ⟨by omega, by omega, cnd_iff.2 ⟨fun h3 => hbi ?_, fun h3 => ?_⟩⟩⟩⟩⟩⟩
    · have h1 : (f.getD i 0) < -1 := of_decide_eq_true h1
      rw [decide_eq_false (show ¬ -1 ≤ (f.getD i 0) by omega)]; rfl
    · have h2 : (f.getD i 0) ≥ l.length := of_decide_eq_true h2
      rw [decide_eq_false (show ¬ (f.getD i 0) < (l.length : Int) by omega)]; simp
    · have h3 : (f.getD i 0) = i := by simpa using h3
      rw [decide_eq_true h3]; simp
    · have h1 : ¬ (f.getD i 0) < -1 := of_decide_eq_false h1
      have h2 : ¬ (f.getD i 0) ≥ l.length := of_decide_eq_false h2
      have h3 : ¬ (f.getD i 0) = i := by simpa using h3
      rw [decide_eq_true (show -1 ≤ (f.getD i 0) by omega), decide_eq_true (show (f.getD i 0) < (l.length : Int) by omega), decide_eq_false h3] at hbi hI
      simp only [Bool.true_and, Bool.not_false] at hbi hI
      refine forUpGL (n := g.1.length) (fun k => k = 0 ∨ (0 ≤ (f.getD i 0) ∧ ∀ m, m < k → copyB g l i (f.getD i 0).toNat m = true)) (.inl rfl) (fun m hm hgm _ I2 μ2 hI2 hw2 => ?_) (fun hgm => hI ?_)
      · simp only [Int.toNat_natCast, hw2]
        refine ⟨by omega, by omega, cnd_iff.2 ⟨fun h4 => ?_, fun h4 => hI ?_⟩⟩
        · have h4 : (f.getD i 0) ≥ 0 := of_decide_eq_true h4
          have a1 := hl.at (show i < l.length by omega) (show m < 2 by omega)
          have a2 := hl.at (show (f.getD i 0).toNat < l.length by omega) (show m < 2 by omega)
          have ho := gg_off hg (show m < 2 by omega)
          have hbm : copyB g l i (f.getD i 0).toNat m = false → Q false := by
            intro e
            refine hbi ?_
            rw [decide_eq_false (show ¬ (f.getD i 0) < 0 by omega), Bool.false_or, List.all_eq_false]
            exact ⟨m, List.mem_range.2 hm, by rw [e]; simp⟩
          unfold copyB at hbm
          simp only [wrapS (x := (l.getD i []).getD m 0 - (l.getD (f.getD i 0).toNat []).getD m 0) (by omega) (by omega), wrapS (x := 2 * g.1.getD m 0) (by omega) (by omega), wrapS (x := (l.getD i []).getD m 0 - (l.getD (f.getD i 0).toNat []).getD m 0 + 2 * g.1.getD m 0) (by omega) (by omega), wrapS (x := (l.getD i []).getD m 0 - (l.getD (f.getD i 0).toNat []).getD m 0 - 2 * g.1.getD m 0) (by omega) (by omega)]
          refine ⟨by omega, by omega, by omega, by omega, by omega, by omega, by omega, by omega, by omega, by omega, by omega, by omega, by omega, by omega, cnd_iff.2 ⟨fun h5 => hbm ?_, fun h5 => ⟨by omega, by omega, by omega, by omega, cnd_iff.2 ⟨fun h6 => hbm ?_, fun h6 => hI2 (.inr ⟨h4, fun j hj => ?_⟩)⟩⟩⟩⟩
          · have h5 := of_decide_eq_true h5
            rw [decide_eq_false (by omega)]; rfl
          · have h6 := of_decide_eq_true h6
            rw [Bool.and_eq_false_iff]
            exact .inr (decide_eq_false (by omega))
          · rcases Nat.lt_succ_iff_lt_or_eq.1 hj with hj | rfl
            · rcases hgm with e | e
              · omega
              · exact e.2 j hj
            · have h5 := of_decide_eq_false h5
              have h6 := of_decide_eq_false h6
              unfold copyB
              rw [decide_eq_true (by omega), decide_eq_true (by omega)]; rfl
        · have h4 : ¬ (f.getD i 0) ≥ 0 := of_decide_eq_false h4
          rw [decide_eq_true (show (f.getD i 0) < 0 by omega), Bool.true_or]
      · rcases hgm with e | e
        · omega
        · rw [Bool.or_eq_true]
          exact .inr (List.all_eq_true.2 fun m hm => e.2 m (List.mem_range.1 hm))
  · have : copiesB g l f = true := by
      unfold copiesB
      rw [decide_eq_true hn, Bool.true_and, List.all_eq_true]
      exact fun i hi => hgo i (List.mem_range.1 hi)
    rwa [this] at h
end Go.Proofs.Tw
set_option linter.unusedVariables false
set_option maxRecDepth 100000
namespace Go.Proofs.Tw
open Go Go.GX Go.Proofs
end Go.Proofs.Tw
set_option maxRecDepth 100000
namespace Go.Proofs.Tw
open Go Go.GX Go.Proofs

theorem ok53 : CallsOK Tryd.prog (assoc glT) 53 f53_ct :=
  callsOK_mk [] st_ok mk_ok in_ok AllOK.nil f53_an Tryd.func53 (by kernel_rfl) (by kernel_rfl) f53_ct fun ⟨g, l, f, _⟩ _ Q h => (v53 g l f Q).mp (p53 h)
theorem ok48o : CallsOK Tryd.prog (assoc glT) 48 f48o_ct :=
  callsOK_mk [100, 509] st_ok mk_ok in_ok AllOK.nil f48o_an Tryd.func48 (by kernel_rfl) (by kernel_rfl) f48o_ct fun fs _ Q h => (V48oE fs Q).mp (p48o h)
end Go.Proofs.Tw
set_option linter.unusedVariables false
namespace Go.GX
open Go.RowKit Go.Shelf Go.Proofs

inductive Tgt where
  | ty (t : TypeId)
  | fs (l : List Field) (off : Nat)

def Tgt.one (P : Program) (n : Nat) : Tgt → Option TypeId
  | .ty t => some t
  | .fs [f] off => cond (Nat.beq f.offset off && Nat.beq (P.cellsOf f.type) n) (some f.type) none
  | .fs _ _ => none

def arrF (P : Program) (e : TypeId) (n : Nat) : List Field := (List.range n).map fun i => ⟨"", e, i * P.cellsOf e, false, "", "", 0⟩

def Kd.rng : (K : Kd) → K.T → Prop
  | .int k, x => (Lit.int k x).wf = true
  | .pair A B, x => A.rng x.1 ∧ B.rng x.2
  | .agg K, x => K.rng x
  | .sl _ K, xs => ∀ x, x ∈ (show List K.T from xs) → K.rng x
  | _, _ => True

def fitK (P : Program) : Kd → Tgt → Bool
  | .pair A B, .fs (f :: r) off => Nat.beq f.offset off && Nat.beq (P.cellsOf f.type) A.n && fitK P A (.ty f.type) && fitK P B (.fs r (off + A.n))
  | .pair _ _, _ => false
  | .unit, _ => false
  | .int k, s => match s.one P 1 with
    | some t => match P.underlying t with
      | some (.int k') => decide (k' = k)
      | _ => false
    | none => false
  | .bool, s => match s.one P 1 with
    | some t => match P.underlying t with
      | some .bool => true
      | _ => false
    | none => false
  | .sl e K, s => match s.one P 1 with
    | some t => match P.underlying t with
      | some (.slice e') => Nat.beq e' e && Nat.beq (P.cellsOf e) K.n && Nat.ble 1 K.n && fitK P K (.ty e)
      | _ => false
    | none => false
  | .agg K, s => match s.one P K.n with
    | some t => match P.underlying t with
      | some (.struct fs) => Nat.beq (P.cellsOf t) K.n && fitK P K (.fs fs.toList 0)
      | some (.array n e) => Nat.beq (P.cellsOf t) K.n && fitK P K (.fs (arrF P e n) 0)
      | _ => false
    | none => false
  | _, _ => false

section
variable {H : Type} {enc : TypeId × Value → H} {P : Program} {W : World} {base : Nat} {spare : Nat → Bool} {held : Bool}

def Reads (enc : TypeId × Value → H) (P : Program) (W : World) (base : Nat) (spare : Nat → Bool) (held : Bool) : Tgt → List Value → Prop
  | .ty t, cs => ∃ fuel x, DataW.trod enc P W base spare held fuel t cs = some x
  | .fs l off, cs => ∀ (i : Nat) (f : Field), l[i]? = some f → ∃ fuel x, DataW.trod enc P W base spare held fuel f.type ((cs.drop f.offset).take (P.cellsOf f.type)) = some x

def Tgt.cut (n : Nat) : Tgt → List Value → List Value
  | .ty _, cs => cs
  | .fs _ off, cs => (cs.drop off).take n

theorem one_reads {n : Nat} {s : Tgt} {t : TypeId} {cs : List Value} (h : s.one P n = some t) (hr : Reads enc P W base spare held s cs) : ∃ fuel x, DataW.trod enc P W base spare held fuel t (s.cut n cs) = some x := by
  cases s with
  | ty t' => cases h; exact hr
  | fs l off =>
    match l, h with
    | [f], h =>
      simp only [Tgt.one] at h
      cases hb : Nat.beq f.offset off && Nat.beq (P.cellsOf f.type) n with
      | false => rw [hb] at h; cases h
      | true =>
        rw [hb] at h; cases h
        rw [Bool.and_eq_true] at hb
        have h1 := Nat.eq_of_beq_eq_true hb.1
        have h2 := Nat.eq_of_beq_eq_true hb.2
        obtain ⟨fuel, x, hx⟩ := hr 0 f rfl
        exact ⟨fuel, x, by rw [h1, h2] at hx; exact hx⟩

theorem cut0 {l : List Field} {n : Nat} {z : List Value} (h : z.length = n) : (Tgt.fs l 0).cut n z = z := by
  show (z.drop 0).take n = z
  rw [List.drop_zero]
  exact List.take_of_length_le (by omega)
theorem cells?_cell {a : Addr} {n : Nat} {cs : List Value} (h : W.cells? base a n = some cs) : ∀ (i : Nat) u, cs[i]? = some u → W.cell? (a.add i) = some u := by
  unfold World.cells? at h
  split at h
  · intro i u hu
    have hl := mapM_some_length h
    have hi : i < cs.length := (List.getElem?_eq_some_iff.1 hu).1
    have hln : cs.length = n := by simpa using hl
    have := mapM_some_get h i i (List.getElem?_range (by omega))
    rw [this, hu]
  · cases h

theorem fit_rng : ∀ (K : Kd) (s : Tgt) (cs : List Value), fitK P K s = true → Reads enc P W base spare held s cs → (∀ l off, s = .fs l off → off + K.n ≤ cs.length) → ∃ y : K.T, (K.sem P).cells (fun _ => False) W y (s.cut K.n cs) ∧ K.rng y := by
  intro K
  induction K with
  | int k =>
    intro s cs h hr hl
    simp only [fitK] at h
    split at h
    · rename_i t ht
      obtain ⟨fuel, x, hx⟩ := one_reads ht hr
      split at h
      · rename_i k' hu
        have hk := of_decide_eq_true h
        subst hk
        obtain ⟨n, hn, _, hwf⟩ := DataW.trod_int hu hx
        exact ⟨n, ⟨_, hn, rfl, rfl⟩, hwf⟩
      · cases h
    · cases h
  | bool =>
    intro s cs h hr hl
    simp only [fitK] at h
    split at h
    · rename_i t ht
      obtain ⟨fuel, x, hx⟩ := one_reads ht hr
      split at h
      · rename_i hu
        obtain ⟨b, hb, _⟩ := DataW.trod_bool hu hx
        exact ⟨b, ⟨_, hb, rfl, rfl⟩, trivial⟩
      · cases h
    · cases h
  | sl e K ih =>
    intro s cs h hr hl
    simp only [fitK] at h
    split at h
    · rename_i t ht
      obtain ⟨fuel, x, hx⟩ := one_reads ht hr
      split at h
      · rename_i e' hu
        simp only [Bool.and_eq_true] at h
        obtain ⟨⟨⟨h1, h2⟩, hpos⟩, h3⟩ := h
        have hpos := Nat.le_of_ble_eq_true hpos
        obtain rfl := Nat.eq_of_beq_eq_true h1
        have hc := Nat.eq_of_beq_eq_true h2
        rcases DataW.trod_slice hu hx with ⟨hcs, _⟩ | ⟨a, len, cap, elems, rest, n, _, hcs, _, hb, hlc, hcap, hlen, hel, _, _⟩
        · exact ⟨([] : List K.T), ⟨_, hcs, rfl, none, 0, rfl, Nat.le_refl _, by unfold maxLen; omega, fun h => absurd rfl h⟩, fun x hx => (by cases hx)⟩
        · have key : ∀ i : Nat, i < len → ∃ y : K.T, ∃ ecs : List Value, W.cells? base (a.add (i * K.n)) K.n = some ecs ∧ (K.sem P).cells (fun _ => False) W y ecs ∧ K.rng y := by
            intro i hi
            have he := hel i hi
            rw [List.getElem?_eq_getElem (by omega)] at he
            obtain ⟨cs', g1, g2⟩ := Option.bind_eq_some_iff.1 he
            rw [hc] at g1
            obtain ⟨y, hy⟩ := ih (.ty e') cs' h3 ⟨_, _, g2⟩ (fun _ _ h => by cases h)
            exact ⟨y, cs', g1, hy⟩
          have all : ∀ k : Nat, k ≤ len → ∃ ys : List K.T, ys.length = k ∧ ∀ (i : Nat) y, ys[i]? = some y → ∃ ecs : List Value, W.cells? base (a.add (i * K.n)) K.n = some ecs ∧ (K.sem P).cells (fun _ => False) W y ecs ∧ K.rng y := by
            intro k
            induction k with
            | zero => intro _; exact ⟨[], rfl, fun i y h => by simp at h⟩
            | succ k ihk =>
              intro hk
              obtain ⟨ys, hyl, hys⟩ := ihk (by omega)
              obtain ⟨y, ecs, g1, g2⟩ := key k (by omega)
              refine ⟨ys ++ [y], by simp [hyl], fun i z hz => ?_⟩
              by_cases hi : i < ys.length
              · rw [List.getElem?_append_left hi] at hz
                exact hys i z hz
              · have hi' : i = ys.length := by
                  have := (List.getElem?_eq_some_iff.1 hz).1
                  simp at this; omega
                subst hi'
                rw [List.getElem?_concat_length] at hz
                cases hz
                rw [hyl]
                exact ⟨ecs, g1, g2⟩
          obtain ⟨ys, hyl, hys⟩ := all len (Nat.le_refl _)
          refine ⟨ys, ⟨_, hcs, rfl, some a, cap, by rw [hyl], by rw [hyl]; exact hlc, hcap, fun hne => ⟨a, rfl, fun h => h, ?_, fun j y hy => ?_⟩⟩, fun y hy => by
            obtain ⟨j, hj, rfl⟩ := List.mem_iff_getElem.1 hy
            obtain ⟨_, _, _, g3⟩ := hys j _ (List.getElem?_eq_getElem hj)
            exact g3⟩
          · obtain ⟨y0, hy0⟩ : ∃ y0, ys[0]? = some y0 := ⟨ys[0]'(List.length_pos_iff.2 hne), List.getElem?_eq_getElem _⟩
            obtain ⟨ecs, g1, g2, _⟩ := hys 0 y0 hy0
            rw [Nat.zero_mul] at g1
            have hn : 0 < ecs.length := by rw [Kd.cells_length P K g2]; exact hpos
            have := World.block_lt_of_cell? W _ (cells?_cell g1 0 (ecs[0]'hn) (List.getElem?_eq_getElem hn))
            simpa [add_block] using this
          · obtain ⟨ecs, g1, g2, _⟩ := hys j y hy
            refine ⟨ecs, g2, fun i u hu => ?_⟩
            have := cells?_cell g1 i u hu
            rwa [addAdd] at this
      · cases h
    · cases h
  | agg K ih =>
    intro s cs h hr hl
    simp only [fitK] at h
    split at h
    · rename_i t ht
      obtain ⟨fuel, x, hx⟩ := one_reads ht hr
      split at h
      · rename_i fs hu
        rw [Bool.and_eq_true] at h
        have hc := Nat.eq_of_beq_eq_true h.1
        obtain ⟨xs, n, _, _, hlen, hxl, hf⟩ := DataW.trod_struct hu hx
        obtain ⟨y, hy⟩ := ih (.fs fs.toList 0) (s.cut K.n cs) h.2 (fun i f hi => by
          have hi' : fs[i]? = some f := by simpa using hi
          have := hf i f hi'
          have hlt : i < xs.length := by rw [hxl]; exact (Array.getElem?_eq_some_iff.1 hi').1
          rw [List.getElem?_eq_getElem hlt] at this
          exact ⟨_, _, this⟩) (fun l off h => by cases h; rw [hlen, hc]; omega)
        refine ⟨y, ?_⟩
        have := cut0 (l := fs.toList) (n := K.n) (z := s.cut K.n cs) (by rw [hlen, hc])
        rw [this] at hy
        exact hy
      · rename_i n e hu
        rw [Bool.and_eq_true] at h
        have hc := Nat.eq_of_beq_eq_true h.1
        obtain ⟨xs, n', _, _, hlen, hxl, hf⟩ := DataW.trod_array hu hx
        obtain ⟨y, hy⟩ := ih (.fs (arrF P e n) 0) (s.cut K.n cs) h.2 (fun i f hi => by
          unfold arrF at hi
          rw [List.getElem?_map] at hi
          obtain ⟨i', hi', rfl⟩ := Option.map_eq_some_iff.1 hi
          have hin : i < n := by
            have := (List.getElem?_eq_some_iff.1 hi').1
            simpa using this
          rw [List.getElem?_range hin] at hi'
          cases hi'
          have := hf i hin
          rw [List.getElem?_eq_getElem (by omega)] at this
          exact ⟨_, _, this⟩) (fun l off h => by cases h; rw [hlen, hc]; omega)
        refine ⟨y, ?_⟩
        have := cut0 (l := arrF P e n) (n := K.n) (z := s.cut K.n cs) (by rw [hlen, hc])
        rw [this] at hy
        exact hy
      · cases h
    · cases h
  | pair A B ihA ihB =>
    intro s cs h hr hl
    match s, h with
    | .fs (f :: r) off, h =>
      simp only [fitK, Bool.and_eq_true] at h
      obtain ⟨⟨⟨h1, h2⟩, h3⟩, h4⟩ := h
      have h1 := Nat.eq_of_beq_eq_true h1
      have h2 := Nat.eq_of_beq_eq_true h2
      have hll := hl _ _ rfl
      simp only [Kd.n] at hll
      obtain ⟨fuel, x, hx⟩ := hr 0 f rfl
      obtain ⟨ya, hya, rya⟩ := ihA (.ty f.type) _ h3 ⟨fuel, x, hx⟩ (fun _ _ h => by cases h)
      obtain ⟨yb, hyb, ryb⟩ := ihB (.fs r (off + A.n)) cs h4 (fun i f' hi => hr (i + 1) f' (by simpa using hi)) (fun l o h => by cases h; omega)
      refine ⟨(ya, yb), ⟨_, _, ?_, hya, hyb⟩, rya, ryb⟩
      simp only [Tgt.cut, h1, h2, Kd.n]
      rw [List.take_add, List.drop_drop]
  | _ =>
    intro s cs h hr hl
    first
      | (simp only [fitK] at h; done)
      | (unfold fitK at h; cases h)
      | cases h
end
end Go.GX
set_option maxRecDepth 100000
set_option linter.unusedVariables false
namespace Go.Proofs.Tw
open Go Go.GX Go.Proofs Go.ChangeShapes Go.WideShapes Go.ChangeAt Go.RowKit
open Go.Proofs.YtnhgfmegaoibeaaDoor

theorem own9 : ownKnob Tryd.prog.godebug = none := by kernel_rfl
theorem laidOut9 : laidOutB Tryd.prog = true := by kernel_rfl
theorem u38 : ∃ f0 f1 : Field, Tryd.prog.underlying 38 = some (.struct #[f0, f1]) ∧ f0.offset = 0 ∧ f1.offset = 1 ∧ f0.type = 3 ∧ f1.type = 3 := ⟨_, _, rfl, rfl, rfl, rfl, rfl⟩
theorem laid_glb {W : World} (h : laidMetH Tryd.prog [("panache/twin.anything", Rows.laid_panache_twin_anything)] W) : GlbOK Tryd.prog (assoc glT) (fun _ => False) W := by
  rw [MakeChecks.laidMetH_plain _ _ _ (by kernel_rfl)] at h
  obtain ⟨ps, ⟨g, t, cs, fuel, p, q, hg, ht, hv, hd, _, hps⟩, _, hcell⟩ := h
  obtain rfl := Option.some.inj ((show Tryd.prog.globalNamed "panache/twin.anything" = some 0 by kernel_rfl).symm.trans hg)
  obtain rfl := Option.some.inj ((show (Tryd.prog.globals[0]?).map (·.type) = some 38 by kernel_rfl).symm.trans ht)
  obtain ⟨f0, f1, hu, o0, o1, t0, t1⟩ := u38
  obtain ⟨xs, n, _, hx, hlen, hxl, hf⟩ := DataW.trod_struct hu hd
  have c38 : Tryd.prog.cellsOf 38 = 2 := by kernel_rfl
  have c3 : Tryd.prog.cellsOf 3 = 1 := by kernel_rfl
  have u3 : Tryd.prog.underlying 3 = some (.int .i64) := by kernel_rfl
  rw [c38] at hlen
  have h0 := hf 0 f0 rfl
  have h1 := hf 1 f1 rfl
  rw [o0, t0, c3] at h0
  rw [o1, t1, c3] at h1
  have hxl : xs.length = 2 := hxl
  rw [List.getElem?_eq_getElem (by omega)] at h0 h1
  obtain ⟨a, ha, hax, _⟩ := DataW.trod_int u3 h0
  obtain ⟨b, hb, hbx, _⟩ := DataW.trod_int u3 h1
  have hm : xs.map (·.1) = [.lit (.int .i64 (-1048576)), .lit (.int .i64 1048576)] := (DataW.agg.inj (Prod.mk.inj hx).1).symm
  have ea : (xs.map (·.1))[0]? = some (.lit (.int .i64 a)) := by rw [List.getElem?_map, List.getElem?_eq_getElem (by omega), hax]; rfl
  have eb : (xs.map (·.1))[1]? = some (.lit (.int .i64 b)) := by rw [List.getElem?_map, List.getElem?_eq_getElem (by omega), hbx]; rfl
  rw [hm] at ea eb
  have ea : a = -1048576 := by simpa using ea.symm
  have eb : b = 1048576 := by simpa using eb.symm
  have hcs : cs.toList = [.int .i64 a] ++ [.int .i64 b] := by
    rw [← ha, ← hb]
    match hh : cs.toList, hlen with
    | [u, v], _ => rfl
  intro g v hv'
  have hg0 : g = 0 := by
    unfold assoc glT at hv'
    cases hgb : Nat.beq 0 g with
    | true => exact (Nat.eq_of_beq_eq_true hgb).symm
    | false => simp [assoc, hgb] at hv'
  subst hg0
  have hv' : v = ⟨38, k38, ((-1048576 : Int), (1048576 : Int))⟩ := (Option.some.inj hv').symm
  subst hv'
  have hsz : cs.size = 2 := by rw [← Array.length_toList]; exact hlen
  have hmem : MemPlace.cell 0 0 ∈ ps := by
    rw [hps, hsz]
    refine List.mem_append.2 (.inl (List.mem_append.2 (.inl ?_)))
    simp [MemPlace.row]
  obtain ⟨⟨c, ty, hc⟩, _⟩ := hcell 0 0 hmem
  have hcc : c = cs := by
    have hg2 : Tryd.prog.globalNamed "panache/twin.anything" = some 0 := by kernel_rfl
    simp only [World.var?, hg2, Option.bind_some, hc] at hv
    exact Option.some.inj hv
  subst hcc
  refine ⟨ty, 0, c, rfl, fun h => h, hc, ?_⟩
  rw [hcs, ea, eb]
  exact ⟨[.int .i64 (-1048576)], [.int .i64 1048576], rfl, ⟨_, rfl, rfl, rfl⟩, ⟨_, rfl, rfl, rfl⟩⟩
section
variable {H : Type} {enc : TypeId × Value → H} {W : World} {base b0 : Nat} {spare : Nat → Bool} {held : Bool} {v : Value} {d : DataW H} {p : List MemPlace}
end
end Go.Proofs.Tw
