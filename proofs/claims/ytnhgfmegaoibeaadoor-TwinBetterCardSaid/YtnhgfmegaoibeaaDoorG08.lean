/- Part 8 of the texts behind the proof: TwM11, TwP27, TwC12, TwV16b, TwC13, TwV19, TwP29, TwO11, TwV15b, TwP27b, TwP26, TwO11b, Gx25, TwBr. -/
import Derived.Test.YtnhgfmegaoibeaaDoorG07
import Derived.Test.YtnhgfmegaoibeaaDoorProg
import Derived.ProofKit
import Derived.OpenShut
import Derived.Test.YtnhgfmegaoibeaaDoorRows
import Derived.LaidMore
import Derived.Lay
import Derived.SevenTiedAt
set_option linter.unusedSimpArgs false
set_option linter.unusedVariables false
set_option linter.unusedVariables false
set_option maxRecDepth 100000
namespace Go.Proofs.Tw
open Go Go.GX Go.Proofs
theorem hasF_iff {l : List Int} {n : Int} : hasF l n = true ↔ n ∈ l := by
  unfold hasF
  rw [List.any_eq_true]
  constructor
  · rintro ⟨y, hy, e⟩
    rw [beq_iff_eq] at e
    exact e ▸ hy
  · exact fun h => ⟨n, h, by simp⟩
theorem numsF_mem {p : Nat → Bool} {n : Nat} {y : Int} : y ∈ numsF p n ↔ ∃ i : Nat, i < n ∧ p i = true ∧ y = (i : Int) := by
  unfold numsF
  rw [List.mem_map]
  constructor
  · rintro ⟨i, hi, rfl⟩
    rw [List.mem_filter, List.mem_range] at hi
    exact ⟨i, hi.1, hi.2, rfl⟩
  · rintro ⟨i, h1, h2, rfl⟩
    exact ⟨i, List.mem_filter.2 ⟨List.mem_range.2 h1, h2⟩, rfl⟩
theorem numsF_has {p : Nat → Bool} {n i : Nat} (hi : i < n) : hasF (numsF p n) i = p i := by
  cases h : p i with
  | true => exact hasF_iff.2 (numsF_mem.2 ⟨i, hi, h, rfl⟩)
  | false =>
    rw [Bool.eq_false_iff]
    intro hh
    obtain ⟨k, _, hk, e⟩ := numsF_mem.1 (hasF_iff.1 hh)
    have : i = k := by omega
    rw [this, hk] at h
    cases h

def sortB : List (List Int) → Bool
  | [] => true
  | s :: L => (L.all fun t => decide (s.length ≤ t.length)) && sortB L
theorem sets_sort {n : Nat} (h : n ≤ 5) : sortB (setsF n) = true := by
  rcases le5 h with rfl | rfl | rfl | rfl | rfl | rfl <;> decide +kernel
theorem find_least {p : List Int → Bool} : ∀ {L : List (List Int)}, sortB L = true → ∀ {s : List Int}, L.find? p = some s → ∀ t, t ∈ L → p t = true → s.length ≤ t.length
  | [], _, s, h, _, _, _ => by cases h
  | a :: L, hs, s, h, t, ht, hp => by
    simp only [sortB, Bool.and_eq_true] at hs
    rw [List.find?_cons] at h
    cases ha : p a with
    | true =>
      rw [ha] at h
      cases h
      rcases List.mem_cons.1 ht with rfl | ht
      · exact Nat.le_refl _
      · exact of_decide_eq_true (List.all_eq_true.1 hs.1 t ht)
    | false =>
      rw [ha] at h
      rcases List.mem_cons.1 ht with rfl | ht
      · rw [ha] at hp; cases hp
      · exact find_least hs.2 h t ht hp

def leastS (k : Nat) (p : Nat → List Int → Bool) (m : Nat) : List Int := ((setsF k).find? (p m)).getD []
theorem nil_set (n : Nat) : [] ∈ setsF n := by
  obtain ⟨L, hL⟩ := sets_cons n
  rw [hL]; simp
theorem least_mem (k : Nat) (p : Nat → List Int → Bool) (m : Nat) : leastS k p m ∈ setsF k := by
  unfold leastS
  cases h : (setsF k).find? (p m) with
  | none => exact nil_set k
  | some s => exact List.mem_of_find?_eq_some h
theorem least_ok {k : Nat} (hk : k ≤ 5) {p : Nat → List Int → Bool} {m : Nat} {t : List Int} (ht : t ∈ setsF k) (hp : p m t = true) : p m (leastS k p m) = true ∧ ∀ t, t ∈ setsF k → p m t = true → (leastS k p m).length ≤ t.length := by
  unfold leastS
  cases h : (setsF k).find? (p m) with
  | none =>
    have := List.find?_eq_none.1 h t ht
    exact absurd hp this
  | some s => exact ⟨List.find?_some h, find_least (sets_sort hk) h⟩
theorem blame_two (k : Nat) (p : Nat → List Int → Bool) : blameF 2 k p = (leastS k p 0).map (fun f => ((0 : Int), f)) ++ (leastS k p 1).map fun f => ((1 : Int), f) := by
  unfold blameF
  rw [show List.range 2 = [0, 1] from rfl, List.flatMap_cons, List.flatMap_cons, List.flatMap_nil, List.append_nil]
  rfl

theorem max_ex (v : Nat → Int) (is : Nat → Bool) : ∀ n : Nat, (∀ i, i < n → is i = false) ∨ ∃ k, k < n ∧ is k = true ∧ ∀ i, i < n → is i = true → v i ≤ v k
  | 0 => .inl fun i hi => absurd hi (Nat.not_lt_zero _)
  | n + 1 => by
    cases hn : is n with
    | false =>
      rcases max_ex v is n with h | ⟨k, h1, h2, h3⟩
      · refine .inl fun i hi => ?_
        rcases Nat.lt_succ_iff_lt_or_eq.1 hi with hi | rfl
        · exact h i hi
        · exact hn
      · refine .inr ⟨k, by omega, h2, fun i hi his => ?_⟩
        rcases Nat.lt_succ_iff_lt_or_eq.1 hi with hi | rfl
        · exact h3 i hi his
        · rw [hn] at his; cases his
    | true =>
      right
      rcases max_ex v is n with h | ⟨k, h1, h2, h3⟩
      · refine ⟨n, by omega, hn, fun i hi his => ?_⟩
        rcases Nat.lt_succ_iff_lt_or_eq.1 hi with hi | rfl
        · rw [h i hi] at his; cases his
        · exact Int.le_refl _
      · by_cases hv : v k ≤ v n
        · refine ⟨n, by omega, hn, fun i hi his => ?_⟩
          rcases Nat.lt_succ_iff_lt_or_eq.1 hi with hi | rfl
          · have := h3 i hi his; omega
          · exact Int.le_refl _
        · refine ⟨k, by omega, h2, fun i hi his => ?_⟩
          rcases Nat.lt_succ_iff_lt_or_eq.1 hi with hi | rfl
          · exact h3 i hi his
          · omega
theorem pair_iff {g : Gauge} {fs : Fans} (v : VB g fs) {m : Nat} (hm : m < g.1.length) (is : Int → Bool) : okSp (patF g fs m is) = true ↔ ∀ i k : Nat, i < fs.length → k < fs.length → is i = true → is k = true → (fs.getD i []).getD m 0 - (fs.getD k []).getD m 0 ≤ 2 * g.2.1.getD m 0 + 2 * g.1.getD m 0 := by
  have ho := v.off_v hm
  have hk := v.make_v hm
  rw [okSp_iff]
  constructor
  · intro h i k hi hk hii hik
    have := ((pat_fits g fs m is _).1 ⟨Int.le_refl _, h⟩).2.2
    have h1 := this i hi hii
    have h2 := this k hk hik
    omega
  · intro h
    suffices hs : ∃ p, (patF g fs m is).1 ≤ p ∧ p ≤ (patF g fs m is).2 by obtain ⟨p, h1, h2⟩ := hs; omega
    rcases max_ex (fun i => (fs.getD i []).getD m 0) (fun i => is i) fs.length with hn | ⟨k, hk1, hk2, hk3⟩
    · exact ⟨0, (pat_fits g fs m is _).2 ⟨by omega, by omega, fun i hi his => by rw [hn i hi] at his; cases his⟩⟩
    · have hv := v.fan_v hk1 hm
      refine ⟨(fs.getD k []).getD m 0 - (g.1.getD m 0 + g.2.1.getD m 0), (pat_fits g fs m is _).2 ⟨by omega, by omega, fun i hi his => ?_⟩⟩
      have h1 := hk3 i hi his
      have h2 := h k i hk1 hi hk2 his
      try simp only at h1
      omega
end Go.Proofs.Tw
set_option linter.unusedVariables false
set_option maxRecDepth 100000
namespace Go.Proofs.Tw
open Go Go.GX Go.Proofs
theorem FsOK.at {l : Fans} (h : FsOK l) {i m : Nat} (hi : i < l.length) (hm : m < 2) : (l.getD i []).length = 2 ∧ -1000000 ≤ (l.getD i []).getD m 0 ∧ (l.getD i []).getD m 0 ≤ 1000000 := by
  have h1 := h.len _ (getD_mem (d := ([] : List Int)) hi)
  exact ⟨h1, h.val _ (getD_mem hi) _ (getD_mem (by omega))⟩
theorem gg_off {g : Gauge} (hg : GgOK g) {m : Nat} (hm : m < 2) : 0 ≤ g.1.getD m 0 ∧ g.1.getD m 0 ≤ 5 ∧ 0 ≤ g.2.1.getD m 0 ∧ g.2.1.getD m 0 ≤ 100 ∧ -100 ≤ (g.2.2.getD m (0, 0)).1 ∧ (g.2.2.getD m (0, 0)).1 ≤ (g.2.2.getD m (0, 0)).2 ∧ (g.2.2.getD m (0, 0)).2 ≤ 100 := by
  obtain ⟨l1, l2, l3, o0, o1, k0, k1, c0, c1⟩ := hg.facts
  rcases (by omega : m = 0 ∨ m = 1) with rfl | rfl <;> omega
end Go.Proofs.Tw
namespace Go.Proofs.Tw
open Go Go.GX Go.Proofs

def slipOK (l : List Slip) (many : Int) (i : Nat) : Bool :=
  decide (0 ≤ (l.getD i (0, 0)).1) && (decide ((l.getD i (0, 0)).1 ≤ 1) && (decide (0 ≤ (l.getD i (0, 0)).2) && (decide ((l.getD i (0, 0)).2 < many) && (decide (i = 0) || (decide ((l.getD (i - 1) (0, 0)).1 ≤ (l.getD i (0, 0)).1) && (!decide ((l.getD i (0, 0)).1 = (l.getD (i - 1) (0, 0)).1) || decide ((l.getD (i - 1) (0, 0)).2 < (l.getD i (0, 0)).2)))))))
def slipsB (l : List Slip) (many : Int) : Bool := (List.range l.length).all (slipOK l many)
end Go.Proofs.Tw
set_option linter.unusedVariables false
set_option maxRecDepth 100000
namespace Go.Proofs.Tw
open Go Go.GX Go.Proofs

end Go.Proofs.Tw
namespace Go.Proofs.Tw
open Go Go.GX Go.Proofs
def f47o_ct : Ct := ⟨kG, .unit, kG, f47_wp, false, true⟩
def f48o_ct : Ct := ⟨kFs, .unit, kFs, f48_wp, false, true⟩
def f48o_an : Nat → Items
  | 0 => [.t 4 kI, .mat 3 5001 5002 false 81 true 3 kI]
  | _ => []
end Go.Proofs.Tw
set_option linter.unusedVariables false
set_option maxRecDepth 100000
namespace Go.Proofs.Tw
open Go Go.GX Go.Proofs

def V47o (g : Gauge) (Q : Gauge → Prop) : Prop := (List.length ([] : List Int) + List.length (Prod.fst g)) * (8 : Nat) ≤ (140737488355328 : Nat) ∧ (List.length ([] : List Int) + List.length (Prod.fst (Prod.snd g))) * (8 : Nat) ≤ (140737488355328 : Nat) ∧ (List.length ([] : List (Int × Int)) + List.length (Prod.snd (Prod.snd g))) * (16 : Nat) ≤ (140737488355328 : Nat) ∧ Q (([] : List Int) ++ Prod.fst g, ([] : List Int) ++ Prod.fst (Prod.snd g), ([] : List (Int × Int)) ++ Prod.snd (Prod.snd g))
theorem V47oE (g : Gauge) (Q : Gauge → Prop) : V47o g Q = (vcFunc (S0 [] []) true false no_an Tryd.f47 (bodyOf Tryd.f47) kG .unit kG g () Q) := by kernel_rfl

def V48o (fs : Fans) (Q : Fans → Prop) : Prop := ∃ (I : Int → List (List Int) → Prop), ∃ (μ : Int → List (List Int) → Nat), I (0 : Int) (List.map (fun (xs : List Int) ↦ xs) ([] : List (List Int))) ∧ ∀ (x : Int) (x_1 : List (List Int)), I x x_1 → List.length fs ≤ (9223372036854775807 : Nat) → cnd (decide (x < (↑(List.length fs) : Int))) ((0 : Int) ≤ x ∧ x < (↑(List.length fs) : Int) ∧ (List.length ([] : List Int) + List.length (List.getD fs (Int.toNat x) ([] : List Int))) * (8 : Nat) ≤ (140737488355328 : Nat) ∧ (List.length x_1 + List.length ((([] : List Int) ++ List.getD fs (Int.toNat x) ([] : List Int)) :: ([] : List (List Int)))) * (24 : Nat) ≤ (140737488355328 : Nat) ∧ List.length ((([] : List Int) ++ List.getD fs (Int.toNat x) ([] : List Int)) :: ([] : List (List Int))) ≠ (0 : Nat) ∧ I (IntKind.wrap IntKind.i64 (x + (1 : Int))) (List.map (fun (xs : List Int) ↦ xs) (List.map (fun (xs : List Int) ↦ xs) x_1 ++ (([] : List Int) ++ List.getD fs (Int.toNat x) ([] : List Int)) :: ([] : List (List Int)))) ∧ μ (IntKind.wrap IntKind.i64 (x + (1 : Int))) (List.map (fun (xs : List Int) ↦ xs) (List.map (fun (xs : List Int) ↦ xs) x_1 ++ (([] : List Int) ++ List.getD fs (Int.toNat x) ([] : List Int)) :: ([] : List (List Int)))) < μ x x_1) (Q (List.map (fun (x : List Int) ↦ x) x_1))
theorem V48oE (fs : Fans) (Q : Fans → Prop) : V48o fs Q = (vcFunc (S0 [] [100, 509]) true false f48o_an Tryd.f48 (bodyOf Tryd.f48) kFs .unit kFs fs () Q) := by kernel_rfl

end Go.Proofs.Tw
set_option linter.unusedVariables false
set_option maxRecDepth 100000
namespace Go.Proofs.Tw
open Go Go.GX Go.Proofs
theorem p47o {g : Gauge} {Q : Gauge → Prop} (h : f47_wp g () Q) : V47o g Q := by
  obtain ⟨⟨h1, h2, h3⟩, h⟩ := h
  exact ⟨by simp; omega, by simp; omega, by simp; omega, h⟩
theorem p48o {fs : Fans} {Q : Fans → Prop} (h : f48_wp fs () Q) : V48o fs Q := by
  obtain ⟨⟨h1, h2⟩, h⟩ := h
  unfold V48o
  simp only [List.map_id_fun', id, List.nil_append]
  refine forUpL (n := fs.length) (fun k => fs.take k) rfl (fun k hk I μ hI hw => ?_) (by rw [List.take_length]; exact h)
  have hl := h2 _ (getD_mem (d := ([] : List Int)) hk)
  rw [List.take_succ_eq_append_getElem hk, ← getD_lt hk (d := ([] : List Int))] at hI
  simp only [Int.toNat_natCast, hw]
  exact ⟨by omega, by omega, by simp only [List.length_nil]; omega, by simp only [List.length_take, List.length_cons, List.length_nil]; omega, by simp, hI⟩
end Go.Proofs.Tw
set_option maxRecDepth 100000
namespace Go.Proofs.Tw
open Go Go.GX Go.Proofs

end Go.Proofs.Tw
set_option linter.unusedVariables false
set_option maxRecDepth 100000
namespace Go.Proofs.Tw
open Go Go.GX Go.Proofs

end Go.Proofs.Tw
set_option linter.unusedVariables false
set_option maxRecDepth 100000
namespace Go.Proofs.Tw
open Go Go.GX Go.Proofs
end Go.Proofs.Tw
set_option linter.unusedVariables false
set_option maxRecDepth 100000
namespace Go.Proofs.Tw
open Go Go.GX Go.Proofs
end Go.Proofs.Tw
set_option maxRecDepth 100000
namespace Go.Proofs.Tw
open Go Go.GX Go.Proofs

theorem ok47o : CallsOK Tryd.prog (assoc glT) 47 f47o_ct :=
  callsOK_mk [] st_ok mk_ok in_ok AllOK.nil no_an Tryd.func47 (by kernel_rfl) (by kernel_rfl) f47o_ct fun g _ Q h => (V47oE g Q).mp (p47o h)
theorem ok48o : CallsOK Tryd.prog (assoc glT) 48 f48o_ct :=
  callsOK_mk [100, 509] st_ok mk_ok in_ok AllOK.nil f48o_an Tryd.func48 (by kernel_rfl) (by kernel_rfl) f48o_ct fun fs _ Q h => (V48oE fs Q).mp (p48o h)
end Go.Proofs.Tw
set_option linter.unusedVariables false
namespace Go.GX
open Go.RowKit Go.Shelf Go.Proofs

inductive Tgt where
  | ty (t : TypeId)
  | fs (l : List Field) (off : Nat)

def Tgt.one (P : Program) (n : Nat) : Tgt → Option TypeId
  | .ty t => some t
  | .fs [f] off => cond (Nat.beq f.offset off && Nat.beq (P.cellsOf f.type) n) (some f.type) none
  | .fs _ _ => none

def arrF (P : Program) (e : TypeId) (n : Nat) : List Field := (List.range n).map fun i => ⟨"", e, i * P.cellsOf e, false, "", "", 0⟩

def Kd.rng : (K : Kd) → K.T → Prop
  | .int k, x => (Lit.int k x).wf = true
  | .pair A B, x => A.rng x.1 ∧ B.rng x.2
  | .agg K, x => K.rng x
  | .sl _ K, xs => ∀ x, x ∈ (show List K.T from xs) → K.rng x
  | _, _ => True

def fitK (P : Program) : Kd → Tgt → Bool
  | .pair A B, .fs (f :: r) off => Nat.beq f.offset off && Nat.beq (P.cellsOf f.type) A.n && fitK P A (.ty f.type) && fitK P B (.fs r (off + A.n))
  | .pair _ _, _ => false
  | .unit, _ => false
  | .int k, s => match s.one P 1 with
    | some t => match P.underlying t with
      | some (.int k') => decide (k' = k)
      | _ => false
    | none => false
  | .bool, s => match s.one P 1 with
    | some t => match P.underlying t with
      | some .bool => true
      | _ => false
    | none => false
  | .sl e K, s => match s.one P 1 with
    | some t => match P.underlying t with
      | some (.slice e') => Nat.beq e' e && Nat.beq (P.cellsOf e) K.n && Nat.ble 1 K.n && fitK P K (.ty e)
      | _ => false
    | none => false
  | .agg K, s => match s.one P K.n with
    | some t => match P.underlying t with
      | some (.struct fs) => Nat.beq (P.cellsOf t) K.n && fitK P K (.fs fs.toList 0)
      | some (.array n e) => Nat.beq (P.cellsOf t) K.n && fitK P K (.fs (arrF P e n) 0)
      | _ => false
    | none => false
  | _, _ => false

section
variable {H : Type} {enc : TypeId × Value → H} {P : Program} {W : World} {base : Nat} {spare : Nat → Bool} {held : Bool}

def Reads (enc : TypeId × Value → H) (P : Program) (W : World) (base : Nat) (spare : Nat → Bool) (held : Bool) : Tgt → List Value → Prop
  | .ty t, cs => ∃ fuel x, DataW.trod enc P W base spare held fuel t cs = some x
  | .fs l off, cs => ∀ (i : Nat) (f : Field), l[i]? = some f → ∃ fuel x, DataW.trod enc P W base spare held fuel f.type ((cs.drop f.offset).take (P.cellsOf f.type)) = some x

def Tgt.cut (n : Nat) : Tgt → List Value → List Value
  | .ty _, cs => cs
  | .fs _ off, cs => (cs.drop off).take n

theorem one_reads {n : Nat} {s : Tgt} {t : TypeId} {cs : List Value} (h : s.one P n = some t) (hr : Reads enc P W base spare held s cs) : ∃ fuel x, DataW.trod enc P W base spare held fuel t (s.cut n cs) = some x := by
  cases s with
  | ty t' => cases h; exact hr
  | fs l off =>
    match l, h with
    | [f], h =>
      simp only [Tgt.one] at h
      cases hb : Nat.beq f.offset off && Nat.beq (P.cellsOf f.type) n with
      | false => rw [hb] at h; cases h
      | true =>
        rw [hb] at h; cases h
        rw [Bool.and_eq_true] at hb
        have h1 := Nat.eq_of_beq_eq_true hb.1
        have h2 := Nat.eq_of_beq_eq_true hb.2
        obtain ⟨fuel, x, hx⟩ := hr 0 f rfl
        exact ⟨fuel, x, by rw [h1, h2] at hx; exact hx⟩

theorem cut0 {l : List Field} {n : Nat} {z : List Value} (h : z.length = n) : (Tgt.fs l 0).cut n z = z := by
  show (z.drop 0).take n = z
  rw [List.drop_zero]
  exact List.take_of_length_le (by omega)
theorem cells?_cell {a : Addr} {n : Nat} {cs : List Value} (h : W.cells? base a n = some cs) : ∀ (i : Nat) u, cs[i]? = some u → W.cell? (a.add i) = some u := by
  unfold World.cells? at h
  split at h
  · intro i u hu
    have hl := mapM_some_length h
    have hi : i < cs.length := (List.getElem?_eq_some_iff.1 hu).1
    have hln : cs.length = n := by simpa using hl
    have := mapM_some_get h i i (List.getElem?_range (by omega))
    rw [this, hu]
  · cases h

theorem fit_rng : ∀ (K : Kd) (s : Tgt) (cs : List Value), fitK P K s = true → Reads enc P W base spare held s cs → (∀ l off, s = .fs l off → off + K.n ≤ cs.length) → ∃ y : K.T, (K.sem P).cells (fun _ => False) W y (s.cut K.n cs) ∧ K.rng y := by
  intro K
  induction K with
  | int k =>
    intro s cs h hr hl
    simp only [fitK] at h
    split at h
    · rename_i t ht
      obtain ⟨fuel, x, hx⟩ := one_reads ht hr
      split at h
      · rename_i k' hu
        have hk := of_decide_eq_true h
        subst hk
        obtain ⟨n, hn, _, hwf⟩ := DataW.trod_int hu hx
        exact ⟨n, ⟨_, hn, rfl, rfl⟩, hwf⟩
      · cases h
    · cases h
  | bool =>
    intro s cs h hr hl
    simp only [fitK] at h
    split at h
    · rename_i t ht
      obtain ⟨fuel, x, hx⟩ := one_reads ht hr
      split at h
      · rename_i hu
        obtain ⟨b, hb, _⟩ := DataW.trod_bool hu hx
        exact ⟨b, ⟨_, hb, rfl, rfl⟩, trivial⟩
      · cases h
    · cases h
  | sl e K ih =>
    intro s cs h hr hl
    simp only [fitK] at h
    split at h
    · rename_i t ht
      obtain ⟨fuel, x, hx⟩ := one_reads ht hr
      split at h
      · rename_i e' hu
        simp only [Bool.and_eq_true] at h
        obtain ⟨⟨⟨h1, h2⟩, hpos⟩, h3⟩ := h
        have hpos := Nat.le_of_ble_eq_true hpos
        obtain rfl := Nat.eq_of_beq_eq_true h1
        have hc := Nat.eq_of_beq_eq_true h2
        rcases DataW.trod_slice hu hx with ⟨hcs, _⟩ | ⟨a, len, cap, elems, rest, n, _, hcs, _, hb, hlc, hcap, hlen, hel, _, _⟩
        · exact ⟨([] : List K.T), ⟨_, hcs, rfl, none, 0, rfl, Nat.le_refl _, by unfold maxLen; omega, fun h => absurd rfl h⟩, fun x hx => (by cases hx)⟩
        · have key : ∀ i : Nat, i < len → ∃ y : K.T, ∃ ecs : List Value, W.cells? base (a.add (i * K.n)) K.n = some ecs ∧ (K.sem P).cells (fun _ => False) W y ecs ∧ K.rng y := by
            intro i hi
            have he := hel i hi
            rw [List.getElem?_eq_getElem (by omega)] at he
            obtain ⟨cs', g1, g2⟩ := Option.bind_eq_some_iff.1 he
            rw [hc] at g1
            obtain ⟨y, hy⟩ := ih (.ty e') cs' h3 ⟨_, _, g2⟩ (fun _ _ h => by cases h)
            exact ⟨y, cs', g1, hy⟩
          have all : ∀ k : Nat, k ≤ len → ∃ ys : List K.T, ys.length = k ∧ ∀ (i : Nat) y, ys[i]? = some y → ∃ ecs : List Value, W.cells? base (a.add (i * K.n)) K.n = some ecs ∧ (K.sem P).cells (fun _ => False) W y ecs ∧ K.rng y := by
            intro k
            induction k with
            | zero => intro _; exact ⟨[], rfl, fun i y h => by simp at h⟩
            | succ k ihk =>
              intro hk
              obtain ⟨ys, hyl, hys⟩ := ihk (by omega)
              obtain ⟨y, ecs, g1, g2⟩ := key k (by omega)
              refine ⟨ys ++ [y], by simp [hyl], fun i z hz => ?_⟩
              by_cases hi : i < ys.length
              · rw [List.getElem?_append_left hi] at hz
                exact hys i z hz
              · have hi' : i = ys.length := by
                  have := (List.getElem?_eq_some_iff.1 hz).1
                  simp at this; omega
                subst hi'
                rw [List.getElem?_concat_length] at hz
                cases hz
                rw [hyl]
                exact ⟨ecs, g1, g2⟩
          obtain ⟨ys, hyl, hys⟩ := all len (Nat.le_refl _)
          refine ⟨ys, ⟨_, hcs, rfl, some a, cap, by rw [hyl], by rw [hyl]; exact hlc, hcap, fun hne => ⟨a, rfl, fun h => h, ?_, fun j y hy => ?_⟩⟩, fun y hy => by
            obtain ⟨j, hj, rfl⟩ := List.mem_iff_getElem.1 hy
            obtain ⟨_, _, _, g3⟩ := hys j _ (List.getElem?_eq_getElem hj)
            exact g3⟩
          · obtain ⟨y0, hy0⟩ : ∃ y0, ys[0]? = some y0 := ⟨ys[0]'(List.length_pos_iff.2 hne), List.getElem?_eq_getElem _⟩
            obtain ⟨ecs, g1, g2, _⟩ := hys 0 y0 hy0
            rw [Nat.zero_mul] at g1
            have hn : 0 < ecs.length := by rw [Kd.cells_length P K g2]; exact hpos
            have := World.block_lt_of_cell? W _ (cells?_cell g1 0 (ecs[0]'hn) (List.getElem?_eq_getElem hn))
            simpa [add_block] using this
          · obtain ⟨ecs, g1, g2, _⟩ := hys j y hy
            refine ⟨ecs, g2, fun i u hu => ?_⟩
            have := cells?_cell g1 i u hu
            rwa [addAdd] at this
      · cases h
    · cases h
  | agg K ih =>
    intro s cs h hr hl
    simp only [fitK] at h
    split at h
    · rename_i t ht
      obtain ⟨fuel, x, hx⟩ := one_reads ht hr
      split at h
      · rename_i fs hu
        rw [Bool.and_eq_true] at h
        have hc := Nat.eq_of_beq_eq_true h.1
        obtain ⟨xs, n, _, _, hlen, hxl, hf⟩ := DataW.trod_struct hu hx
        obtain ⟨y, hy⟩ := ih (.fs fs.toList 0) (s.cut K.n cs) h.2 (fun i f hi => by
          have hi' : fs[i]? = some f := by simpa using hi
          have := hf i f hi'
          have hlt : i < xs.length := by rw [hxl]; exact (Array.getElem?_eq_some_iff.1 hi').1
          rw [List.getElem?_eq_getElem hlt] at this
          exact ⟨_, _, this⟩) (fun l off h => by cases h; rw [hlen, hc]; omega)
        refine ⟨y, ?_⟩
        have := cut0 (l := fs.toList) (n := K.n) (z := s.cut K.n cs) (by rw [hlen, hc])
        rw [this] at hy
        exact hy
      · rename_i n e hu
        rw [Bool.and_eq_true] at h
        have hc := Nat.eq_of_beq_eq_true h.1
        obtain ⟨xs, n', _, _, hlen, hxl, hf⟩ := DataW.trod_array hu hx
        obtain ⟨y, hy⟩ := ih (.fs (arrF P e n) 0) (s.cut K.n cs) h.2 (fun i f hi => by
          unfold arrF at hi
          rw [List.getElem?_map] at hi
          obtain ⟨i', hi', rfl⟩ := Option.map_eq_some_iff.1 hi
          have hin : i < n := by
            have := (List.getElem?_eq_some_iff.1 hi').1
            simpa using this
          rw [List.getElem?_range hin] at hi'
          cases hi'
          have := hf i hin
          rw [List.getElem?_eq_getElem (by omega)] at this
          exact ⟨_, _, this⟩) (fun l off h => by cases h; rw [hlen, hc]; omega)
        refine ⟨y, ?_⟩
        have := cut0 (l := arrF P e n) (n := K.n) (z := s.cut K.n cs) (by rw [hlen, hc])
        rw [this] at hy
        exact hy
      · cases h
    · cases h
  | pair A B ihA ihB =>
    intro s cs h hr hl
    match s, h with
    | .fs (f :: r) off, h =>
      simp only [fitK, Bool.and_eq_true] at h
      obtain ⟨⟨⟨h1, h2⟩, h3⟩, h4⟩ := h
      have h1 := Nat.eq_of_beq_eq_true h1
      have h2 := Nat.eq_of_beq_eq_true h2
      have hll := hl _ _ rfl
      simp only [Kd.n] at hll
      obtain ⟨fuel, x, hx⟩ := hr 0 f rfl
      obtain ⟨ya, hya, rya⟩ := ihA (.ty f.type) _ h3 ⟨fuel, x, hx⟩ (fun _ _ h => by cases h)
      obtain ⟨yb, hyb, ryb⟩ := ihB (.fs r (off + A.n)) cs h4 (fun i f' hi => hr (i + 1) f' (by simpa using hi)) (fun l o h => by cases h; omega)
      refine ⟨(ya, yb), ⟨_, _, ?_, hya, hyb⟩, rya, ryb⟩
      simp only [Tgt.cut, h1, h2, Kd.n]
      rw [List.take_add, List.drop_drop]
  | _ =>
    intro s cs h hr hl
    first
      | (simp only [fitK] at h; done)
      | (unfold fitK at h; cases h)
      | cases h
end
end Go.GX
set_option maxRecDepth 100000
set_option linter.unusedVariables false
namespace Go.Proofs.Tw
open Go Go.GX Go.Proofs Go.ChangeShapes Go.WideShapes Go.ChangeAt Go.RowKit
open Go.Proofs.YtnhgfmegaoibeaaDoor

theorem own9 : ownKnob Tryd.prog.godebug = none := by kernel_rfl
theorem laidOut9 : laidOutB Tryd.prog = true := by kernel_rfl
theorem u38 : ∃ f0 f1 : Field, Tryd.prog.underlying 38 = some (.struct #[f0, f1]) ∧ f0.offset = 0 ∧ f1.offset = 1 ∧ f0.type = 3 ∧ f1.type = 3 := ⟨_, _, rfl, rfl, rfl, rfl, rfl⟩
theorem laid_glb {W : World} (h : laidMetH Tryd.prog [("panache/twin.anything", Rows.laid_panache_twin_anything)] W) : GlbOK Tryd.prog (assoc glT) (fun _ => False) W := by
  rw [MakeChecks.laidMetH_plain _ _ _ (by kernel_rfl)] at h
  obtain ⟨ps, ⟨g, t, cs, fuel, p, q, hg, ht, hv, hd, _, hps⟩, _, hcell⟩ := h
  obtain rfl := Option.some.inj ((show Tryd.prog.globalNamed "panache/twin.anything" = some 0 by kernel_rfl).symm.trans hg)
  obtain rfl := Option.some.inj ((show (Tryd.prog.globals[0]?).map (·.type) = some 38 by kernel_rfl).symm.trans ht)
  obtain ⟨f0, f1, hu, o0, o1, t0, t1⟩ := u38
  obtain ⟨xs, n, _, hx, hlen, hxl, hf⟩ := DataW.trod_struct hu hd
  have c38 : Tryd.prog.cellsOf 38 = 2 := by kernel_rfl
  have c3 : Tryd.prog.cellsOf 3 = 1 := by kernel_rfl
  have u3 : Tryd.prog.underlying 3 = some (.int .i64) := by kernel_rfl
  rw [c38] at hlen
  have h0 := hf 0 f0 rfl
  have h1 := hf 1 f1 rfl
  rw [o0, t0, c3] at h0
  rw [o1, t1, c3] at h1
  have hxl : xs.length = 2 := hxl
  rw [List.getElem?_eq_getElem (by omega)] at h0 h1
  obtain ⟨a, ha, hax, _⟩ := DataW.trod_int u3 h0
  obtain ⟨b, hb, hbx, _⟩ := DataW.trod_int u3 h1
  have hm : xs.map (·.1) = [.lit (.int .i64 (-1048576)), .lit (.int .i64 1048576)] := (DataW.agg.inj (Prod.mk.inj hx).1).symm
  have ea : (xs.map (·.1))[0]? = some (.lit (.int .i64 a)) := by rw [List.getElem?_map, List.getElem?_eq_getElem (by omega), hax]; rfl
  have eb : (xs.map (·.1))[1]? = some (.lit (.int .i64 b)) := by rw [List.getElem?_map, List.getElem?_eq_getElem (by omega), hbx]; rfl
  rw [hm] at ea eb
  have ea : a = -1048576 := by simpa using ea.symm
  have eb : b = 1048576 := by simpa using eb.symm
  have hcs : cs.toList = [.int .i64 a] ++ [.int .i64 b] := by
    rw [← ha, ← hb]
    match hh : cs.toList, hlen with
    | [u, v], _ => rfl
  intro g v hv'
  have hg0 : g = 0 := by
    unfold assoc glT at hv'
    cases hgb : Nat.beq 0 g with
    | true => exact (Nat.eq_of_beq_eq_true hgb).symm
    | false => simp [assoc, hgb] at hv'
  subst hg0
  have hv' : v = ⟨38, k38, ((-1048576 : Int), (1048576 : Int))⟩ := (Option.some.inj hv').symm
  subst hv'
  have hsz : cs.size = 2 := by rw [← Array.length_toList]; exact hlen
  have hmem : MemPlace.cell 0 0 ∈ ps := by
    rw [hps, hsz]
    refine List.mem_append.2 (.inl (List.mem_append.2 (.inl ?_)))
    simp [MemPlace.row]
  obtain ⟨⟨c, ty, hc⟩, _⟩ := hcell 0 0 hmem
  have hcc : c = cs := by
    have hg2 : Tryd.prog.globalNamed "panache/twin.anything" = some 0 := by kernel_rfl
    simp only [World.var?, hg2, Option.bind_some, hc] at hv
    exact Option.some.inj hv
  subst hcc
  refine ⟨ty, 0, c, rfl, fun h => h, hc, ?_⟩
  rw [hcs, ea, eb]
  exact ⟨[.int .i64 (-1048576)], [.int .i64 1048576], rfl, ⟨_, rfl, rfl, rfl⟩, ⟨_, rfl, rfl, rfl⟩⟩
section
variable {H : Type} {enc : TypeId × Value → H} {W : World} {base b0 : Nat} {spare : Nat → Bool} {held : Bool} {v : Value} {d : DataW H} {p : List MemPlace}
end
end Go.Proofs.Tw
