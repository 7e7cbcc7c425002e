/- Part 8 of the texts behind the proof: FaO6, FaV9, FaPg, FaM6, FaPh, FaO7, FaM7, FaV10, FaPi, FaO8. -/
import Derived.Test.YtacedikpdmdodaaG07
import Derived.Test.YtacedikpdmdodaaProg
set_option linter.unusedSimpArgs false
set_option linter.unusedVariables false
set_option linter.unusedSectionVars false
set_option maxRecDepth 100000
set_option maxHeartbeats 0
namespace Go.Proofs.Fa
open Go Go.GX Go.Proofs
variable [Inhabited BaseD]
theorem ok43 : CallsOK Try.prog (assoc glT) 43 f43_ct :=
  callsOK_mkM [] st_ok mp_ok it_ok mk_ok in_ok (AllOK.cons ok55 AllOK.nil) f43_an Try.func43 (by kernel_rfl) (by kernel_rfl) f43_ct fun x _ Q h => (v43 x Q).mp (p43 h)
theorem ok45 : CallsOK Try.prog (assoc glT) 45 f45_ct :=
  callsOK_mkM [] st_ok mp_ok it_ok mk_ok in_ok AllOK.nil no_an Try.func45 (by kernel_rfl) (by kernel_rfl) f45_ct fun f _ Q h => (v45 f Q).mp (p45 h)
end Go.Proofs.Fa
set_option linter.unusedVariables false
set_option maxRecDepth 100000
namespace Go.Proofs.Fa
open Go Go.GX Go.Proofs

end Go.Proofs.Fa
set_option linter.unusedVariables false
namespace Go.Proofs.Fa
open Go Go.GX Go.Proofs

structure TriOK (f : List Spring) (st : Int × List Int) : Prop where
  n : st.2.length = f.length
  b : ∀ i, i < f.length → 0 ≤ st.2.getD i 0 ∧ st.2.getD i 0 ≤ (f.getD i ((0, 0), 0, 0)).2.1
  l : 0 ≤ st.1 ∧ st.1 ≤ 400
end Go.Proofs.Fa
set_option linter.unusedVariables false
namespace Go.Proofs.Fa
open Go Go.GX Go.Proofs

def addF (a b : FansT) : FansT := (a.1 + b.1, a.2.1 + b.2.1, a.2.2.1 + b.2.2.1, a.2.2.2 + b.2.2.2)
theorem le4_mk {a b : FansT} (h : ∀ i, i < 4 → 0 ≤ at4 a i ∧ at4 a i ≤ at4 b i) : le4 a b := ⟨h 0 (by omega), h 1 (by omega), h 2 (by omega), h 3 (by omega)⟩
theorem F5_at {a : FansT} (h : F5 a) {i : Nat} (hi : i < 4) : 0 ≤ at4 a i ∧ at4 a i ≤ 4 := all4_at h hi
def vecL (l : List Int) : FansT := tup4 fun i => l.getD i 0
def takesF (s : Store) (f : List Spring) (lots : Bool) : FansT := tup4 fun n => takeO s f lots n
theorem dot_bump {T t : FansT} {n : Nat} (hn : n < 4) : GX.Fa.dot (bump T n) t = GX.Fa.dot T t + at4 t n := by
  have key : ∀ i, i < 4 → at4 (bump T n) i * at4 t i = at4 T i * at4 t i + if i = n then at4 t i else 0 := fun i hi => by
    rw [bump_at (by omega) hi, Int.add_mul]
    by_cases h : i = n
    · rw [if_pos (by omega), if_pos h, Int.one_mul]
    · rw [if_neg (by omega), if_neg h, Int.zero_mul]
  rw [dot_at, dot_at, key 0 (by omega), key 1 (by omega), key 2 (by omega), key 3 (by omega)]
  match n, hn with
  | 0, _ => simp; omega
  | 1, _ => simp; omega
  | 2, _ => simp; omega
  | 3, _ => simp; omega
structure TriT (s : Store) (f : List Spring) (lots : Bool) (i : Nat) (F : FansT) (st : Int × List Int) (T : FansT) : Prop where
  p : ∀ n, n < 4 → 0 ≤ at4 T n
  e : vecL st.2 = addF F T
  d : GX.Fa.dot T (takesF s f lots) = roomO s lots i - st.1
  w : lots = true → ∀ n, n < f.length → 1 ≤ at4 T n → (f.getD n ((0, 0), 0, 0)).2.2 ≤ (s.2.2.getD i (0, 0)).1
  z : supp f.length T
end Go.Proofs.Fa
set_option linter.unusedVariables false
namespace Go.Proofs.Fa
open Go Go.GX Go.Proofs

end Go.Proofs.Fa
set_option maxRecDepth 100000
set_option maxHeartbeats 0
namespace Go.Proofs.Fa
open Go Go.GX Go.Proofs
variable [Inhabited BaseD]
end Go.Proofs.Fa
set_option linter.unusedVariables false
namespace Go.Proofs.Fa
open Go Go.GX Go.Proofs

theorem check_of {s : Store} {f : List Spring} (v : VOK s f) : checkF s f = 0 := by
  have a1 : s.1.all (inB 1 200) = true := List.all_eq_true.2 fun y hy => inB_iff.2 (v.lv y hy)
  have a2 : inB 0 10 s.2.1 = true := inB_iff.2 v.sm
  have a3 : s.2.2.all isLotF = true := List.all_eq_true.2 fun y hy => by
    have := v.lt y hy
    unfold isLotF
    simp only [Bool.and_eq_true, inB_iff]
    exact this
  have a4 : inB 1 4 (f.length : Int) = true := inB_iff.2 ⟨by have := v.f1; omega, by have := v.f4; omega⟩
  have a5 : f.all isSprF = true := List.all_eq_true.2 fun y hy => by
    have := v.sp y hy
    unfold isSprF
    simp only [Bool.and_eq_true, decide_eq_true_eq, inB_iff]
    omega
  have n6 := v.n6
  have n5 := v.n5
  unfold checkF
  rw [if_neg (by omega), if_neg (by rw [a1, a2, a3]; simp), if_neg (by rw [a4]; simp), if_neg (by rw [a5]; simp)]
theorem can_pre : ∀ (A : List BinT) {B : List BinT} {F : FansT}, F5 F → (∀ a, a ∈ A → 0 ≤ costF a NO4) → 0 ≤ tval B F → 0 ≤ tval (A ++ B) F
  | [], _, _, _, _, h => h
  | a :: A, B, F, hF, hA, h => by
    rw [List.cons_append, can_cons hF]
    exact ⟨NO4, NO4_le hF, by rw [less_NO4]; exact can_pre A hF (fun x hx => hA x (by simp [hx])) h, hA a (by simp)⟩
theorem cost_NO4 {t : FansT} {e hold fi : Int} (hh : 0 ≤ hold) (l : FansT) : 0 ≤ costF (t, l, hold, fi) NO4 := by
  have hd : ∀ t : FansT, GX.Fa.dot NO4 t = 0 := fun t => by
    show (0 : Int) * t.1 + 0 * t.2.1 + 0 * t.2.2.1 + 0 * t.2.2.2 = 0
    simp
  have hf : GX.Fa.fitsB (t, l, hold, fi) NO4 = true := decide_eq_true (by rw [hd]; exact hh)
  unfold costF
  rw [if_pos hf]
  unfold GX.Fa.lossV
  rw [hd]
  show (0 : Int) ≤ 0 + (if GX.Fa.isNo NO4 then 0 else fi)
  rw [if_pos (by rfl)]; omega
theorem dot_unit {t : FansT} {n : Nat} (hn : n < 4) : GX.Fa.dot (bump NO4 n) t = at4 t n := by
  rw [dot_bump hn]
  have : GX.Fa.dot NO4 t = 0 := by
    show (0 : Int) * t.1 + 0 * t.2.1 + 0 * t.2.2.1 + 0 * t.2.2.2 = 0
    simp
  omega
theorem NO4_at {i : Nat} (hi : i < 4) : at4 NO4 i = 0 := by
  match i, hi with
  | 0, _ => rfl
  | 1, _ => rfl
  | 2, _ => rfl
  | 3, _ => rfl
theorem can_each {b : BinT} (hone : ∀ n, n < 4 → ∀ F, F5 F → 1 ≤ at4 F n → True) : ∀ (k : Nat) {F : FansT}, F5 F → sumF F = k → (∀ n, n < 4 → 1 ≤ at4 F n → 0 ≤ costF b (bump NO4 n)) → 0 ≤ tval (List.replicate k b) F
  | 0, F, hF, hk, _ => by
    have hno : GX.Fa.isNo F = true := by
      rcases isNo_sum hF with ⟨g, _⟩ | ⟨_, g⟩
      · exact g
      · omega
    show 0 ≤ (if GX.Fa.isNo F then (0 : Int) else -1)
    rw [hno]; decide
  | k + 1, F, hF, hk, hc => by
    rw [List.replicate_succ, can_cons hF]
    obtain ⟨n, hn, h1⟩ : ∃ n, n < 4 ∧ 1 ≤ at4 F n := by
      by_cases h0 : 1 ≤ at4 F 0
      · exact ⟨0, by omega, h0⟩
      by_cases h1 : 1 ≤ at4 F 1
      · exact ⟨1, by omega, h1⟩
      by_cases h2 : 1 ≤ at4 F 2
      · exact ⟨2, by omega, h2⟩
      by_cases h3 : 1 ≤ at4 F 3
      · exact ⟨3, by omega, h3⟩
      rw [sumF_at] at hk
      omega
    have hle : le4 (bump NO4 n) F := le4_mk fun i hi => by
      have := F5_at hF hi
      rw [bump_at (by omega) hi, NO4_at hi]
      by_cases h : i = n
      · subst h; rw [if_pos rfl]; omega
      · rw [if_neg (by omega)]; omega
    have h5 := le4_F5 hle hF
    have hs : sumF (bump NO4 n) = 1 := by
      match n, hn with
      | 0, _ => rfl
      | 1, _ => rfl
      | 2, _ => rfl
      | 3, _ => rfl
    refine ⟨bump NO4 n, hle, can_each hone k h5.2 (by rw [sum_less]; omega) (fun m hm h2 => hc m hm ?_), hc n hn h1⟩
    have := le4_at (less_le hle) hm
    omega

theorem new_all {s : Store} {f : List Spring} (v : VOK s f) {p : Int} (hp : 1 ≤ p ∧ p ≤ 200) (hH : ∀ i, i < f.length → (f.getD i ((0, 0), 0, 0)).1.2 ≤ p) {n : Nat} (hn : sumF (wantF f) = n) : 0 ≤ tval (leavesR (s.1 ++ List.replicate n p) s.2.1 (cH f) 0 0) (wantF f) := by
  have hs := v.sm
  rw [leaves_app]
  refine can_pre _ v.want4 (fun a ha => ?_) (can_each (fun _ _ _ _ _ => trivial) n v.want4 hn fun m hm h1 => ?_)
  · simp only [leavesR, List.mem_map] at ha
    obtain ⟨l, hl, rfl⟩ := ha
    have := v.lv l hl
    exact cost_NO4 (e := 0) (by omega) _
  · have hmn : m < f.length := by
      by_cases h : m < f.length
      · exact h
      · have := want_supp f m hm (by omega); omega
    have hf : GX.Fa.fitsB (tup4 fun i => at4 (cH f) i + s.2.1, tup4 fun _ => 0, p + s.2.1, 0) (bump NO4 m) = true := decide_eq_true (by
      rw [dot_unit hm]
      show at4 (tup4 fun i => at4 (cH f) i + s.2.1) m ≤ p + s.2.1
      rw [at4_tup _ hm, cH_at hm, if_pos hmn]
      have := hH m hmn
      omega)
    unfold costF
    rw [if_pos hf]
    unfold GX.Fa.lossV
    rw [dot_unit hm]
    show (0 : Int) ≤ at4 (tup4 fun _ => (0 : Int)) m + (if GX.Fa.isNo (bump NO4 m) then 0 else 0)
    rw [at4_tup _ hm]; simp

theorem needS_at (c w : FansT) (seam ck : Int) : needS c w seam ck 4 = (if at4 c 0 ≥ ck then at4 w 0 * (at4 c 0 + seam) else 0) + (if at4 c 1 ≥ ck then at4 w 1 * (at4 c 1 + seam) else 0) + (if at4 c 2 ≥ ck then at4 w 2 * (at4 c 2 + seam) else 0) + (if at4 c 3 ≥ ck then at4 w 3 * (at4 c 3 + seam) else 0) := by
  simp only [needS]; omega
theorem needS_less {c w s : FansT} {seam ck : Int} : needS c (GX.Fa.less w s) seam ck 4 = needS c w seam ck 4 - needS c s seam ck 4 := by
  rw [needS_at, needS_at, needS_at]
  have key : ∀ i, i < 4 → (if at4 c i ≥ ck then at4 (GX.Fa.less w s) i * (at4 c i + seam) else 0) = (if at4 c i ≥ ck then at4 w i * (at4 c i + seam) else 0) - (if at4 c i ≥ ck then at4 s i * (at4 c i + seam) else 0) := fun i hi => by
    rw [at4_less _ _ hi]
    split
    · rw [Int.sub_mul]
    · omega
  rw [key 0 (by omega), key 1 (by omega), key 2 (by omega), key 3 (by omega)]
  omega
theorem hasS_cons (a : Int) (r : List Int) (seam ck : Int) : hasS (a :: r) seam ck = (if a ≥ ck then a + seam else 0) + hasS r seam ck := by
  have shift : ∀ (l : List Int) (b : Int), l.foldl (fun a l => if l ≥ ck then a + (l + seam) else a) b = b + l.foldl (fun a l => if l ≥ ck then a + (l + seam) else a) 0 := by
    intro l
    induction l with
    | nil => intro b; simp
    | cons x l ih =>
      intro b
      rw [List.foldl_cons, List.foldl_cons, ih, ih (if x ≥ ck then 0 + (x + seam) else 0)]
      split <;> omega
  unfold hasS
  rw [List.foldl_cons, shift]
  split <;> omega
theorem bin_need {c s : FansT} {seam ck l : Int} (hc : all4 (fun x => 0 ≤ x ∧ x ≤ 40) c) (hs : 0 ≤ seam) (h5 : F5 s) (hfit : GX.Fa.dot s (tup4 fun i => at4 c i + seam) ≤ l + seam) : needS c s seam ck 4 ≤ if l ≥ ck then l + seam else 0 := by
  have hc0 : ∀ i, i < 4 → 0 ≤ at4 c i + seam := fun i hi => by have := (all4_at hc hi).1; omega
  have t0 : ∀ i, i < 4 → 0 ≤ at4 s i * (at4 c i + seam) := fun i hi => Int.mul_nonneg (h5.at0 i hi) (hc0 i hi)
  rw [needS_at]
  by_cases hl : l ≥ ck
  · rw [if_pos hl]
    refine Int.le_trans ?_ hfit
    rw [dot_at, at4_tup _ (show 0 < 4 by omega), at4_tup _ (show 1 < 4 by omega), at4_tup _ (show 2 < 4 by omega), at4_tup _ (show 3 < 4 by omega)]
    have k0 := t0 0 (by omega)
    have k1 := t0 1 (by omega)
    have k2 := t0 2 (by omega)
    have k3 := t0 3 (by omega)
    generalize at4 s 0 * (at4 c 0 + seam) = a at k0 ⊢
    generalize at4 s 1 * (at4 c 1 + seam) = b at k1 ⊢
    generalize at4 s 2 * (at4 c 2 + seam) = d at k2 ⊢
    generalize at4 s 3 * (at4 c 3 + seam) = e at k3 ⊢
    split <;> split <;> split <;> split <;> omega
  · rw [if_neg hl]
    have z : ∀ i, i < 4 → (if at4 c i ≥ ck then at4 s i * (at4 c i + seam) else 0) = 0 := fun i hi => by
      by_cases hk : at4 c i ≥ ck
      · rw [if_pos hk]
        have h1 := dot_ge (s := s) (g := fun i => at4 c i + seam) h5.at0 hc0 hi
        have h0 := h5.at0 i hi
        by_cases h2 : 1 ≤ at4 s i
        · have := Int.mul_le_mul_of_nonneg_right h2 (hc0 i hi)
          omega
        · rw [show at4 s i = 0 by omega, Int.zero_mul]
      · rw [if_neg hk]
    rw [z 0 (by omega), z 1 (by omega), z 2 (by omega), z 3 (by omega)]
    omega
theorem all_need {c : FansT} {seam ck : Int} (hc : all4 (fun x => 0 ≤ x ∧ x ≤ 40) c) (hs : 0 ≤ seam) : ∀ (ls : List Int) {F : FansT}, F5 F → 0 ≤ tval (leavesR ls seam c 0 0) F → needS c F seam ck 4 ≤ hasS ls seam ck
  | [], F, hF, h => by
    have h : 0 ≤ (if GX.Fa.isNo F then (0 : Int) else -1) := h
    cases hn : GX.Fa.isNo F with
    | false => rw [hn] at h; exact absurd h (by decide)
    | true =>
      simp only [GX.Fa.isNo, Bool.and_eq_true, beq_iff_eq] at hn
      have z : ∀ i, i < 4 → at4 F i = 0 := fun i hi => by
        match i, hi with
        | 0, _ => exact hn.1
        | 1, _ => exact hn.2.1
        | 2, _ => exact hn.2.2.1
        | 3, _ => exact hn.2.2.2
      rw [needS_at, z 0 (by omega), z 1 (by omega), z 2 (by omega), z 3 (by omega)]
      simp [hasS]
  | l :: ls, F, hF, h => by
    have e : leavesR (l :: ls) seam c 0 0 = (tup4 fun i => at4 c i + seam, tup4 fun _ => 0, l + seam, 0) :: leavesR ls seam c 0 0 := rfl
    rw [e, can_cons hF] at h
    obtain ⟨s, hle, ht, hco⟩ := h
    have h5 := le4_F5 hle hF
    have ih := all_need hc hs (ck := ck) ls h5.2 ht
    have hfit : GX.Fa.dot s (tup4 fun i => at4 c i + seam) ≤ l + seam := by
      unfold costF at hco
      split at hco
      · rename_i hf; exact of_decide_eq_true hf
      · exact absurd hco (by decide)
    have hb := bin_need (ck := ck) hc hs h5.1 hfit
    rw [needS_less] at ih
    rw [hasS_cons]
    omega
theorem hasS_app (ls : List Int) (p seam ck : Int) (h : 0 ≤ p + seam) : ∀ n : Nat, hasS (ls ++ List.replicate n p) seam ck ≤ hasS ls seam ck + n * (p + seam) := by
  intro n
  induction ls with
  | nil =>
    induction n with
    | zero => simp [hasS]
    | succ n ih =>
      have e : ([] : List Int) ++ List.replicate (n + 1) p = p :: ([] ++ List.replicate n p) := rfl
      rw [e, hasS_cons]
      push_cast
      rw [Int.add_mul, Int.one_mul]
      split <;> omega
  | cons a r ih =>
    rw [List.cons_append, hasS_cons, hasS_cons]
    omega
theorem bound_le {s : Store} {f : List Spring} (v : VOK s f) {p : Int} (hp : 1 ≤ p) {n : Nat} (h : 0 ≤ tval (leavesR (s.1 ++ List.replicate n p) s.2.1 (cH f) 0 0) (wantF f)) (k : Nat) : boundN s f p k ≤ n := by
  have hs := v.sm
  have h1 := all_need (ck := at4 (cH f) k) v.cH hs.1 _ v.want4 h
  have h2 := hasS_app s.1 p s.2.1 (at4 (cH f) k) (by omega) n
  have hm : missB s f k ≤ n * (p + s.2.1) := by unfold missB; omega
  unfold boundN
  have h0 : 0 ≤ (n : Int) * (p + s.2.1) := Int.mul_nonneg (by omega) (by omega)
  have hx : 0 ≤ mxI 0 (missB s f k) ∧ mxI 0 (missB s f k) ≤ n * (p + s.2.1) := by unfold mxI; split <;> omega
  rw [Int.tdiv_eq_ediv_of_nonneg (by omega)]
  have : (mxI 0 (missB s f k) + (p + s.2.1) - 1) / (p + s.2.1) < (n : Int) + 1 := Int.ediv_lt_of_lt_mul (by omega) (by rw [Int.add_mul, Int.one_mul]; omega)
  omega
theorem boundS_ok {s : Store} {f : List Spring} {p : Int} {n : Int} (hn : 0 ≤ n) (h : ∀ k, boundN s f p k ≤ n) : ∀ k : Nat, 0 ≤ (boundS s f p k).1 ∧ (boundS s f p k).1 ≤ n
  | 0 => ⟨Int.le_refl _, hn⟩
  | k + 1 => by
    have ih := boundS_ok hn h k
    have hk := h k
    rw [boundS_succ]
    unfold boundStep
    split
    · rename_i hh
      exact ⟨by show 0 ≤ boundN s f p k; omega, hk⟩
    · exact ih
theorem boundS_pos {s : Store} {f : List Spring} {p : Int} : ∀ k : Nat, 0 ≤ (boundS s f p k).1 ∧ 0 ≤ (boundS s f p k).2 ∧ ((boundS s f p k).2 < k ∨ (boundS s f p k).2 = 0)
  | 0 => ⟨Int.le_refl _, Int.le_refl _, .inr rfl⟩
  | k + 1 => by
    have ih := boundS_pos (s := s) (f := f) (p := p) k
    rw [boundS_succ]
    unfold boundStep
    split
    · rename_i hh
      refine ⟨by show 0 ≤ boundN s f p k; omega, by show (0 : Int) ≤ k; omega, .inl (by show (k : Int) < ((k + 1 : Nat) : Int); omega)⟩
    · refine ⟨ih.1, ih.2.1, ?_⟩
      rcases ih.2.2 with g | g
      · exact .inl (by omega)
      · exact .inr g
theorem newOK_iff {s : Store} {f : List Spring} (v : VOK s f) {p : Int} (hp : 1 ≤ p ∧ p ≤ 200) {n : Nat} (hn : n ≤ 17) : newOK s f p n = decide (0 ≤ tval (leavesR (s.1 ++ List.replicate n p) s.2.1 (cH f) 0 0) (wantF f)) := by
  have hn6 := v.n6
  have hl4 : ∀ l, l ∈ s.1 ++ List.replicate n p → bnd 400 l := fun l hl => by
    rcases List.mem_append.1 hl with hl | hl
    · exact v.lv4 l hl
    · rw [(List.mem_replicate.1 hl).2]; exact ⟨by omega, by omega⟩
  exact can_tval (leaves_agree _) (leavesR_ok (by simp; omega) hl4 v.sm4 (cnt400 v.cH) ⟨by omega, by omega⟩ ⟨by omega, by omega⟩ (by omega) (by omega)) v.want4 (want_supp f)
theorem new_more {s : Store} {f : List Spring} (v : VOK s f) {p : Int} (hp : 1 ≤ p ∧ p ≤ 199) {n : Nat} (hn : n ≤ 17) (h : 0 ≤ tval (leavesR (s.1 ++ List.replicate n p) s.2.1 (cH f) 0 0) (wantF f)) : 0 ≤ tval (leavesR (s.1 ++ List.replicate n (p + 1)) s.2.1 (cH f) 0 0) (wantF f) := by
  have hn6 := v.n6
  have hb : ∀ p : Int, 1 ≤ p → p ≤ 200 → Bins0 (leavesR (s.1 ++ List.replicate n p) s.2.1 (cH f) 0 0) := fun p h1 h2 => by
    have hl4 : ∀ l, l ∈ s.1 ++ List.replicate n p → bnd 400 l := fun l hl => by
      rcases List.mem_append.1 hl with hl | hl
      · exact v.lv4 l hl
      · rw [(List.mem_replicate.1 hl).2]; exact ⟨by omega, by omega⟩
    exact leavesR_ok (by simp; omega) hl4 v.sm4 (cnt400 v.cH) ⟨by omega, by omega⟩ ⟨by omega, by omega⟩ (by omega) (by omega)
  refine can_mono (hb p hp.1 (by omega)) (hb (p + 1) (by omega) (by omega)) (by simp [leavesR]) (fun i hi t ht hf => ?_) v.want4 h
  have hi : i < s.1.length + n := by simpa [leavesR] using hi
  rw [leaves_get (by simp; omega)] at hf ⊢
  have hf : GX.Fa.dot t (tup4 fun j => at4 (cH f) j + s.2.1) ≤ (s.1 ++ List.replicate n p).getD i 0 + s.2.1 := of_decide_eq_true hf
  refine decide_eq_true (show GX.Fa.dot t (tup4 fun j => at4 (cH f) j + s.2.1) ≤ (s.1 ++ List.replicate n (p + 1)).getD i 0 + s.2.1 from ?_)
  have : (s.1 ++ List.replicate n p).getD i 0 ≤ (s.1 ++ List.replicate n (p + 1)).getD i 0 := by
    by_cases h1 : i < s.1.length
    · rw [List.getD_eq_getElem?_getD, List.getD_eq_getElem?_getD, List.getElem?_append_left h1, List.getElem?_append_left h1]; exact Int.le_refl _
    · rw [List.getD_eq_getElem?_getD, List.getD_eq_getElem?_getD, List.getElem?_append_right (by omega), List.getElem?_append_right (by omega), List.getElem?_replicate, List.getElem?_replicate, if_pos (by omega), if_pos (by omega)]
      show p ≤ p + 1
      omega
  omega
end Go.Proofs.Fa
set_option linter.unusedVariables false
set_option maxRecDepth 100000
namespace Go.Proofs.Fa
open Go Go.GX Go.Proofs

def V10 (x : List Int × Int × List (Int × Int) × List FansT) (p : Int) (Q : Bool → Prop) : Prop := f43_wp (x.1, x.2.1, x.2.2.1, x.2.2.2) () fun (r : (List Int × Int × List (Int × Int)) × List Spring × Unit) ↦ List.length r.1.1 ≤ (9223372036854775807 : Nat) → ∃ (I : List Int × Int × List (Int × Int) → Prop), cnd (decide ((↑(List.length r.1.1) : Int) > (3 : Int))) ((0 : Int) ≤ (0 : Int) ∧ (0 : Int) ≤ (3 : Int) ∧ (3 : Int) ≤ (↑(List.length r.1.1) : Int) ∧ I (List.drop (Int.toNat (0 : Int)) (List.take (Int.toNat (3 : Int)) r.1.1), r.1.2.1, r.1.2.2)) (I (r.1.1, r.1.2.1, r.1.2.2)) ∧ ∀ (x : List Int × Int × List (Int × Int)), I x → (199 : Int) ≠ (0 : Int) ∧ f44_wp (x.1, x.2.1, x.2.2) () fun (r_1 : List Int × Int × List (Int × Int)) ↦ f45_wp r.2.1 () fun (r_2 : List Spring) ↦ f31_wp ((r_1.1, r_1.2.1, r_1.2.2), r_2, IntKind.wrap IntKind.i64 ((1 : Int) + Int.tmod (IntKind.wrap IntKind.i64 p) (199 : Int)), ()) () fun (r_3 : Int × Int × Unit) ↦ f44_wp (x.1, x.2.1, x.2.2) () fun (r_4 : List Int × Int × List (Int × Int)) ↦ f45_wp r.2.1 () fun (r_5 : List Spring) ↦ f34_wp ((r_4.1, r_4.2.1, r_4.2.2), r_5, IntKind.wrap IntKind.i64 ((1 : Int) + Int.tmod (IntKind.wrap IntKind.i64 p) (199 : Int)), ()) () fun (r_6 : Int × Int × Int × Unit) ↦ ∃ (I : Bool → Prop), cnd (r_6.2.2.1 != (0 : Int)) (I true) (cnd (decide (r_6.2.1 < (0 : Int))) (I true) (List.length r.2.1 ≤ (9223372036854775807 : Nat) → cnd (decide (r_6.2.1 ≥ (↑(List.length r.2.1) : Int))) (I true) (I (decide (r_6.1 < (0 : Int)))))) ∧ ∀ (x_1 : Bool), I x_1 → cnd x_1 (Q false) (cnd (r_3.2.1 != (0 : Int)) (∃ (I : Bool → Prop), cnd (r_3.2.1 != (9 : Int)) (I true) (I (r_3.1 != (0 : Int))) ∧ ∀ (x : Bool), I x → cnd x (Q false) (∃ (I : Int → Int → Prop), ∃ (μ : Int → Int → Nat), I (0 : Int) (0 : Int) ∧ ∀ (x x_2 : Int), I x x_2 → List.length r.2.1 ≤ (9223372036854775807 : Nat) → cnd (decide (x < (↑(List.length r.2.1) : Int))) ((0 : Int) ≤ x ∧ x < (↑(List.length r.2.1) : Int) ∧ I (IntKind.wrap IntKind.i64 (x + (1 : Int))) (mxI x_2 (Prod.snd (Prod.fst (List.getD r.2.1 (Int.toNat x) (((0 : Int), (0 : Int)), (0 : Int), (0 : Int)))))) ∧ μ (IntKind.wrap IntKind.i64 (x + (1 : Int))) (mxI x_2 (Prod.snd (Prod.fst (List.getD r.2.1 (Int.toNat x) (((0 : Int), (0 : Int)), (0 : Int), (0 : Int)))))) < μ x x_2) (cnd (decide (x_2 > IntKind.wrap IntKind.i64 ((1 : Int) + Int.tmod (IntKind.wrap IntKind.i64 p) (199 : Int)))) (f17_wp () () fun (r : Bool) ↦ Q r) (Q false)))) (∃ (I : Bool → Prop), cnd (decide (r_3.1 < r_6.1)) (I true) (cnd (decide (r_3.1 < (0 : Int))) (I true) (I (decide (r_3.1 > (12 : Int))))) ∧ ∀ (x_2 : Bool), I x_2 → cnd x_2 (Q false) (f44_wp (x.1, x.2.1, x.2.2) () fun (r_7 : List Int × Int × List (Int × Int)) ↦ f45_wp r.2.1 () fun (r_8 : List Spring) ↦ f31_wp ((r_7.1, r_7.2.1, r_7.2.2), r_8, IntKind.wrap IntKind.i64 (IntKind.wrap IntKind.i64 ((1 : Int) + Int.tmod (IntKind.wrap IntKind.i64 p) (199 : Int)) + (1 : Int)), ()) () fun (r_9 : Int × Int × Unit) ↦ ∃ (I : Bool → Prop), cnd (r_9.2.1 != (0 : Int)) (I true) (I (decide (r_9.1 > r_3.1))) ∧ ∀ (x_3 : Bool), I x_3 → cnd x_3 (Q false) (∃ (I : Int → Prop), ∃ (μ : Int → Nat), I (0 : Int) ∧ ∀ (x_4 : Int), I x_4 → cnd (decide (x_4 < (2 : Int))) (f44_wp (x.1, x.2.1, x.2.2) () fun (r_10 : List Int × Int × List (Int × Int)) ↦ ∃ (I_1 : Int → List Int × Int × List (Int × Int) → Prop), ∃ (μ_1 : Int → List Int × Int × List (Int × Int) → Nat), I_1 (0 : Int) (r_10.1, r_10.2.1, r_10.2.2) ∧ ∀ (x : Int) (x_5 : List Int × Int × List (Int × Int)), I_1 x x_5 → cnd (decide (x < IntKind.wrap IntKind.i64 (r_3.1 - x_4))) ((List.length x_5.1 + List.length (IntKind.wrap IntKind.i64 ((1 : Int) + Int.tmod (IntKind.wrap IntKind.i64 p) (199 : Int)) :: ([] : List Int))) * (8 : Nat) ≤ (140737488355328 : Nat) ∧ I_1 (IntKind.wrap IntKind.i64 (x + (1 : Int))) (x_5.1 ++ IntKind.wrap IntKind.i64 ((1 : Int) + Int.tmod (IntKind.wrap IntKind.i64 p) (199 : Int)) :: ([] : List Int), x_5.2.1, x_5.2.2) ∧ μ_1 (IntKind.wrap IntKind.i64 (x + (1 : Int))) (x_5.1 ++ IntKind.wrap IntKind.i64 ((1 : Int) + Int.tmod (IntKind.wrap IntKind.i64 p) (199 : Int)) :: ([] : List Int), x_5.2.1, x_5.2.2) < μ_1 x x_5) (∃ (I_2 : Bool → Prop), cnd (decide (IntKind.wrap IntKind.i64 (r_3.1 - x_4) < (0 : Int))) (I_2 true) (List.length x_5.1 ≤ (9223372036854775807 : Nat) → I_2 (decide ((↑(List.length x_5.1) : Int) > (6 : Int)))) ∧ ∀ (x : Bool), I_2 x → cnd x (I (IntKind.wrap IntKind.i64 (x_4 + (1 : Int))) ∧ μ (IntKind.wrap IntKind.i64 (x_4 + (1 : Int))) < μ x_4) (∃ (r_11 : List Spring), (f45_wp r.2.1 () fun (r' : List Spring) ↦ r' = r_11) ∧ ∃ (r : List (List Int) × Int × Unit), (f21_wp ((x_5.1, x_5.2.1, x_5.2.2), r_11, ()) () fun (r' : List (List Int) × Int × Unit) ↦ r' = r) ∧ ∃ (I_3 : Bool → Prop), cnd (x_4 == (0 : Int)) (cnd (r.2.1 != (0 : Int)) (I_3 true) (cnd (x_4 == (1 : Int)) (I_3 (r.2.1 != (9 : Int))) (I_3 false))) (cnd (x_4 == (1 : Int)) (I_3 (r.2.1 != (9 : Int))) (I_3 false)) ∧ ∀ (x : Bool), I_3 x → cnd x (Q false) (I (IntKind.wrap IntKind.i64 (x_4 + (1 : Int))) ∧ μ (IntKind.wrap IntKind.i64 (x_4 + (1 : Int))) < μ x_4)))) (f17_wp () () fun (r : Bool) ↦ Q r)))))
theorem v10 (x : List Int × Int × List (Int × Int) × List FansT) (p : Int) (Q : Bool → Prop) : V10 x p Q = vcFunc (S0 [(43, f43_ct), (44, f44o_ct), (45, f45_ct), (31, f31_ct), (34, f34_ct), (21, f21_ct), (17, f17_ct)] []) f10_ct.own f10_ct.fresh f10_an Try.f10 (bodyOf Try.f10) f10_ct.A f10_ct.C f10_ct.R (x, p, ()) () Q := by kernel_rfl

end Go.Proofs.Fa
set_option linter.unusedVariables false
namespace Go.Proofs.Fa
open Go Go.GX Go.Proofs

theorem v44o (s : Store) (Q : Store → Prop) : V44 s Q = vcFunc (S0 [] []) f44o_ct.own f44o_ct.fresh no_an Try.f44 (bodyOf Try.f44) f44o_ct.A f44o_ct.C f44o_ct.R s () Q := by kernel_rfl
theorem vok_leaves {s : Store} {f : List Spring} (v : VOK s f) {ls : List Int} (hn : ls.length ≤ 6) (hl : ∀ l, l ∈ ls → 1 ≤ l ∧ l ≤ 200) : VOK (ls, s.2.1, s.2.2) f :=
  ⟨hn, v.n5, hl, v.sm, v.lt, v.f1, v.f4, v.sp⟩
theorem p10 {x : Season} {p : Int} {Q : Bool → Prop} (h : f10_wp (x, p, ()) () Q) : V10 x p Q := by
  obtain ⟨⟨okx, hpb⟩, h⟩ := h
  have okx : SeaOK x := okx
  have hpb : byteB p := hpb
  have h : Q true := h
  have v0 := vok_of (sea_ok x)
  have hsl := seaF_len x
  obtain ⟨f, hf⟩ : ∃ f, f = seaF x := ⟨_, rfl⟩
  obtain ⟨s, hs⟩ : ∃ s : Store, s = ((seaS x).1.take 3, (seaS x).2.1, (seaS x).2.2) := ⟨_, rfl⟩
  have hs3 : s.1.length ≤ 3 := by rw [hs]; show ((seaS x).1.take 3).length ≤ 3; rw [List.length_take]; omega
  have v : VOK s f := by
    rw [hs, hf]
    exact vok_leaves v0 (by rw [List.length_take]; omega) fun l hl => v0.lv l (List.mem_of_mem_take hl)
  rw [← hf] at v0 hsl
  have hc := check_of v
  have n1 : s.1.length ≤ 1000 ∧ s.2.2.length ≤ 1000 := ⟨by omega, by have := v.n5; omega⟩
  have n2 : f.length ≤ 1000 := by omega
  have f1 := v.f1
  have f4 := v.f4
  have hm := mod_b (x := p) (m := 199) (by omega)
  obtain ⟨P, hP⟩ : ∃ P, P = 1 + p % 199 := ⟨_, rfl⟩
  have hPb : 1 ≤ P ∧ P ≤ 199 := by omega
  have eP : IntKind.wrap .i64 (1 + Int.tmod (IntKind.wrap .i64 p) 199) = P := by
    rw [modB hpb (by omega), wrapS (by omega) (by omega), hP]
  have w5 : F5 (wantF f) := v.want4
  have hsum : 0 ≤ sumF (wantF f) ∧ sumF (wantF f) ≤ 12 := by
    have h3 : at4 (wantF f) 3 = 0 := want_supp f 3 (by omega) (by omega)
    have a0 := F5_at w5 (i := 0) (by omega)
    have a1 := F5_at w5 (i := 1) (by omega)
    have a2 := F5_at w5 (i := 2) (by omega)
    rw [sumF_at]; omega
  have eN : ∀ q : Int, 1 ≤ q → q ≤ 200 → resNew s f q = newF s f q := fun q h1 h2 => by
    unfold resNew
    rw [if_neg (by simp [hc]), if_neg (by rw [inB_iff.2 ⟨h1, h2⟩]; simp)]
  have eB : resBound s f P = ((boundF s f P).1, (boundF s f P).2, 0) := by
    unfold resBound
    rw [if_neg (by simp [hc]), if_neg (by rw [inB_iff.2 ⟨hPb.1, by omega⟩]; simp)]
  have bp := boundS_pos (s := s) (f := f) (p := P) f.length
  have eBF : boundF s f P = boundS s f P f.length := rfl
  refine ⟨okx, fun _ => ⟨fun y => y = s, ?_, ?_⟩⟩
  · refine cnd_iff.2 ⟨fun _ => ?_, fun g => ?_⟩
    · refine ⟨by omega, by omega, ?_, ?_⟩
      · rename_i g
        have g : ((seaS x).1.length : Int) > 3 := of_decide_eq_true g
        show (3 : Int) ≤ ((seaS x).1.length : Nat)
        omega
      · show (((seaS x).1.take 3).drop 0, (seaS x).2.1, (seaS x).2.2) = s
        rw [hs]; rfl
    · have g : ¬ ((seaS x).1.length : Int) > 3 := of_decide_eq_false g
      show ((seaS x).1, (seaS x).2.1, (seaS x).2.2) = s
      rw [hs, List.take_of_length_le (by omega)]
  rintro y rfl
  rw [eP]
  refine ⟨by omega, n1, by rw [← hf]; exact n2, n1, by rw [← hf]; exact n2, fun b => b = false, ?_, ?_⟩
  · rw [← hf]
    show cnd ((resBound y f P).2.2 != 0) (true = false) (cnd (decide ((resBound y f P).2.1 < 0)) (true = false) (_ → cnd (decide ((resBound y f P).2.1 ≥ (f.length : Nat))) (true = false) (decide ((resBound y f P).1 < 0) = false)))
    rw [eB, eBF]
    refine cndN rfl ?_
    rw [decide_eq_false (show ¬ (boundS y f P f.length).2 < 0 by omega)]
    refine cndF fun _ => ?_
    rw [decide_eq_false (show ¬ (boundS y f P f.length).2 ≥ (f.length : Nat) by omega)]
    exact cndF (decide_eq_false (show ¬ (boundS y f P f.length).1 < 0 by omega))
  rintro b rfl
  refine cndF ?_
  rw [← hf]
  have eF : newF y f P = match (List.range ((sumF (wantF f)).toNat + 1)).find? (newOK y f P) with | some n => ((n : Int), 0) | none => (0, 9) := rfl
  cases hfd : (List.range ((sumF (wantF f)).toNat + 1)).find? (newOK y f P) with
  | none =>
    rw [hfd] at eF
    have e1 : resNew y f P = (0, 9) := (eN P hPb.1 (by omega)).trans eF
    have e2 : (resNew y f P).2 = 9 := by rw [e1]
    have e3 : (resNew y f P).1 = 0 := by rw [e1]
    refine cndNe (show (resNew y f P).2 ≠ 0 by rw [e2]; decide) ⟨fun b => b = false, ?_, ?_⟩
    · show cnd ((resNew y f P).2 != 9) (true = false) (((resNew y f P).1 != 0) = false)
      rw [e2, e3]; rfl
    rintro b rfl
    refine cndF ⟨fun i a => ∃ k : Nat, k ≤ f.length ∧ i = k ∧ ∀ j, j < k → (f.getD j ((0, 0), 0, 0)).1.2 ≤ a, fun i _ => (f.length - i).toNat, ⟨0, by omega, rfl, by omega⟩, ?_⟩
    rintro i a ⟨k, hk, rfl, hall⟩ _
    refine cnd_iff.2 ⟨fun g => ?_, fun g => ?_⟩
    · have g : (k : Int) < f.length := of_decide_eq_true g
      refine ⟨by omega, g, ⟨k + 1, by omega, ?_, fun j hj => ?_⟩, ?_⟩
      · rw [wrapS (by omega) (by omega)]; omega
      · show (f.getD j ((0, 0), 0, 0)).1.2 ≤ mxI a (f.getD k ((0, 0), 0, 0)).1.2
        have hmx : a ≤ mxI a (f.getD k ((0, 0), 0, 0)).1.2 ∧ (f.getD k ((0, 0), 0, 0)).1.2 ≤ mxI a (f.getD k ((0, 0), 0, 0)).1.2 := by unfold mxI; split <;> omega
        rcases Nat.lt_succ_iff_lt_or_eq.1 hj with q | rfl
        · have := hall j q; omega
        · exact hmx.2
      · show (f.length - IntKind.wrap .i64 ((k : Int) + 1)).toNat < (f.length - (k : Int)).toNat
        rw [wrapS (by omega) (by omega)]; omega
    · have g : ¬ (k : Int) < f.length := of_decide_eq_false g
      have hkn : k = f.length := by omega
      subst hkn
      refine cndD ?_ (known h)
      by_cases hgt : a > P
      · exact hgt
      · exfalso
        have hn := new_all v (p := P) ⟨hPb.1, by omega⟩ (fun i hi => by have := hall i hi; omega) (n := (sumF (wantF f)).toNat) (by omega)
        have := List.find?_eq_none.1 hfd (sumF (wantF f)).toNat (by simp)
        rw [newOK_iff v ⟨hPb.1, by omega⟩ (by omega), decide_eq_true hn] at this
        exact this rfl
  | some n =>
    rw [hfd] at eF
    have e1 : resNew y f P = ((n : Int), 0) := (eN P hPb.1 (by omega)).trans eF
    have e2 : (resNew y f P).2 = 0 := by rw [e1]
    have e3 : (resNew y f P).1 = (n : Int) := by rw [e1]
    rw [List.find?_range_eq_some] at hfd
    obtain ⟨q1, q2, q3⟩ := hfd
    have q2 : n < (sumF (wantF f)).toNat + 1 := by simpa using q2
    rw [newOK_iff v ⟨hPb.1, by omega⟩ (by omega)] at q1
    have q1 := of_decide_eq_true q1
    have hbn := (boundS_ok (s := y) (f := f) (p := P) (n := (n : Int)) (by omega) (fun k => bound_le v hPb.1 q1 k) f.length).2
    refine cndN e2 ⟨fun b => b = false, ?_, ?_⟩
    · show cnd (decide ((resNew y f P).1 < (resBound y f P).1)) (true = false) (cnd (decide ((resNew y f P).1 < 0)) (true = false) (decide ((resNew y f P).1 > 12) = false))
      rw [e3, eB, eBF]
      rw [decide_eq_false (show ¬ (n : Int) < (boundS y f P f.length).1 by omega), decide_eq_false (show ¬ (n : Int) < 0 by omega)]
      exact cndF (cndF (decide_eq_false (by omega)))
    rintro b rfl
    have eP1 : IntKind.wrap .i64 (P + 1) = P + 1 := wrapS (by omega) (by omega)
    rw [eP1]
    refine cndF ⟨n1, n2, fun b => b = false, ?_, ?_⟩
    · show cnd ((resNew y f (P + 1)).2 != 0) (true = false) (decide ((resNew y f (P + 1)).1 > (resNew y f P).1) = false)
      rw [e3, eN (P + 1) (by omega) (by omega)]
      have hmore := new_more v (p := P) hPb (n := n) (by omega) q1
      have hok : newOK y f (P + 1) n = true := by rw [newOK_iff v ⟨by omega, by omega⟩ (by omega)]; exact decide_eq_true hmore
      have eF2 : newF y f (P + 1) = match (List.range ((sumF (wantF f)).toNat + 1)).find? (newOK y f (P + 1)) with | some n => ((n : Int), 0) | none => (0, 9) := rfl
      cases hfd2 : (List.range ((sumF (wantF f)).toNat + 1)).find? (newOK y f (P + 1)) with
      | none =>
        have := List.find?_eq_none.1 hfd2 n (List.mem_range.2 q2)
        exact absurd hok this
      | some m =>
        rw [hfd2] at eF2
        rw [eF2]
        rw [List.find?_range_eq_some] at hfd2
        obtain ⟨_, _, k3⟩ := hfd2
        refine cndN rfl (decide_eq_false ?_)
        show ¬ (m : Int) > n
        intro hgt
        have := k3 n (by omega)
        rw [hok] at this
        cases this
    rintro b rfl
    refine cndF ?_
    refine forUpG (n := 2) (by omega) (fun _ => True) trivial (fun k hk _ I μ hI hw => ?_) (fun _ => known h)
    have eR : IntKind.wrap .i64 ((resNew y f P).1 - (k : Int)) = (n : Int) - k := by rw [e3]; exact wrapS (by omega) (by omega)
    refine ⟨n1, fun i c => ∃ j : Nat, j ≤ ((n : Int) - k).toNat ∧ i = j ∧ c = (y.1 ++ List.replicate j P, y.2.1, y.2.2), fun i _ => (((n : Int) - k) - i).toNat, ⟨0, by omega, rfl, by simp⟩, ?_⟩
    rintro i c ⟨j, hj, rfl, rfl⟩
    show cnd (decide ((j : Int) < IntKind.wrap .i64 ((resNew y f P).1 - (k : Int)))) _ (∃ I2 : Bool → Prop, cnd (decide (IntKind.wrap .i64 ((resNew y f P).1 - (k : Int)) < 0)) _ _ ∧ _)
    rw [eR]
    have hln : (y.1 ++ List.replicate j P).length = y.1.length + j := by simp
    refine cnd_iff.2 ⟨fun g => ?_, fun g => ?_⟩
    · have g : (j : Int) < (n : Int) - k := of_decide_eq_true g
      refine ⟨?_, ⟨j + 1, by omega, ?_, ?_⟩, ?_⟩
      · show ((y.1 ++ List.replicate j P).length + 1) * 8 ≤ _
        omega
      · rw [wrapS (by omega) (by omega)]; omega
      · show ((y.1 ++ List.replicate j P) ++ [P], y.2.1, y.2.2) = _
        rw [List.append_assoc, List.replicate_succ']
      · show ((n : Int) - k - IntKind.wrap .i64 ((j : Int) + 1)).toNat < ((n : Int) - k - (j : Int)).toNat
        rw [wrapS (by omega) (by omega)]; omega
    have g : ¬ (j : Int) < (n : Int) - k := of_decide_eq_false g
    have hjn : j = ((n : Int) - k).toNat := by omega
    refine ⟨fun b => b = decide ((n : Int) - k < 0 ∨ y.1.length + j > 6), cnd_iff.2 ⟨fun g2 => ?_, fun g2 _ => ?_⟩, ?_⟩
    · have g2 : (n : Int) - k < 0 := of_decide_eq_true g2
      exact (decide_eq_true (.inl g2)).symm
    · have g2 : ¬ (n : Int) - k < 0 := of_decide_eq_false g2
      show decide ((((y.1 ++ List.replicate j P).length : Nat) : Int) > 6) = _
      rw [hln, decide_eq_decide]; omega
    rintro b rfl
    rw [hw]
    refine cnd_iff.2 ⟨fun _ => hI trivial, fun g2 => ?_⟩
    have g2 : ¬ ((n : Int) - k < 0 ∨ y.1.length + j > 6) := of_decide_eq_false g2
    have v' : VOK (y.1 ++ List.replicate j P, y.2.1, y.2.2) f := vok_leaves v (by rw [hln]; omega) fun l hl => by
      rcases List.mem_append.1 hl with hl | hl
      · exact v.lv l hl
      · rw [(List.mem_replicate.1 hl).2]; omega
    have hc' := check_of v'
    have hcode := code_leaves v' hc'
    refine ⟨_, ⟨n2, rfl⟩, _, rfl, fun b => b = false, ?_, ?_⟩
    · show cnd ((k : Int) == 0) (cnd ((resLeaves (y.1 ++ List.replicate j P, y.2.1, y.2.2) f).2 != 0) (true = false) (cnd ((k : Int) == 1) (((resLeaves (y.1 ++ List.replicate j P, y.2.1, y.2.2) f).2 != 9) = false) (false = false))) (cnd ((k : Int) == 1) (((resLeaves (y.1 ++ List.replicate j P, y.2.1, y.2.2) f).2 != 9) = false) (false = false))
      rw [hcode]
      have hk2 : k = 0 ∨ k = 1 := by omega
      rcases hk2 with rfl | rfl
      · have hjn : j = n := by omega
        subst hjn
        rw [if_pos (show 0 ≤ tval (Fa.lvR (y.1 ++ List.replicate j P, y.2.1, y.2.2) (cH f) 0 0) (wantF f) from q1)]
        rfl
      · have hjn : j = n - 1 := by omega
        have hlt : j < n := by omega
        have hno := q3 j hlt
        rw [newOK_iff v ⟨hPb.1, by omega⟩ (by omega)] at hno
        have hno : ¬ 0 ≤ tval (leavesR (y.1 ++ List.replicate j P) y.2.1 (cH f) 0 0) (wantF f) := by simpa using hno
        rw [if_neg (show ¬ 0 ≤ tval (Fa.lvR (y.1 ++ List.replicate j P, y.2.1, y.2.2) (cH f) 0 0) (wantF f) from hno)]
        rfl
    rintro b rfl
    exact cndF (hI trivial)
end Go.Proofs.Fa
set_option maxRecDepth 100000
set_option maxHeartbeats 0
namespace Go.Proofs.Fa
open Go Go.GX Go.Proofs
variable [Inhabited BaseD]
theorem ok44o : CallsOK Try.prog (assoc glT) 44 f44o_ct :=
  callsOK_mkM [] st_ok mp_ok it_ok mk_ok in_ok AllOK.nil no_an Try.func44 (by kernel_rfl) (by kernel_rfl) f44o_ct fun s _ Q h => (v44o s Q).mp (p44 h)
theorem ok10 : CallsOK Try.prog (assoc glT) 10 f10_ct :=
  callsOK_mkM [] st_ok mp_ok it_ok mk_ok in_ok (AllOK.cons ok43 (AllOK.cons ok44o (AllOK.cons ok45 (AllOK.cons ok31 (AllOK.cons ok34 (AllOK.cons ok21 (AllOK.cons ok17 AllOK.nil))))))) f10_an Try.func10 (by kernel_rfl) (by kernel_rfl) f10_ct fun ⟨x, p, _⟩ _ Q h => (v10 x p Q).mp (p10 h)
end Go.Proofs.Fa
