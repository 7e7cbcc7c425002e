/- Part 6 of the texts behind the proof: TwI1, TwI2, TwI3, Gx26, Gx27, Gx28, TwC4, TwV4, TwV5, TwV2, TwP2, TwP11, TwI4. -/
import Derived.Test.YtnhgfmegaoibeaaDoorG05
import Derived.RangeFuncBox
import Derived.RangeFuncLeaves
import Derived.Shelf.Abstract
import Derived.WalkKit
import Derived.OwnWalkIn
import Derived.TacticsInMore
import Derived.LoopNIn
import Derived.LoopIn
import Derived.RangeFuncBound
import Derived.Test.YtnhgfmegaoibeaaDoorProg
set_option linter.unusedSimpArgs false
set_option linter.unusedVariables false
set_option linter.unusedVariables false
namespace Go.Proofs.Tw
open Go Go.GX Go.Proofs Go.RowKit Go.Shelf
attribute [local go_sem] Oper.semAt_some

theorem room_wide (k : Nat) : Fence.wide.room k := fun d h => by cases h
theorem round_wide {m m' : Nat} {P : Program} {l : Nat} {f : FuncId} {tmps : Array Value} {assign body : Code} {w : World} {R : Ending → World → Prop} (h : RoundIn Fence.wide m P l f tmps assign body w R) : RoundIn Fence.wide m' P l f tmps assign body w R :=
  ⟨h.1, fun c cs _ => h.2 c cs (room_wide _)⟩
theorem back_split (zs : List Int) (k : Nat) (h : k < zs.length) : backF zs = (backF zs).take k ++ ((zs.length : Int) - 1 - k, zs[zs.length - 1 - k]?.getD 0) :: (backF zs).drop (k + 1) := by
  have hl : (backF zs).length = zs.length := by simp [backF]
  have : (backF zs)[k]'(by omega) = ((zs.length : Int) - 1 - k, zs[zs.length - 1 - k]?.getD 0) := by
    unfold backF
    rw [List.getElem_reverse]
    simp only [List.getElem_map, List.getElem_range, List.length_map, List.length_range]
    refine Prod.ext ?_ rfl
    simp only; omega
  rw [← this]
  exact (List.take_append_drop k (backF zs)).symm.trans (by rw [List.drop_eq_getElem_cons (by omega)])
theorem back_take (zs : List Int) (k : Nat) (h : k < zs.length) : (backF zs).take (k + 1) = (backF zs).take k ++ [((zs.length : Int) - 1 - k, zs[zs.length - 1 - k]?.getD 0)] := by
  have hl : (backF zs).length = zs.length := by simp [backF]
  have h1 := back_split zs k h
  have h2 : ((backF zs).take k).length = k := by simp [hl]; omega
  have h3 : (backF zs)[k]? = some ((zs.length : Int) - 1 - k, zs[zs.length - 1 - k]?.getD 0) := by
    have := congrArg (fun l => l[k]?) h1
    refine this.trans ?_
    show (_ ++ _)[k]? = _
    rw [List.getElem?_append_right (by omega), h2]
    simp
  rw [List.take_add_one, h3]; rfl
set_option maxRecDepth 100000 in
set_option maxHeartbeats 2000000 in
theorem back_some (n l Bs : Nat) (ad : Addr) (len cap : Nat) (zs : List Int) (hlen : zs.length = len) (hcap : len ≤ 9223372036854775807) (J : List (Int × Int) → World → Prop) (Jx : World → Prop) (W : World)
    (hY : ∀ pre x rest W1, backF zs = pre ++ x :: rest → J pre W1 → YieldAt Fence.wide n Tryd.prog l #[.int .i64 x.1, .int .i64 x.2] W1 fun e W' =>
      (e = .returned (.bool true) ∧ J (pre ++ [x]) W' ∧ (∀ a u, (∃ j, j < len ∧ a = ad.add j) ∨ a = ⟨Bs, 0, none⟩ → W1.cell? a = some u → W'.cell? a = some u)) ∨ (e = .returned (.bool false) ∧ Jx W'))
    (hBs : W.cell? ⟨Bs, 0, none⟩ = some (.slice (some ad) len cap)) (hc : ∀ j, j < len → W.cell? (ad.add j) = some (.int .i64 (zs[j]?.getD 0))) (h0 : J [] W) :
    CallsIn Fence.wide n Tryd.prog 125 #[.func (.yield l) #[] #[], .pointer (some ⟨Bs, 0, none⟩)] W fun e W' => (∃ v, e = .returned v) ∧ (J (backF zs) W' ∨ Jx W') := by
  refine callsIn_of_wp Tryd.func125 rfl trivial ?_ rfl
  simp only [Tryd.ntmps125, List.size_toArray, List.length_cons, List.length_nil, Nat.reduceAdd, Nat.reduceSub, Array.replicate_succ, Array.replicate_zero, List.push_toArray, List.append_toArray, List.nil_append, List.cons_append]
  gi_wp2
  gi_loopw [3] (fun i wr => ∃ k : Nat, k ≤ len ∧ i = .int .i64 ((len : Int) - 1 - k) ∧ J ((backF zs).take k) wr ∧ ∀ a u, (∃ j, j < len ∧ a = ad.add j) ∨ a = ⟨Bs, 0, none⟩ → W.cell? a = some u → wr.cell? a = some u)
    (fun i _ => (intOf i + 1).toNat)
  case atStart => exact ⟨0, Nat.zero_le _, by simp, h0, fun _ _ _ h => h⟩
  case round =>
    obtain ⟨k, hk, rfl, hJs, hnx⟩ := hrel
    by_cases hlt : k < len
    · have hBs' := hnx _ _ (.inr rfl) hBs
      have hc' := hnx _ _ (.inl ⟨len - 1 - k, by omega, rfl⟩) (hc (len - 1 - k) (by omega))
      have hsp := back_split zs k (by omega)
      rw [hlen] at hsp
      obtain ⟨fn, tmps, assign, body, hy, hR⟩ := hY ((backF zs).take k) ((len : Int) - 1 - k, zs[len - 1 - k]?.getD 0) ((backF zs).drop (k + 1)) wr hsp hJs
      dsimp only at hy
      gi_wp2
      refine ⟨fun h => (by cases h), (round_wide hR).mono ?_⟩
      rintro e W3 (⟨rfl, hJ3, hk3⟩ | ⟨rfl, hJx3⟩)
      · gi_wp2
        go_roundw
        case rel =>
          refine ⟨k + 1, by omega, by simp; omega, ?_, fun a u ha hu => hk3 a u ha (hnx a u ha hu)⟩
          have e : (backF zs).take (k + 1) = (backF zs).take k ++ [((len : Int) - 1 - k, zs[len - 1 - k]?.getD 0)] := by
            rw [back_take zs k (by omega), hlen]
          rw [e]; exact hJ3
        case measure => simp [intOf]; omega
      · gi_wp2
        refine bodyPost_ret (results_none rfl _ _ _) rfl ?_
        exact ⟨⟨_, rfl⟩, .inr hJx3⟩
    · obtain rfl : k = len := by omega
      gi_wp2
      go_end0
      have hl : (backF zs).length = k := by rw [← hlen]; simp [backF]
      exact ⟨⟨_, rfl⟩, .inl (by rw [← List.take_length (l := backF zs), hl]; exact hJs)⟩
set_option maxRecDepth 100000 in
set_option maxHeartbeats 2000000 in
theorem back_nil (n l Bs : Nat) (A : Option Addr) (c : Nat) (R : World → Prop) (W : World) (hBs : W.cell? ⟨Bs, 0, none⟩ = some (.slice A 0 c)) (h0 : R W) :
    CallsIn Fence.wide n Tryd.prog 125 #[.func (.yield l) #[] #[], .pointer (some ⟨Bs, 0, none⟩)] W fun e W' => (∃ v, e = .returned v) ∧ R W' := by
  refine callsIn_of_wp Tryd.func125 rfl trivial ?_ rfl
  simp only [Tryd.ntmps125, List.size_toArray, List.length_cons, List.length_nil, Nat.reduceAdd, Nat.reduceSub, Array.replicate_succ, Array.replicate_zero, List.push_toArray, List.append_toArray, List.nil_append, List.cons_append]
  gi_wp2
  gi_loopw [3] (fun i wr => i = .int .i64 (-1) ∧ wr = W) (fun _ _ => 0)
  case atStart => exact ⟨rfl, rfl⟩
  case round =>
    obtain ⟨rfl, rfl⟩ := hrel
    gi_wp2
    go_end0
    exact ⟨⟨_, rfl⟩, h0⟩
end Go.Proofs.Tw
set_option linter.unusedVariables false
namespace Go.Proofs.Tw
open Go Go.GX Go.Proofs Go.RowKit Go.Shelf
theorem back_seq {X : Nat → Prop} {W : World} {xs : List Int} {v : Value} {b : Nat} (hv : (kIs.sem Tryd.prog).val X W xs v) (hX : ¬ X b) (hb : W.heap[b]? = some (.cells v.cells 22 (0, 0))) :
    SeqRun Tryd.prog ((Kd.pair kI kI).sem Tryd.prog).vals X W (backF xs) (.func (.func 125) #[] #[.pointer (some ⟨b, 0, none⟩)]) := by
  refine ⟨125, #[], #[.pointer (some ⟨b, 0, none⟩)], rfl, enters_of Tryd.func125 (by kernel_rfl) rfl, fun n l J Jx hJt hJx hY h0 => ?_⟩
  have hbs : b < W.heap.size := (Array.getElem?_eq_some_iff.1 hb).1
  obtain ⟨A, c, rfl, hlc, hcap, hel⟩ := hv
  have hb : W.heap[b]? = some (.cells #[.slice A xs.length c] 22 (0, 0)) := hb
  have hcell : W.cell? ⟨b, 0, none⟩ = some (.slice A xs.length c) := by simp [World.cell?, hb]
  by_cases hne : xs = []
  · subst hne
    have hJ0 : J (backF []) (fun _ => False) W := h0
    exact back_nil n l b A c (fun W' => ∃ I, J (backF []) I W' ∨ Jx I W') W hcell ⟨_, .inl hJ0⟩
  · obtain ⟨ad, rfl, hxa, had, hget⟩ := hel hne
    refine (back_some n l b ad xs.length c xs rfl (by have := Nat.le_trans hlc hcap; unfold maxLen at this; exact this) (fun pre W' => J pre (fun _ => False) W' ∧ W.heap.size ≤ W'.heap.size) (fun W' => Jx (fun _ => False) W') W ?_ hcell ?_ ⟨h0, Nat.le_refl _⟩).mono ?_
    · rintro pre x rest W1 hs ⟨hj, hsz⟩
      have := hY pre x rest (fun _ => False) W1 [.int .i64 x.1, .int .i64 x.2] hs hj (fun _ h => h.elim) hsz ⟨_, _, rfl, rfl, _, rfl, rfl⟩
      refine Go.YieldAt.mono this fun e W' h => ?_
      rcases h with ⟨he, hj', hk⟩ | ⟨he, hj', hk⟩
      · refine .inl ⟨he, ⟨hj', Nat.le_trans hsz hk.size⟩, fun a u ha hu => ?_⟩
        have hblk : a.block < W.heap.size ∧ ¬ X a.block := by
          rcases ha with ⟨j, _, rfl⟩ | rfl
          · rw [add_block]; exact ⟨had, hxa⟩
          · exact ⟨hbs, hX⟩
        exact (World.cell?_of_block (hk.old a.block (cells_of_cell? hu) hblk.1 hblk.2)).trans hu
      · exact .inr ⟨he, hj'⟩
    · intro j hj
      have hj' : xs[j]? = some (xs[j]?.getD 0) := by
        have : j < xs.length := hj
        rw [List.getElem?_eq_getElem this]; rfl
      obtain ⟨ecs, ⟨u, he, _, hu⟩, hc⟩ := hget j _ hj'
      have := hc 0 u (by rw [he]; rfl)
      have hu : u = .int .i64 (xs[j]?.getD 0) := hu
      rw [hu] at this
      simpa [Kd.n] using this
    · rintro e W' ⟨he, h⟩
      exact ⟨he, fun _ => False, h.elim (fun h => .inl h.1) .inr⟩
end Go.Proofs.Tw
set_option linter.unusedVariables false
namespace Go.Proofs.Tw
open Go Go.GX Go.Proofs Go.RowKit Go.Shelf
theorem ok118 : CallsOK Tryd.prog (assoc glT) 118 f118_ct where
  enters := mk118.1
  calls := fun X W x y vs cs hX hg hv hc Q hQ => by
    obtain ⟨v, rfl, hv⟩ := hv
    have hc : cs = [] := hc
    subst hc
    refine (mk118.2 W v).mono ?_
    rintro e w' ⟨b, rfl, hb, hcell, hbel⟩
    have hQ : Q (backF x) := hQ
    have e1 : Evo X W X w' := Evo.below hX hbel
    refine ⟨backF x, _, rfl, ⟨⟨_, _, _, rfl⟩, fun X' W' hev => ?_⟩, hbel, hQ⟩
    have hxb : ¬ X b := fun h => by have := hX b h; omega
    have hv2 := (Kd.stands Tryd.prog kIs).val hev ((Kd.stands Tryd.prog kIs).val e1 hv)
    have hbw : b < w'.heap.size := (Array.getElem?_eq_some_iff.1 hcell).1
    exact back_seq hv2 (hev.notIn hxb hbw) ((hev.keep b ⟨_, _, _, hcell⟩ hxb).trans hcell)
end Go.Proofs.Tw
set_option linter.unusedVariables false
namespace Go.GX
open Go.RowKit Go.Shelf Go.Proofs

def ancRecs : List Oper → List Rec → List Rec
  | [], rs => rs
  | o :: r, rs => ancRecs r (rs ++ [⟨ancOf rs o, [], none, [], []⟩])

def edgesAll : Nat → List Oper → Bool
  | _, [] => true
  | i, o :: r => edgesOK i o && edgesAll (i + 1) r

def fullGo (m : Nat) : Nat → List Rec → Bool
  | _, [] => true
  | i, x :: r => (Nat.blt i m || Nat.beq x.anc (2 ^ i - 1)) && fullGo m (i + 1) r

def fullFrom (m : Nat) (ops : List Oper) : Bool := edgesAll 0 ops && fullGo m 0 (ancRecs ops [])

theorem ancRecs_length : ∀ (l : List Oper) (rs : List Rec), (ancRecs l rs).length = rs.length + l.length
  | [], rs => rfl
  | o :: r, rs => by rw [ancRecs, ancRecs_length r]; simp; omega

theorem ancRecs_pre : ∀ (l : List Oper) (rs : List Rec) (k : Nat), k < rs.length → (ancRecs l rs)[k]? = rs[k]?
  | [], rs, k, h => rfl
  | o :: r, rs, k, h => by rw [ancRecs, ancRecs_pre r _ k (by simp; omega), List.getElem?_append_left h]

theorem ancRecs_at (l : List Oper) : ∀ (rs : List Rec) (j : Nat) (o : Oper), l[j]? = some o → ∃ rs', (ancRecs l rs)[rs.length + j]? = some ⟨ancOf rs' o, [], none, [], []⟩ ∧ rs'.length = rs.length + j ∧ ∀ k, k < rs.length + j → rs'[k]? = (ancRecs l rs)[k]? := by
  induction l with
  | nil => intro rs j o h; simp at h
  | cons o r ih =>
    intro rs j o' h
    cases j with
    | zero =>
      simp only [List.getElem?_cons_zero, Option.some.injEq] at h
      subst h
      refine ⟨rs, ?_, rfl, fun k hk => ?_⟩
      · rw [ancRecs, ancRecs_pre r _ _ (by simp), Nat.add_zero, List.getElem?_append_right (Nat.le_refl _)]
        simp
      · rw [ancRecs, ancRecs_pre r _ _ (by simp; omega), List.getElem?_append_left (by omega)]
    | succ j =>
      obtain ⟨rs', h1, h2, h3⟩ := ih (rs ++ [⟨ancOf rs o, [], none, [], []⟩]) j o' (by simpa using h)
      have e : (rs ++ [(⟨ancOf rs o, [], none, [], []⟩ : Rec)]).length + j = rs.length + (j + 1) := by simp; omega
      rw [e] at h1 h2 h3
      exact ⟨rs', by rw [ancRecs]; exact h1, h2, fun k hk => by rw [ancRecs]; exact h3 k hk⟩

theorem edgesAll_spec (l : List Oper) : ∀ (i : Nat), edgesAll i l = true → ∀ j o, l[j]? = some o → edgesOK (i + j) o = true := by
  induction l with
  | nil => intro i h j o ho; simp at ho
  | cons o r ih =>
    intro i h j o' ho
    simp only [edgesAll, Bool.and_eq_true] at h
    cases j with
    | zero =>
      simp only [List.getElem?_cons_zero, Option.some.injEq] at ho
      subst ho
      exact h.1
    | succ j =>
      have := ih (i + 1) h.2 j o' (by simpa using ho)
      rwa [show i + 1 + j = i + (j + 1) by omega] at this

theorem fullGo_spec (m : Nat) (l : List Rec) : ∀ (i : Nat), fullGo m i l = true → ∀ j x, l[j]? = some x → m ≤ i + j → x.anc = 2 ^ (i + j) - 1 := by
  induction l with
  | nil => intro i h j o ho; simp at ho
  | cons x r ih =>
    intro i h j x' hx hm
    simp only [fullGo, Bool.and_eq_true, Bool.or_eq_true] at h
    cases j with
    | zero =>
      simp only [List.getElem?_cons_zero, Option.some.injEq] at hx
      subst hx
      rcases h.1 with h1 | h1
      · have : i < m := by simpa [Nat.blt_eq] using h1
        omega
      · exact Nat.eq_of_beq_eq_true h1
    | succ j =>
      have := ih (i + 1) h.2 j x' (by simpa using hx) (by omega)
      rwa [show i + 1 + j = i + (j + 1) by omega] at this

def ClosedE (all : List Oper) (D : Nat → Bool) : Prop := ∀ k o, all[k]? = some o → D k = true → ∀ e, e ∈ o.after.toList → Region.binds .any e = true → D e.on = true

theorem ancRecs_closed {all : List Oper} {D : Nat → Bool} (hc : ClosedE all D) : ∀ (k : Nat) (x : Rec), (ancRecs all [])[k]? = some x → D k = true → ∀ i, Nat.testBit x.anc i = true → D i = true := by
  intro k
  induction k using Nat.strongRecOn with
  | _ k ih =>
    intro x hx hk i hi
    have hlt : k < all.length := by have := (List.getElem?_eq_some_iff.1 hx).1; rwa [ancRecs_length, List.length_nil, Nat.zero_add] at this
    obtain ⟨rs', h1, h2, h3⟩ := ancRecs_at all [] k all[k] (List.getElem?_eq_getElem hlt)
    simp only [List.length_nil, Nat.zero_add] at h1 h2 h3
    rw [hx] at h1; cases h1
    obtain ⟨e, he, hb, hcase⟩ := ancOf_spec hi
    have hon := hc k _ (List.getElem?_eq_getElem hlt) hk e he hb
    rcases hcase with rfl | ⟨y, hy, hyi⟩
    · exact hon
    · have hel : e.on < k := by rw [← h2]; exact (List.getElem?_eq_some_iff.1 hy).1
      exact ih e.on hel y (by rw [← h3 _ hel]; exact hy) hon i hyi

theorem full_ready {all : List Oper} {D : Nat → Bool} {m : Nat} (hf : fullFrom m all = true) (hc : ClosedE all D) {i : Nat} {o : Oper} (hm : m ≤ i) (ho : all[i]? = some o) (hr : ∀ e, e ∈ o.after.toList → Region.binds .any e = true → D e.on = true) : ∀ j, j < i → D j = true := by
  intro j hj
  simp only [fullFrom, Bool.and_eq_true] at hf
  obtain ⟨rs', h1, h2, h3⟩ := ancRecs_at all [] i o ho
  simp only [List.length_nil, Nat.zero_add] at h1 h2 h3
  have ha := fullGo_spec m _ 0 hf.2 i _ h1 (by omega)
  simp only [Nat.zero_add] at ha
  have hb : Nat.testBit (ancOf rs' o) j = true := by rw [ha, Nat.testBit_two_pow_sub_one]; simpa using hj
  obtain ⟨e, he, hbd, hcase⟩ := ancOf_spec hb
  have hon := hr e he hbd
  rcases hcase with rfl | ⟨y, hy, hyi⟩
  · exact hon
  · have hel : e.on < i := by rw [← h2]; exact (List.getElem?_eq_some_iff.1 hy).1
    exact ancRecs_closed hc e.on y (by rw [← h3 _ hel]; exact hy) hon j hyi

section
variable {P : Program} {glb : Nat → Option GV} {Bk X0 : Nat → Prop} {w0 : World} {st0 : St} {ρ0 : Lab} {S : Stat} {lab : Nat} {F : Fence} {n : Nat} {all : List Oper} {es : List Ef}

theorem getD_tf (listed : Array Bool) (k : Nat) (hk : k < listed.size) : listed.getD k true = listed.getD k false := by simp [Array.getElem?_eq_getElem hk]

theorem ready_lt {listed : Array Bool} {i : Nat} (hi : i ∈ Region.ready .any all.toArray listed) : ∃ o, all[i]? = some o ∧ i < all.length ∧ listed.getD i true = false ∧ ∀ e, e ∈ o.after.toList → Region.binds .any e = true → listed.getD e.on false = true := by
  obtain ⟨h1, o, h2, h3⟩ := mem_ready.1 hi
  have h2 : all[i]? = some o := by simpa using h2
  exact ⟨o, h2, (List.getElem?_eq_some_iff.1 h2).1, h1, fun e he hb => h3 e (by simpa using he) hb⟩

theorem any_tail {m : Nat} (hfull : fullFrom m all = true) {Q : Exit → Act → World → Prop} : ∀ (d i : Nat) (fuel : Nat) (listed : Array Bool) (a : Act) (W : World), all.length = i + d → d ≤ fuel → m ≤ i → listed.size = all.length → (∀ k, k < all.length → listed.getD k false = decide (k < i)) →
    wpListIn F n P all.toArray Q (all.drop i) a W → wpAnyIn F n P .any all.toArray Q fuel listed a W := by
  have none : ∀ (i : Nat) (listed : Array Bool), all.length = i → listed.size = all.length → (∀ k, k < all.length → listed.getD k false = decide (k < i)) → Region.ready .any all.toArray listed = [] := by
    intro i listed hl hsz hli
    cases hr : Region.ready .any all.toArray listed with
    | nil => rfl
    | cons j r =>
      obtain ⟨o, h1, h2, h3, _⟩ := ready_lt (i := j) (by rw [hr]; exact List.mem_cons_self)
      rw [getD_tf _ _ (by omega), hli j h2] at h3
      simp at h3
      omega
  intro d
  induction d with
  | zero =>
    intro i fuel listed a W hl hfu hm hsz hli h
    rw [List.drop_of_length_le (by omega)] at h
    have hn := none i listed (by omega) hsz hli
    cases fuel with
    | zero => exact ⟨hn, h⟩
    | succ fuel => exact ⟨fun _ => h, fun j hj => by rw [hn] at hj; cases hj⟩
  | succ d ih =>
    intro i fuel listed a W hl hfu hm hsz hli h
    obtain ⟨fuel, rfl⟩ : ∃ f, fuel = f + 1 := ⟨fuel - 1, by omega⟩
    have hlt : i < all.length := by omega
    rw [List.drop_eq_getElem_cons hlt] at h
    have hf := hfull
    simp only [fullFrom, Bool.and_eq_true] at hf
    have hin : i ∈ Region.ready .any all.toArray listed := by
      refine mem_ready.2 ⟨by rw [getD_tf _ _ (by omega), hli i hlt]; simp, all[i], by simp, fun e he hb => ?_⟩
      have hedge := edgesAll_spec all 0 hf.1 i _ (List.getElem?_eq_getElem hlt)
      simp only [edgesOK, List.all_eq_true] at hedge
      have := hedge e (by simpa using he)
      rw [hb] at this
      have hlt2 : e.on < i := by simpa [Nat.blt_eq] using this
      rw [hli e.on (by omega)]
      simpa using hlt2
    refine ⟨fun hr => (by rw [hr] at hin; cases hin), fun j hj => ?_⟩
    obtain ⟨o, h1, h2, h3, h4⟩ := ready_lt hj
    rw [getD_tf _ _ (by omega), hli j h2] at h3
    have hji : i ≤ j := by simpa using h3
    have hc : ClosedE all (fun k => listed.getD k false) := by
      intro k o hk hd e he hb
      have hklt := (List.getElem?_eq_some_iff.1 hk).1
      replace hd : listed.getD k false = true := hd
      show listed.getD e.on false = true
      rw [hli k hklt] at hd
      have hki : k < i := by simpa using hd
      have hedge := edgesAll_spec all 0 hf.1 k o hk
      simp only [edgesOK, List.all_eq_true] at hedge
      have := hedge e he
      rw [hb] at this
      have hlt2 : e.on < k := by simpa [Nat.blt_eq] using this
      rw [hli e.on (by omega)]
      simp; omega
    have : j = i := by
      by_cases hji2 : j = i
      · exact hji2
      · have := full_ready hfull hc (by omega) h1 h4 i (by omega)
        replace this : listed.getD i false = true := this
        rw [hli i hlt] at this
        simp at this
    subst this
    unfold wpOpIn
    have hgo : all.toArray[j]? = some all[j] := by simp
    rw [hgo]
    simp only [wpListIn] at h ⊢
    have next : ∀ a' W', wpListIn F n P all.toArray Q (all.drop (j + 1)) a' W' → wpAnyIn F n P .any all.toArray Q fuel (listed.setIfInBounds j true) a' W' := fun a' W' h' =>
      ih (j + 1) fuel _ a' W' (by omega) (by omega) (by omega) (by simpa using hsz) (fun k hk => by
        by_cases hkj : k = j
        · subst hkj; simp [hsz, hk]
        · have := getD_set_ne (listed := listed) false (Ne.symm hkj)
          rw [this, hli k hk]
          by_cases hkj2 : k < j
          · simp [hkj2]; omega
          · simp [hkj2]; omega) h'
    split at h
    · rename_i hw
      rw [if_pos hw]
      exact Oper.wpIn_mono next h
    · rename_i hw
      rw [if_neg hw]
      exact ⟨h.1, next _ _ h.2⟩

theorem any_then (hF : Wide F P) (hS : StatOK P S) (hct : CtOK P glb S) (hg : S.glb = glb) {m : Nat} (hf : Facts S all lab st0 es) (hlen : es.length = m) (hm : m ≤ all.length) (hfull : fullFrom m all = true) {Q : Exit → Act → World → Prop}
    (hQ : ∀ a W, InvD P glb Bk X0 w0 es st0 ρ0 (fun k => decide (k < m)) a W → wpListIn F n P all.toArray Q (all.drop m) a W) : ∀ (fuel : Nat) (listed : Array Bool) (a : Act) (W : World), listed.size = all.length → (∀ k, k < all.length → m ≤ k → listed.getD k false = false) →
    (List.range all.length).countP (fun k => !listed.getD k false) ≤ fuel → InvD P glb Bk X0 w0 es st0 ρ0 (fun k => listed.getD k false) a W → Closed es (fun k => listed.getD k false) → ClosedE all (fun k => listed.getD k false) → wpAnyIn F n P .any all.toArray Q fuel listed a W := by
  have hfe := hfull
  simp only [fullFrom, Bool.and_eq_true] at hfe
  have lis : ∀ (listed : Array Bool), listed.size = all.length → (∀ k, k < all.length → m ≤ k → listed.getD k false = false) → (∀ k, k < m → listed.getD k false = true) → ∀ k, listed.getD k false = decide (k < m) := by
    intro listed hsz h1 h2 k
    by_cases hk : k < m
    · rw [h2 k hk]; simp [hk]
    · by_cases hkl : k < all.length
      · rw [h1 k hkl (by omega)]; simp [hk]
      · simp [hk, Array.getElem?_eq_none (by omega : listed.size ≤ k)]
  have cnt : ∀ (listed : Array Bool), (∀ k, listed.getD k false = decide (k < m)) → all.length - m ≤ (List.range all.length).countP (fun k => !listed.getD k false) := by
    intro listed h
    have e : (fun k => !listed.getD k false) = fun k => decide (m ≤ k) := by funext k; rw [h k]; by_cases hk : k < m <;> simp [hk] <;> omega
    rw [e]
    have : ∀ n, n - m ≤ (List.range n).countP (fun k => decide (m ≤ k)) := by
      intro n
      induction n with
      | zero => simp
      | succ n ih => rw [List.range_succ, List.countP_append]; by_cases hk : m ≤ n <;> simp [hk] <;> omega
    exact this _
  intro fuel
  induction fuel with
  | zero =>
    intro listed a W hsz hlo hcount hinv hcl hce
    have hall : ∀ k, k < all.length → listed.getD k false = true := by
      intro k hk
      have h0 : (List.range all.length).countP (fun k => !listed.getD k false) = 0 := by omega
      have := List.countP_eq_zero.1 h0 k (List.mem_range.2 hk)
      simpa using this
    have hml : m = all.length := by
      rcases Nat.lt_or_ge m all.length with h | h
      · have h1 := hlo m h (Nat.le_refl _)
        rw [hall m h] at h1; cases h1
      · omega
    have hlis := lis listed hsz hlo (fun k hk => hall k (by omega))
    refine any_tail hfull 0 m 0 listed a W (by omega) (Nat.le_refl _) (Nat.le_refl _) hsz (fun k _ => hlis k) (hQ a W ?_)
    have : (fun k => listed.getD k false) = fun k => decide (k < m) := funext hlis
    rwa [this] at hinv
  | succ fuel ih =>
    intro listed a W hsz hlo hcount hinv hcl hce
    by_cases hdone : ∀ k, k < m → listed.getD k false = true
    · have hlis := lis listed hsz hlo hdone
      refine any_tail hfull (all.length - m) m (fuel + 1) listed a W (by omega) (Nat.le_trans (cnt listed hlis) hcount) (Nat.le_refl _) hsz (fun k _ => hlis k) (hQ a W ?_)
      have : (fun k => listed.getD k false) = fun k => decide (k < m) := funext hlis
      rwa [this] at hinv
    · have hex : ∃ k, k < m ∧ listed.getD k false = false := by
        refine Classical.byContradiction fun hno => hdone fun k hk => ?_
        cases hq : listed.getD k false with
        | true => rfl
        | false => exact absurd ⟨k, hk, hq⟩ hno
      obtain ⟨k0, hk0, hk1⟩ := hex
      refine ⟨fun hr => ?_, fun i hi => ?_⟩
      · exfalso

        have : ∀ k, k < m → listed.getD k false = true := by
          intro k
          induction k using Nat.strongRecOn with
          | _ k ihk =>
            intro hk
            cases hd : listed.getD k false with
            | true => rfl
            | false =>
              exfalso
              have hek : all[k]? = some all[k] := List.getElem?_eq_getElem (by omega)
              have : k ∈ Region.ready .any all.toArray listed := by
                refine mem_ready.2 ⟨by rw [getD_tf listed k (by omega)]; exact hd, all[k], by simp, fun ed hed hb => ?_⟩
                have hedge := edgesAll_spec all 0 hfe.1 k _ hek
                simp only [edgesOK, List.all_eq_true] at hedge
                have := hedge ed (by simpa using hed)
                rw [hb] at this
                have hlt : ed.on < k := by simpa [Nat.blt_eq] using this
                exact ihk ed.on hlt (by omega)
              rw [hr] at this
              simp at this
        rw [this k0 hk0] at hk1; cases hk1
      · obtain ⟨o, h2, hlt, h1, h3⟩ := ready_lt hi
        have him : i < m := by
          rcases Nat.lt_or_ge i m with h | h
          · exact h
          · have := full_ready hfull hce h h2 h3 k0 (by omega)
            rw [hk1] at this; cases this
        have hd : listed.getD i false = false := by rw [← getD_tf listed i (by omega)]; exact h1
        have hset : (listed.setIfInBounds i true).getD i false = true := by simp [hsz, hlt]
        refine any_step hF hS hct hg hf (by omega) hcl (i := i) (D' := fun k => (listed.setIfInBounds i true).getD k false) (List.getElem?_eq_getElem (by omega)) h2 hd h3 hset (fun k hk => getD_set_ne false (Ne.symm hk)) (fun a' W' hinv' hcl' => ?_) hinv
        refine ih _ a' W' (by simpa using hsz) (fun k hk hmk => by rw [getD_set_ne false (by omega : i ≠ k)]; exact hlo k hk hmk) ?_ hinv' hcl' ?_
        · have hlt2 : (List.range all.length).countP (fun k => !(listed.setIfInBounds i true).getD k false) < (List.range all.length).countP (fun k => !listed.getD k false) := by
            refine countP_lt (fun x hx => ?_) _ i (List.mem_range.2 hlt) (by rw [hd]; rfl) (by rw [hset]; rfl)
            cases hq : listed.getD x false with
            | false => rfl
            | true => rw [getD_set_true hq] at hx; cases hx
          omega
        · intro k ok hk hdk e he hb
          by_cases hki : k = i
          · subst hki
            rw [h2] at hk; cases hk
            exact getD_set_true (h3 e he hb)
          · have hdk' : listed.getD k false = true := by
              have := getD_set_ne (listed := listed) false (Ne.symm hki)
              rw [← this]; exact hdk
            exact getD_set_true (hce k ok hk hdk' e he hb)

theorem vcAny_then (hF : Wide F P) (hS : StatOK P S) (hct : CtOK P glb S) (hg : S.glb = glb) (id : Nat) (ops : Array Oper) (lab m : Nat) (K : St → Prop) (Q : Exit → Act → World → Prop) (wr : List Nat)
    (hwr : ∀ (j : Nat) o d, ops.toList[j]? = some o → o.dst = some d → d ∈ wr) {a : Act} {W : World} (mt : Mt P glb Bk X0 w0 st0 ρ0 a W) (hm : m ≤ ops.toList.length) (hfull : fullFrom m ops.toList = true) (h : vcAny S ops.toList lab (ops.toList.take m) 0 [] st0 K)
    (hQ : ∀ a W, PostR P glb Bk X0 w0 st0 ρ0 wr K a W → wpListIn F n P ops Q (ops.toList.drop m) a W) : (Code.region id ops true).wpIn F n P Q a W := by
  obtain ⟨es, hlen, hf, hk⟩ := text_run S ops.toList lab K st0 (ops.toList.take m) 0 [] st0 rfl (fun j x hx => by
      rw [Nat.zero_add]
      rw [List.getElem?_take] at hx
      split at hx
      · exact hx
      · cases hx) (fun i e he => by simp at he) rfl h
  rw [Nat.zero_add, List.length_take, Nat.min_eq_left hm] at hlen
  refine wpIn_region_any hS.mixed ?_
  have m1 : Mt P glb Bk X0 w0 st0 ρ0 a { W with drawn := W.drawn + 1 } := mt.below ⟨rfl, rfl, rfl, Nat.le_refl _, fun _ _ => rfl⟩
  have hsz : ops.size = ops.toList.length := by simp
  have noD : ∀ k, (Array.replicate ops.size false).getD k false = false := fun k => by simp only [Array.getD_eq_getD_getElem?, Array.getElem?_replicate]; split <;> rfl
  have := any_then (Bk := Bk) (X0 := X0) (w0 := w0) (ρ0 := ρ0) (n := n) hF hS hct hg hf hlen hm hfull (Q := Q) (fun a' W' hinv => ?_) ops.size (Array.replicate ops.size false) a { W with drawn := W.drawn + 1 } (by simp) (fun k _ _ => noD k) ?_ ?_ ?_ ?_
  · simpa using this
  · obtain ⟨ρ', dom, hle', m', hdom⟩ := hinv
    have hall : appD (fun k => decide (k < m)) es 0 st0 = allE es st0 := appD_all es 0 st0 (fun k hk => by rw [Nat.zero_add]; simp only [decide_eq_true_eq]; omega)
    have fin := hQ a' W' ⟨allE es st0, ρ', hk, ⟨?_, hle'⟩, m'.same ?_ (fun t => ?_) (fun l => ?_) (fun l v hv => ?_) ?_⟩
    · simpa using fin
    · refine allE_frm wr es st0 (fun e he d hd => ?_)
      obtain ⟨i, hi⟩ := List.getElem?_of_mem he
      obtain ⟨o, fe, _, _⟩ := hf i e hi
      exact hwr i o d fe.op (by rw [← fe.wr]; exact hd)
    · rw [allE_n]; rfl
    · rw [← hall]; rfl
    · rw [canon_look, hall]
    · refine (allE_dom es st0).2 ?_
      rcases hdom l (m'.dom l v hv) with h | ⟨k, e, he, _, h⟩
      · exact .inl h
      · exact .inr ⟨e, List.mem_of_getElem? he, h⟩
    · exact allE_stamp es st0 mt.stamp
  · exact Nat.le_trans List.countP_le_length (by simp)
  · refine ⟨ρ0, st0.dom, ρ0.le_refl, m1.same rfl (fun t => ?_) (fun l => ?_) (fun l v hv => mt.dom l v hv) (fun l he s hh => ?_), fun l hl => .inl hl⟩
    · show (appD _ es 0 st0).tm t = _
      rw [appD_none es 0 st0 noD]
    · rw [canon_look, appD_none es 0 st0 noD]
    · have : ((appD (fun k => (Array.replicate ops.size false).getD k false) es 0 st0).look l).map (fun h => (h, 0)) = some (he, s) := hh
      cases hq : (appD (fun k => (Array.replicate ops.size false).getD k false) es 0 st0).look l with
      | none => rw [hq] at this; cases this
      | some x => rw [hq] at this; cases this; exact Nat.le_refl _
  · intro k e he hd
    exact absurd ((noD k).symm.trans hd) (by decide)
  · intro k o hk hd
    exact absurd ((noD k).symm.trans hd) (by decide)
end
end Go.GX
set_option linter.unusedVariables false
namespace Go.GX
open Go.RowKit Go.Shelf Go.Proofs

structure YS (α : Type) where
  S : Stat
  isY : Nat → Bool
  yop : St → List α → Oper → (List α → Prop) → Prop
  fst : Nat → Nat

section
variable {α : Type} (Y : YS α)

def yStep (st : St) (lab : Nat) (o : Oper) (g : List α) (s : Bool) (k : SV → List (Nat × Option HE) → List α → Bool → Prop) : Prop :=
  match Y.isY lab with
  | true => chk (!s && noLn st.look st.dom) (Y.yop st g o fun g' => k (boolSV true) [] g' false ∧ k (boolSV false) [] g' true)
  | false => sem Y.S false st lab o fun sv u => k sv u g s

def yOps (all : List Oper) (lab : Nat) : List Oper → Nat → St → List α → Bool → (St → List α → Bool → Prop) → Prop
  | [], _, st, g, s, K => K st g s
  | o :: rest, i, st, g, s, K =>
    chk (freshL (lab + i) st.dom && dstOK st.n o.dst)
    (match o.guard with
    | none => yStep Y st (lab + i) o g s fun sv u g s => yOps all lab rest (i + 1) ((st.upds u).put o.dst sv) g s K
    | some (j, want) => match undS st all j with
      | some _ => yOps all lab rest (i + 1) (st.put o.dst (.tup [])) g s K
      | none => yieldS st all j fun d b =>
        gdS b want (yStep Y (st.put (some d) (boolSV want)) (lab + i) o g s fun sv u g s => yOps all lab rest (i + 1) (((st.put (some d) (boolSV want)).upds u).put o.dst sv) g s K)
          (yOps all lab rest (i + 1) ((st.put (some d) (boolSV (!want))).put o.dst (.tup [])) g s K))

def vcY (an : Nat → Items) : Code → St → List α → Bool → (Xt → St → List α → Bool → Prop) → Prop
  | .skip, st, g, s, K => K .norm st g s
  | .region id ops false, st, g, s, K => yOps Y ops.toList (id * 100) ops.toList 0 st g s (K .norm)
  | .region id ops true, st, g, s, K => chk (Nat.ble (Y.fst id) ops.toList.length && fullFrom (Y.fst id) ops.toList) (vcAny Y.S ops.toList (id * 100) (ops.toList.take (Y.fst id)) 0 [] st fun st =>
      yOps Y ops.toList (id * 100) (ops.toList.drop (Y.fst id)) (Y.fst id) st g s (K .norm))
  | .seq a b, st, g, s, K => vcY an a st g s fun x st' g s => match x with
    | .norm => vcY an b st' g s K
    | .exit i => K (.exit i) st' g s
    | .ret => K .ret st' g s
  | .cond c t e, st, g, s, K => oneB (ev Y.S st 0 c) fun b => cnd b (vcY an t (known st c true) g s K) (vcY an e (known st c false) g s K)
  | .block id (.loop body), st, g, s, K =>
    chk (!s && nodupL (an id).labs && (an id).ok st (codeWrites body)) <| ∃ (I : List α → (an id).Cur Prop) (μ : (an id).Cur Nat), (an id).get Y.S ((an id).kept st) st [] (fun x => (an id).app (I g) x) ∧
      ∀ g, (an id).All fun x => (an id).app (I g) x → vcY an body ((an id).head st (codeWrites body) x) g false fun e st' g s => match e with
        | .norm => chk (!s && keptOK (an id).labs ((an id).head st (codeWrites body) x) st' ((an id).labs ++ st.dom)) <| (an id).get Y.S ((an id).kept st) st' [] fun x' => (an id).app (I g) x' ∧ (an id).app μ x' < (an id).app μ x
        | .exit i => cond (Nat.beq i id) (K .norm st' g s) (K (.exit i) st' g s)
        | .ret => K .ret st' g s
  | .block id (.rangeFunc f ps asg body), st, g, s, K => vc Y.S an (.block id (.rangeFunc f ps asg body)) st fun x st' => K x st' g s
  | .block id c, st, g, s, K => vcY an c st g s fun x st' g s => match x with
    | .norm => K .norm st' g s
    | .exit i => cond (Nat.beq i id) (K .norm st' g s) (K (.exit i) st' g s)
    | .ret => K .ret st' g s
  | .exit id, st, g, s, K => K (.exit id) st g s
  | .ret, st, g, s, K => K .ret st g s
  | _, _, _, _, _ => False
end

structure Yt (P : Program) (α : Type) where
  vals : (Nat → Prop) → World → α → List Value → Prop
  X : Nat → Prop
  W0 : World
  n : Nat
  l : Nat
  xs : List α
  J : List α → (Nat → Prop) → World → Prop
  Jx : (Nat → Prop) → World → Prop
  jt : ∀ pre I W I' W', J pre I W → Turned I W I' W' → J pre I' W'
  jxt : ∀ I W I' W', Jx I W → Turned I W I' W' → Jx I' W'
  yd : ∀ pre x rest I W vs, xs = pre ++ x :: rest → J pre I W → (∀ k, I k → W0.heap.size ≤ k ∧ k < W.heap.size) → W0.heap.size ≤ W.heap.size → vals (fun k => ¬ I k) W x vs →
      YieldAt Fence.wide n P l vs.toArray W fun e W' => (e = .returned (.bool true) ∧ J (pre ++ [x]) I W' ∧ Kept X W0 I W W') ∨ (e = .returned (.bool false) ∧ Jx I W' ∧ Kept X W0 I W W')

section
variable {P : Program} {glb : Nat → Option GV} {α : Type}

def yBk (B0 I : Nat → Prop) (W : World) (k : Nat) : Prop := k < W.heap.size ∧ (¬ I k ∨ B0 k)
def yX (T : Yt P α) (I : Nat → Prop) (W : World) (k : Nat) : Prop := k < W.heap.size ∧ ¬ I k ∧ (T.W0.heap.size ≤ k ∨ T.X k)

def nowI (I : Nat → Prop) (Wl W : World) (k : Nat) : Prop := I k ∨ (Wl.heap.size ≤ k ∧ k < W.heap.size)

structure ItOK (glb : Nat → Option GV) (T : Yt P α) (B0 : Nat → Prop) (We : World) (g : List α) (s : Bool) (st : St) (ρ : Lab) (a : Act) (W : World) (I : Nat → Prop) (Wl : World) : Prop where
  j : s = false → T.J g I Wl
  jx : s = true → T.Jx I Wl
  b0 : ∀ k, B0 k → I k
  new : ∀ k, I k → B0 k ∨ We.heap.size ≤ k
  low : ∀ k, I k → T.W0.heap.size ≤ k ∧ k < Wl.heap.size
  sz : T.W0.heap.size ≤ Wl.heap.size
  kept : Kept T.X T.W0 B0 We Wl
  mt : Mt P glb (yBk B0 I Wl) (yX T I Wl) Wl st ρ a W

section
variable {T : Yt P α} {B0 I : Nat → Prop} {We Wl W W' : World} {g : List α} {s : Bool} {st st' : St} {ρ ρ' : Lab} {a a' : Act}

theorem ItOK.go (h : ItOK glb T B0 We g s st ρ a W I Wl) (m : Mt P glb (yBk B0 I Wl) (yX T I Wl) Wl st' ρ' a' W') : ItOK glb T B0 We g s st' ρ' a' W' I Wl :=
  ⟨h.j, h.jx, h.b0, h.new, h.low, h.sz, h.kept, m⟩

theorem ItOK.turned (h : ItOK glb T B0 We g s st ρ a W I Wl) : Turned I Wl (nowI I Wl W) W where
  os := h.mt.bel.os
  tape := h.mt.bel.tape
  output := h.mt.bel.output
  size := h.mt.bel.size
  keep := fun k hk hi => h.mt.bel.block k ⟨hk, .inl hi⟩
  more := fun k hk => .inl hk
  new := fun k hk => hk

theorem ItOK.nowLow (h : ItOK glb T B0 We g s st ρ a W I Wl) : ∀ k, nowI I Wl W k → T.W0.heap.size ≤ k ∧ k < W.heap.size := by
  rintro k (hk | hk)
  · exact ⟨(h.low k hk).1, Nat.lt_of_lt_of_le (h.low k hk).2 h.mt.bel.size⟩
  · exact ⟨Nat.le_trans h.sz hk.1, hk.2⟩

theorem ItOK.nowSz (h : ItOK glb T B0 We g s st ρ a W I Wl) : T.W0.heap.size ≤ W.heap.size := Nat.le_trans h.sz h.mt.bel.size

theorem ItOK.ownNow (h : ItOK glb T B0 We g s st ρ a W I Wl) {l : Nat} {he : HE} {q : Nat} {v : Value} {k : Nat} (h1 : st.hp l = some (he, q)) (h2 : ρ l = some v) (h3 : OwnB ρ he v k) (hl : he.isLn = false) : nowI I Wl W k ∧ ¬ B0 k := by
  have hnb := (h.mt.nb l he q v k h1 h2 h3).1 hl
  obtain ⟨v', hv', hok⟩ := h.mt.hps l he q h1
  rw [h2] at hv'; cases hv'
  have hlt := (hok.lt h3).2
  by_cases hk : k < Wl.heap.size
  · have : I k ∧ ¬ B0 k := ⟨Classical.byContradiction fun hi => hnb ⟨hk, .inl hi⟩, fun hb => hnb ⟨hk, .inr hb⟩⟩
    exact ⟨.inl this.1, this.2⟩
  · refine ⟨.inr ⟨by omega, hlt⟩, fun hb => ?_⟩
    have := (h.low k (h.b0 k hb)).2
    omega

theorem ItOK.after (h : ItOK glb T B0 We g s st ρ a W I Wl) (hln : noLn st.look st.dom = true) {g' : List α} {s' : Bool} {I' : Nat → Prop} (hj : s' = false → T.J g' I' W') (hjx : s' = true → T.Jx I' W')
    (hmore : ∀ k, nowI I Wl W k → I' k) (hnew : ∀ k, I' k → nowI I Wl W k ∨ (W.heap.size ≤ k ∧ k < W'.heap.size)) (hk : Kept T.X T.W0 (nowI I Wl W) W W') : ItOK glb T B0 We g' s' st ρ a W' I' W' := by
  have m := h.mt
  have hlow := h.nowLow
  have hlow' : ∀ k, I' k → T.W0.heap.size ≤ k ∧ k < W'.heap.size := by
    intro k hk'
    rcases hnew k hk' with h1 | h1
    · exact ⟨(hlow k h1).1, Nat.lt_of_lt_of_le (hlow k h1).2 hk.size⟩
    · exact ⟨Nat.le_trans h.nowSz h1.1, h1.2⟩
  have noln : ∀ {l he q}, st.hp l = some (he, q) → he.isLn = false := by
    intro l he q hl
    obtain ⟨v, hv, _⟩ := m.hps l he q hl
    exact noLn_spec hln l (memL_iff.1 (m.dom l v hv)) he (by show (st.hp l).map (·.1) = some he; rw [hl]; rfl)
  have hown : ∀ {l he q v k}, st.hp l = some (he, q) → ρ l = some v → OwnB ρ he v k → nowI I Wl W k ∧ ¬ B0 k := fun h1 h2 h3 => h.ownNow h1 h2 h3 (noln h1)

  have hWlW : Kept T.X T.W0 B0 Wl W := ⟨m.bel.os, m.bel.tape, m.bel.output, m.bel.size, fun k hb => m.bel.block k ⟨(h.low k (h.b0 k hb)).2, .inr hb⟩, fun k hc hlt hx => m.bel.block k ⟨Nat.lt_of_lt_of_le hlt h.sz, .inl fun hi => by have := (h.low k hi).1; omega⟩⟩
  have ev : Evo (Xs st ρ (yX T I Wl)) W (Xs st ρ (yX T I' W')) W' := by
    refine ⟨hk.size, fun k hc hx => ?_, fun k hx hlt => ?_, ?_⟩
    · by_cases hn : nowI I Wl W k
      · exact hk.own k hn
      · have hlt : k < W.heap.size := let ⟨_, _, _, hc⟩ := hc; (Array.getElem?_eq_some_iff.1 hc).1
        have hkl : k < Wl.heap.size := by
          rcases Nat.lt_or_ge k Wl.heap.size with h1 | h1
          · exact h1
          · exact absurd (.inr ⟨h1, hlt⟩) hn
        have hno : ¬ (T.W0.heap.size ≤ k ∨ T.X k) := fun h2 => hx (.inl ⟨hkl, fun hi => hn (.inl hi), h2⟩)
        exact hk.old k hc (Nat.lt_of_not_le fun h3 => hno (.inl h3)) fun h3 => hno (.inr h3)
    · rcases hx with ⟨h1, h2, h3⟩ | hx
      · have hn : ¬ nowI I Wl W k := fun hn => h2 (hmore k hn)
        have hkl : k < Wl.heap.size := by
          rcases Nat.lt_or_ge k Wl.heap.size with h1 | h1
          · exact h1
          · exact absurd (.inr ⟨h1, hlt⟩) hn
        exact .inl ⟨hkl, fun hi => hn (.inl hi), h3⟩
      · exact .inr hx
    · rintro k (hx | ⟨l, he, q, v, h1, h2, h3⟩)
      · exact hx.1
      · exact Nat.lt_of_lt_of_le (hlow k (hown h1 h2 h3).1).2 hk.size
  refine ⟨hj, hjx, fun k hb => hmore k (.inl (h.b0 k hb)), fun k hk' => ?_, hlow', Nat.le_trans h.nowSz hk.size, ?_, ?_⟩
  · rcases hnew k hk' with (h1 | h1) | h1
    · exact h.new k h1
    · exact .inr (Nat.le_trans h.kept.size h1.1)
    · exact .inr (Nat.le_trans (Nat.le_trans h.kept.size m.bel.size) h1.1)
  · have cellsOn : ∀ {A B : World} {k : Nat}, (∃ cs t fr, A.heap[k]? = some (.cells cs t fr)) → B.heap[k]? = A.heap[k]? → ∃ cs t fr, B.heap[k]? = some (.cells cs t fr) := fun ⟨cs, t, fr, hc⟩ e => ⟨cs, t, fr, e.trans hc⟩
    refine ⟨hk.os.trans (hWlW.os.trans h.kept.os), hk.tape.trans (hWlW.tape.trans h.kept.tape), hk.output.trans (hWlW.output.trans h.kept.output), Nat.le_trans h.kept.size (Nat.le_trans hWlW.size hk.size),
      fun k hb => (hk.own k (.inl (h.b0 k hb))).trans ((hWlW.own k hb).trans (h.kept.own k hb)), fun k hc hlt hx => ?_⟩
    have e1 := h.kept.old k hc hlt hx
    have e2 := hWlW.old k (cellsOn hc e1) hlt hx
    exact (hk.old k (cellsOn (cellsOn hc e1) e2) hlt hx).trans (e2.trans e1)
  · refine ⟨m.size, ?_, fun t => (m.tms t).mono ρ.le_refl ev, fun l he q hl => ?_, m.dis, fun k hx => hx.1, fun k hb => hb.1, ⟨rfl, rfl, rfl, Nat.le_refl _, fun _ _ => rfl⟩, fun l he q v k h1 h2 h3 => ⟨fun _ hb => ?_, fun hx => ?_⟩, m.glb.evo ev, m.dom, m.stamp⟩
    · obtain ⟨Ds, d1, d2, d3⟩ := m.dfr
      refine ⟨Ds, d1, d2, fun D hD => ?_⟩
      obtain ⟨g1, g2⟩ := d3 D hD
      have hlt := (Array.getElem?_eq_some_iff.1 g1).1
      have hn : nowI I Wl W D ∧ ¬ B0 D := by
        by_cases hkl : D < Wl.heap.size
        · exact ⟨.inl (Classical.byContradiction fun hi => g2 ⟨hkl, .inl hi⟩), fun hb => g2 ⟨hkl, .inr hb⟩⟩
        · exact ⟨.inr ⟨by omega, hlt⟩, fun hb => by have := (h.low D (h.b0 D hb)).2; omega⟩
      exact ⟨(hk.own D hn.1).trans g1, fun hb => hb.2.elim (fun hi => hi (hmore D hn.1)) hn.2⟩
    · obtain ⟨v, hv, hok⟩ := m.hps l he q hl
      exact ⟨v, hv, hok.mono ρ.le_refl ev (fun k hk' => hk.own k (hown hl hv hk').1)⟩
    · exact hb.2.elim (fun hi => hi (hmore k (hown h1 h2 h3).1)) (hown h1 h2 h3).2
    · exact hx.2.1 (hmore k (hown h1 h2 h3).1)
end

def YR (T : Yt P α) (I : Nat → Prop) (W : World) (k : List α → Prop) (e : Ending) (W' : World) : Prop :=
  ∃ b g' I', e = .returned (.bool b) ∧ k g' ∧ (b = true → T.J g' I' W') ∧ (b = false → T.Jx I' W') ∧ (∀ j, I j → I' j) ∧ (∀ j, I' j → I j ∨ (W.heap.size ≤ j ∧ j < W'.heap.size)) ∧ Kept T.X T.W0 I W W'

def YOut (P : Program) (o : Oper) (a : Act) (W : World) (R : Ending → World → Prop) : Prop :=
  (∃ l f tmps asg body, (execOp a.eval o).run P W = .ok (.round l f tmps asg body) W ∧ RoundIn Fence.wide 0 P l f tmps asg body W R) ∨ (∃ f args, (execOp a.eval o).run P W = .ok (.enter f args) W ∧ Calls P f args W R)

structure YopOK (glb : Nat → Option GV) (T : Yt P α) (B0 : Nat → Prop) (We : World) (Y : YS α) : Prop where
  ok : ∀ (st : St) (ρ : Lab) (a : Act) (W : World) (g : List α) (o : Oper) (k : List α → Prop) (I : Nat → Prop) (Wl : World), ItOK glb T B0 We g false st ρ a W I Wl → T.J g (nowI I Wl W) W → Y.yop st g o k →
    YOut P o a W (YR T (nowI I Wl W) W k) ∧ ∀ c, o.op ≠ .defer c

theorem round_any {m m' : Nat} {l : Nat} {f : FuncId} {tmps : Array Value} {assign body : Code} {w : World} {R : Ending → World → Prop} (h : RoundIn Fence.wide m P l f tmps assign body w R) : RoundIn Fence.wide m' P l f tmps assign body w R :=
  ⟨h.1, fun c cs _ => h.2 c cs (fun d h => by cases h)⟩

theorem YOut.wpIn {n : Nat} {o : Oper} {a : Act} {W : World} {R : Ending → World → Prop} {next : Act → World → Prop} {Q : Exit → Act → World → Prop} (hd : ∀ c, o.op ≠ .defer c)
    (h : YOut P o a W R) (hn : ∀ e w', R e w' → ∃ v, e = .returned v ∧ next (a.put o.dst v) w') : o.wpIn Fence.wide n P a W next Q := by
  refine ⟨fun f _ => trivial, ?_⟩
  rw [Oper.semAt_eq _ _ _ hd]
  rcases h with ⟨l, f, tmps, asg, body, h1, h2⟩ | ⟨f, args, h1, h2⟩
  · rw [h1]
    refine ⟨fun h => (by cases h), (round_any h2).mono ?_⟩
    intro e w' hr
    obtain ⟨v, rfl, h⟩ := hn e w' hr
    exact h
  · rw [h1]
    refine ⟨fun h => (by cases h), (callsIn_wide.2 h2).mono ?_⟩
    intro e w' hr
    obtain ⟨v, rfl, h⟩ := hn e w' hr
    exact h

section
variable {T : Yt P α} {B0 : Nat → Prop} {We : World} {Y : YS α}

def PostY (glb : Nat → Option GV) (T : Yt P α) (B0 : Nat → Prop) (We : World) (st : St) (ρ : Lab) (wr : List Nat) (K : Xt → St → List α → Bool → Prop) (e : Exit) (a : Act) (W : World) : Prop :=
  ∃ x st' ρ' g s I Wl, e = x.ex ∧ K x st' g s ∧ (Frm st st' wr ∧ ρ.le ρ') ∧ ItOK glb T B0 We g s st' ρ' a W I Wl

theorem yStep_ok {n : Nat} (hS : StatOK P Y.S) (hct : CtOK P glb Y.S) (hg : Y.S.glb = glb) (hy : YopOK glb T B0 We Y) {st : St} {ρ : Lab} {a : Act} {W : World} {g : List α} {s : Bool} {I : Nat → Prop} {Wl : World} {lab : Nat} {o : Oper} {k : SV → List (Nat × Option HE) → List α → Bool → Prop}
    {next : Act → World → Prop} {Q : Exit → Act → World → Prop} (hfr : freshL lab st.dom = true) (h : ItOK glb T B0 We g s st ρ a W I Wl) (hk : yStep Y st lab o g s k)
    (hn : ∀ sv u g' s' ρ' v W' I' Wl', k sv u g' s' → ρ.le ρ' → ItOK glb T B0 We g' s' (st.upds u) ρ' a W' I' Wl' → RepV P ρ' (Xs (st.upds u) ρ' (yX T I' Wl')) W' sv v → next (a.put o.dst v) W') : o.wpIn Fence.wide n P a W next Q := by
  unfold yStep at hk
  cases hi : Y.isY lab with
  | false =>
    rw [hi] at hk
    obtain ⟨h1, h2⟩ := sem_ok hS hct hg h.mt hfr hk
    refine h1.wpIn (Wide.wide P) h2 fun v w' hfit => ?_
    obtain ⟨sv, u, ρ', hk', hle, m', hv, _⟩ := hfit
    exact hn sv u g s ρ' v w' I Wl hk' hle (h.go m') hv
  | true =>
    rw [hi] at hk
    obtain ⟨hc, hk2⟩ := chk_iff.1 hk
    clear hk
    simp only [Bool.and_eq_true, Bool.not_eq_true'] at hc
    obtain ⟨hs, hln⟩ := hc
    subst hs
    obtain ⟨h1, h2⟩ := hy.ok st ρ a W g o _ I Wl h (T.jt _ _ _ _ _ (h.j rfl) h.turned) hk2
    refine h1.wpIn h2 fun e w' hr => ?_
    obtain ⟨b, g', I', rfl, ⟨k1, k2⟩, hj, hjx, hmore, hnew, hkept⟩ := hr
    refine ⟨_, rfl, ?_⟩
    cases b with
    | true => exact hn (boolSV true) [] g' false ρ (.bool true) w' I' w' k1 ρ.le_refl (h.after hln (fun _ => hj rfl) (fun h => by cases h) hmore hnew hkept) (rep_bool true)
    | false => exact hn (boolSV false) [] g' true ρ (.bool false) w' I' w' k2 ρ.le_refl (h.after hln (fun h => by cases h) (fun _ => hjx rfl) hmore hnew hkept) (rep_bool false)

def PostRY (glb : Nat → Option GV) (T : Yt P α) (B0 : Nat → Prop) (We : World) (st : St) (ρ : Lab) (wr : List Nat) (K : St → List α → Bool → Prop) (a : Act) (W : World) : Prop :=
  ∃ st' ρ' g s I Wl, K st' g s ∧ (Frm st st' wr ∧ ρ.le ρ') ∧ ItOK glb T B0 We g s st' ρ' a W I Wl

theorem yOps_ok {n : Nat} (hS : StatOK P Y.S) (hct : CtOK P glb Y.S) (hg : Y.S.glb = glb) (hy : YopOK glb T B0 We Y) (all : List Oper) (lab : Nat) (K : St → List α → Bool → Prop) (Q : Exit → Act → World → Prop) (st0 : St) (ρ0 : Lab) (wr : List Nat)
    (hwr : ∀ (j : Nat) o d, all[j]? = some o → o.dst = some d → d ∈ wr) (hQ : ∀ a W, PostRY glb T B0 We st0 ρ0 wr K a W → Q .normal a W) :
    ∀ (rest : List Oper) (i : Nat) (st : St) (ρ : Lab) (a : Act) (W : World) (g : List α) (s : Bool) (I : Nat → Prop) (Wl : World), (∀ j, rest[j]? = all[i + j]?) → Frm st0 st wr ∧ ρ0.le ρ → ItOK glb T B0 We g s st ρ a W I Wl → yOps Y all lab rest i st g s K → wpListIn Fence.wide n P all.toArray Q rest a W
  | [], i, st, ρ, a, W, g, s, I, Wl, hr, hf, m, h => hQ a W ⟨st, ρ, g, s, I, Wl, h, hf, m⟩
  | o :: rest, i, st, ρ, a, W, g, s, I, Wl, hr, hf, m, h => by
    have hr' : ∀ j, rest[j]? = all[i + 1 + j]? := fun j => by have := hr (j + 1); rw [List.getElem?_cons_succ] at this; rw [this]; congr 1; omega
    have ho : all[i]? = some o := by have := hr 0; simpa using this.symm
    have hod : ∀ d, o.dst = some d → d ∈ wr := fun d hd => hwr i o d ho hd
    simp only [yOps] at h
    obtain ⟨hb, h⟩ := chk_iff.1 h
    simp only [Bool.and_eq_true, Bool.not_eq_true'] at hb
    obtain ⟨hfr, hdst⟩ := hb
    have ih := fun st ρ a W g s I Wl hf m h => yOps_ok (n := n) hS hct hg hy all lab K Q st0 ρ0 wr hwr hQ rest (i + 1) st ρ a W g s I Wl hr' hf m h
    simp only [wpListIn]
    cases hgd : o.guard with
    | none =>
      rw [hgd] at h
      rw [wanted_none hgd]
      simp only [if_true]
      refine yStep_ok hS hct hg hy hfr m h fun sv u g' s' ρ' v w' I' Wl' hk hle m' hv => ?_
      refine ih _ ρ' _ w' g' s' I' Wl' ?_ (m'.go (m'.mt.put o.dst sv v ?_ hv)) hk
      · exact ⟨(hf.1.trans (upds_frm wr u st)).trans (put_frm _ _ _ _ hod), hf.2.trans hle⟩
      · rw [(upds_frm wr u st).n]; exact hdst
    | some p =>
      obtain ⟨j, want⟩ := p
      rw [hgd] at h
      simp only at h
      cases hu : undS st all j with
      | some d =>
        rw [hu] at h
        obtain ⟨ht, hlt, oj, hoj, hojd⟩ := undS_ok hu
        have hrep := m.mt.tms d
        rw [ht] at hrep
        obtain ⟨vs, hvs, hnil⟩ := hrep
        have hnil : vs = [] := hnil
        subst hnil
        have : Region.wanted o (yielded all.toArray a.tmps) = false := by simp [Region.wanted, hgd, yielded_und hoj hojd hvs]
        rw [this]
        simp only [Bool.false_eq_true, if_false]
        refine ⟨fun f _ => trivial, ?_⟩
        refine ih _ ρ _ W g s I Wl ?_ (m.go (m.mt.put o.dst (.tup []) undef hdst rep_und)) h
        exact ⟨hf.1.trans (put_frm _ _ _ _ hod), hf.2⟩
      | none =>
      rw [hu] at h
      simp only at h
      obtain ⟨d, b, hk, hval, hyd, oj, hoj, hojd⟩ := yieldS_ok m.mt h
      have hdw : d ∈ wr := hwr j oj d hoj hojd
      obtain ⟨k1, k2⟩ := gdS_iff.1 hk
      have hwant : Region.wanted o (yielded all.toArray a.tmps) = (some b == some want) := by simp [Region.wanted, hgd, hyd]
      have know : ∀ c : Bool, b = c → ItOK glb T B0 We g s (st.put (some d) (boolSV c)) ρ a W I Wl := fun c hc => m.go (m.mt.know d _ (by rw [hval, hc]; exact rep_bool c))
      have hfk : ∀ c : Bool, Frm st0 (st.put (some d) (boolSV c)) wr := fun c => hf.1.trans (put_frm _ _ _ _ (fun d' hd' => by cases hd'; exact hdw))
      by_cases hbw : b = want
      · have : Region.wanted o (yielded all.toArray a.tmps) = true := by rw [hwant, hbw]; simp
        rw [this]
        simp only [if_true]
        have m1 := know want hbw
        refine yStep_ok (st := st.put (some d) (boolSV want)) hS hct hg hy hfr m1 (k1 hbw) fun sv u g' s' ρ' v w' I' Wl' hk' hle m' hv => ?_
        refine ih _ ρ' _ w' g' s' I' Wl' ?_ (m'.go (m'.mt.put o.dst sv v ?_ hv)) hk'
        · exact ⟨((hfk want).trans (upds_frm wr u _)).trans (put_frm _ _ _ _ hod), hf.2.trans hle⟩
        · rw [(upds_frm wr u _).n]; exact hdst
      · have : Region.wanted o (yielded all.toArray a.tmps) = false := by
          rw [hwant]
          cases b <;> cases want <;> first | rfl | exact absurd rfl hbw
        rw [this]
        simp only [Bool.false_eq_true, if_false]
        refine ⟨fun f _ => trivial, ?_⟩
        have hbn : b = !want := by cases b <;> cases want <;> first | rfl | exact absurd rfl hbw
        have m2 := know (!want) hbn
        refine ih _ ρ _ W g s I Wl ?_ (m2.go (m2.mt.put o.dst (.tup []) undef hdst rep_und)) (k2 hbw)
        exact ⟨(hfk (!want)).trans (put_frm _ _ _ _ hod), hf.2⟩

def YcOK (glb : Nat → Option GV) (T : Yt P α) (B0 : Nat → Prop) (We : World) (n : Nat) (Y : YS α) (an : Nat → Items) (c : Code) : Prop :=
  ∀ (st : St) (ρ : Lab) (a : Act) (W : World) (g : List α) (s : Bool) (I : Nat → Prop) (Wl : World) (K : Xt → St → List α → Bool → Prop), ItOK glb T B0 We g s st ρ a W I Wl → vcY Y an c st g s K → c.wpIn Fence.wide n P (PostY glb T B0 We st ρ (codeWrites c) K) a W

theorem vcY_block (an : Nat → Items) (id : Nat) (c : Code) {st : St} {g : List α} {s : Bool} (K : Xt → St → List α → Bool → Prop) (hc : ∀ b, c ≠ .loop b) (hc2 : ∀ f ps x y, c ≠ .rangeFunc f ps x y) : vcY Y an (.block id c) st g s K = vcY Y an c st g s fun x st' g s => match x with
    | .norm => K .norm st' g s
    | .exit i => cond (Nat.beq i id) (K .norm st' g s) (K (.exit i) st' g s)
    | .ret => K .ret st' g s := by
  cases c <;> first | rfl | exact absurd rfl (hc _) | exact absurd rfl (hc2 _ _ _ _)

theorem loopY_ok {n : Nat} (hct : CtOK P glb Y.S) (an : Nat → Items) (id : Nat) (body : Code) (ih : YcOK glb T B0 We n Y an body) : YcOK glb T B0 We n Y an (.block id (.loop body)) := by
  intro st ρ a W g s I Wl K m h
  simp only [vcY] at h
  obtain ⟨hc, Iv, μ, h1, h2⟩ := chk_iff.1 h
  simp only [Bool.and_eq_true, Bool.not_eq_true'] at hc
  obtain ⟨⟨hs, hnd⟩, hok⟩ := hc
  subst hs
  have hA := m.mt.ahead (an id) (codeWrites body)
  refine wpIn_block ?_
  let Inv : (an id).G → Act → World → Prop := fun x a W => ∃ g ρ' I Wl, (an id).app (Iv g) x ∧ ItOK glb T B0 We g false ((an id).head st (codeWrites body) x) ρ' a W I Wl ∧ ρ.le ρ'
  refine wpIn_loop (fun a W => ∃ x, Inv x a W) (least Inv ((an id).app μ)) ?_ ?_
  · obtain ⟨x, ρh, hk, mh⟩ := m.mt.head hct (an id) (codeWrites body) hA hnd hok h1
    exact ⟨x, g, ρh, I, Wl, hk, m.go mh.1, fun l v hv => by rw [mh.2.1 l (m.mt.dom l v hv)]; exact hv⟩
  · rintro a1 W1 ⟨x0, hx0⟩
    obtain ⟨x, ⟨g1, ρg, I1, Wl1, hI, mg, hleg⟩, hμ⟩ := least_at (μ := (an id).app μ) hx0
    refine wpIn_mono (ih _ ρg a1 W1 g1 false I1 Wl1 _ mg (All_spec (h2 g1) x hI)) ?_
    rintro e a2 W2 ⟨xt, st2, ρ2, g2, s2, I2, Wl2, rfl, hk, hf, m2⟩
    have hfr : Frm st st2 (codeWrites body) ∧ ρ.le ρ2 := ⟨(head_frm x hok).trans hf.1, hleg.trans hf.2⟩
    cases xt with
    | norm =>
      obtain ⟨hkept, hget⟩ := chk_iff.1 hk
      simp only [Bool.and_eq_true, Bool.not_eq_true'] at hkept
      obtain ⟨hs2, hkept⟩ := hkept
      subst hs2
      obtain ⟨x', ρ', ⟨hI', hlt⟩, m0, hold', _⟩ := m2.mt.head hct (an id) (codeWrites body) (hA.next hok hf.1 hkept) hnd hok hget
      have hinv : Inv x' a2 W2 := ⟨g2, ρ', I2, Wl2, hI', m2.go m0, fun l v hv => by rw [hold' l (m.mt.dom l v hv)]; exact hfr.2 l v hv⟩
      refine ⟨⟨x', hinv⟩, ?_⟩
      rw [← hμ]
      exact Nat.lt_of_le_of_lt (least_le (I := Inv) hinv) hlt
    | ret => exact ⟨.ret, st2, ρ2, g2, s2, I2, Wl2, rfl, hk, hfr, m2⟩
    | exit i =>
      show if i = id then _ else _
      by_cases hi : i = id
      · subst hi
        rw [if_pos rfl]
        have hk' : cond (Nat.beq i i) (K .norm st2 g2 s2) (K (.exit i) st2 g2 s2) := hk
        rw [Nat.beq_refl, cond_true] at hk'
        exact ⟨.norm, st2, ρ2, g2, s2, I2, Wl2, rfl, hk', hfr, m2⟩
      · rw [if_neg hi]
        have hk' : cond (Nat.beq i id) (K .norm st2 g2 s2) (K (.exit i) st2 g2 s2) := hk
        rw [beq_ne hi, cond_false] at hk'
        exact ⟨.exit i, st2, ρ2, g2, s2, I2, Wl2, rfl, hk', hfr, m2⟩

theorem vcY_ok_all {n : Nat} (hS : StatOK P Y.S) (hct : CtOK P glb Y.S) (hg : Y.S.glb = glb) (hy : YopOK glb T B0 We Y) (an : Nat → Items) (c : Code) : YcOK glb T B0 We n Y an c ∧ ∀ b, c = .loop b → YcOK glb T B0 We n Y an b := by
  have no : ∀ {c : Code}, (∀ b, c ≠ .loop b) → YcOK glb T B0 We n Y an c → YcOK glb T B0 We n Y an c ∧ ∀ b, c = .loop b → YcOK glb T B0 We n Y an b :=
    fun h1 h => ⟨h, fun b hb => absurd hb (h1 b)⟩
  induction c with
  | skip => exact no (fun _ h => by cases h) (fun st ρ a W g s I Wl K m h => wpIn_skip ⟨.norm, st, ρ, g, s, I, Wl, rfl, h, ⟨Frm.refl _ _, ρ.le_refl⟩, m⟩)
  | exit id => exact no (fun _ h => by cases h) (fun st ρ a W g s I Wl K m h => wpIn_exit ⟨.exit id, st, ρ, g, s, I, Wl, rfl, h, ⟨Frm.refl _ _, ρ.le_refl⟩, m⟩)
  | ret => exact no (fun _ h => by cases h) (fun st ρ a W g s I Wl K m h => wpIn_ret ⟨.ret, st, ρ, g, s, I, Wl, rfl, h, ⟨Frm.refl _ _, ρ.le_refl⟩, m⟩)
  | region id ops draw =>
    refine no (fun _ h => by cases h) (fun st ρ a W g s I Wl K m h => ?_)
    cases draw with
    | false =>
      refine wpIn_region_list ?_
      have := yOps_ok (n := n) hS hct hg hy ops.toList (id * 100) (K .norm) (PostY glb T B0 We st ρ (codeWrites (.region id ops false)) K) st ρ (codeWrites (.region id ops false)) (fun j o d ho hd => mem_filterMap_dst ho hd)
        (fun a W hp => let ⟨st', ρ', g', s', I', Wl', h1, h2, h3⟩ := hp; ⟨.norm, st', ρ', g', s', I', Wl', rfl, h1, h2, h3⟩) ops.toList 0 st ρ a W g s I Wl (fun j => by rw [Nat.zero_add]) ⟨Frm.refl _ _, ρ.le_refl⟩ m h
      simpa using this
    | true =>
      simp only [vcY] at h
      obtain ⟨hc, h⟩ := chk_iff.1 h
      simp only [Bool.and_eq_true] at hc
      obtain ⟨hm, hfull⟩ := hc
      refine vcAny_then (Wide.wide P) hS hct hg id ops (id * 100) (Y.fst id) _ _ (codeWrites (.region id ops true)) (fun j o d ho hd => mem_filterMap_dst ho hd) m.mt (Nat.le_of_ble_eq_true hm) hfull h ?_
      rintro a1 W1 ⟨st1, ρ1, hk1, hf1, m1⟩
      have := yOps_ok (n := n) hS hct hg hy ops.toList (id * 100) (K .norm) (PostY glb T B0 We st ρ (codeWrites (.region id ops true)) K) st ρ (codeWrites (.region id ops true)) (fun j o d ho hd => mem_filterMap_dst ho hd)
        (fun a W hp => let ⟨st', ρ', g', s', I', Wl', h1, h2, h3⟩ := hp; ⟨.norm, st', ρ', g', s', I', Wl', rfl, h1, h2, h3⟩) (ops.toList.drop (Y.fst id)) (Y.fst id) st1 ρ1 a1 W1 g s I Wl (fun j => by rw [List.getElem?_drop]) hf1 (m.go m1) hk1
      simpa using this
  | seq x y ihx ihy =>
    refine no (fun _ h => by cases h) (fun st ρ a W g s I Wl K m h => ?_)
    refine wpIn_seq (wpIn_mono (ihx.1 st ρ a W g s I Wl _ m h) ?_)
    rintro e a1 W1 ⟨xt, st1, ρ1, g1, s1, I1, Wl1, rfl, hk, hf, m1⟩
    have hfx : Frm st st1 (codeWrites x ++ codeWrites y) ∧ ρ.le ρ1 := ⟨hf.1.sub (fun t ht => List.mem_append.2 (.inl ht)), hf.2⟩
    cases xt with
    | norm =>
      refine wpIn_mono (ihy.1 st1 ρ1 a1 W1 g1 s1 I1 Wl1 K m1 hk) ?_
      rintro e a2 W2 ⟨xt2, st2, ρ2, g2, s2, I2, Wl2, he, hk2, hf2, m2⟩
      exact ⟨xt2, st2, ρ2, g2, s2, I2, Wl2, he, hk2, ⟨hfx.1.trans (hf2.1.sub (fun t ht => List.mem_append.2 (.inr ht))), hfx.2.trans hf2.2⟩, m2⟩
    | exit i => exact ⟨.exit i, st1, ρ1, g1, s1, I1, Wl1, rfl, hk, hfx, m1⟩
    | ret => exact ⟨.ret, st1, ρ1, g1, s1, I1, Wl1, rfl, hk, hfx, m1⟩
  | cond c x y ihx ihy =>
    refine no (fun _ h => by cases h) (fun st ρ a W g s I Wl K m h => ?_)
    obtain ⟨b, he0, hk⟩ := oneB_get h
    obtain ⟨b', hbb, hv⟩ := oneB_ok (k := fun x => x = b) (by rw [he0]; exact rfl) (ev_ok hS hg m.mt 0 c)
    obtain ⟨k1, k2⟩ := cnd_iff.1 hk
    subst hbb
    replace k1 : b' = true → vcY Y an x st g s K := fun hb => by have := k1 hb; rwa [← hb, known_eq he0] at this
    replace k2 : b' = false → vcY Y an y st g s K := fun hb => by have := k2 hb; rwa [← hb, known_eq he0] at this
    refine wpIn_cond_split hv (fun hb => ?_) (fun hb => ?_)
    · refine wpIn_mono (ihx.1 st ρ a W g s I Wl K m (k1 hb)) ?_
      rintro e a1 W1 ⟨xt, st1, ρ1, g1, s1, I1, Wl1, he, hk, hf, m1⟩
      exact ⟨xt, st1, ρ1, g1, s1, I1, Wl1, he, hk, ⟨hf.1.sub (fun t ht => List.mem_append.2 (.inl ht)), hf.2⟩, m1⟩
    · refine wpIn_mono (ihy.1 st ρ a W g s I Wl K m (k2 hb)) ?_
      rintro e a1 W1 ⟨xt, st1, ρ1, g1, s1, I1, Wl1, he, hk, hf, m1⟩
      exact ⟨xt, st1, ρ1, g1, s1, I1, Wl1, he, hk, ⟨hf.1.sub (fun t ht => List.mem_append.2 (.inr ht)), hf.2⟩, m1⟩
  | block id c ih =>
    refine no (fun _ h => by cases h) ?_
    by_cases hc : ∃ b, c = .loop b
    · obtain ⟨b, rfl⟩ := hc
      exact loopY_ok hct an id b (ih.2 b rfl)
    by_cases hrf2 : ∃ f ps x y, c = .rangeFunc f ps x y
    · obtain ⟨f, ps, x, y, rfl⟩ := hrf2
      intro st ρ a W g s I Wl K m h
      have := vc_ok (F := Fence.wide) (n := n) (Wide.wide P) rfl hS hct hg an (.block id (.rangeFunc f ps x y)) st ρ a W _ m.mt h
      refine wpIn_mono this ?_
      rintro e a1 W1 ⟨xt, st1, ρ1, he, hk, hf, m1⟩
      exact ⟨xt, st1, ρ1, g, s, I, Wl, he, hk, hf, m.go m1⟩
    · intro st ρ a W g s I Wl K m h
      have hc2 : ∀ f ps x y, c ≠ .rangeFunc f ps x y := fun f ps x y hb => hrf2 ⟨f, ps, x, y, hb⟩
      have hc' : ∀ b, c ≠ .loop b := fun b hb => hc ⟨b, hb⟩
      rw [vcY_block an id c K hc' hc2] at h
      refine wpIn_block (wpIn_mono (ih.1 st ρ a W g s I Wl _ m h) ?_)
      rintro e a1 W1 ⟨xt, st1, ρ1, g1, s1, I1, Wl1, rfl, hk, hf, m1⟩
      cases xt with
      | norm => exact ⟨.norm, st1, ρ1, g1, s1, I1, Wl1, rfl, hk, hf, m1⟩
      | ret => exact ⟨.ret, st1, ρ1, g1, s1, I1, Wl1, rfl, hk, hf, m1⟩
      | exit i =>
        show if i = id then _ else _
        by_cases hi : i = id
        · subst hi
          rw [if_pos rfl]
          have hk' : cond (Nat.beq i i) (K .norm st1 g1 s1) (K (.exit i) st1 g1 s1) := hk
          rw [Nat.beq_refl, cond_true] at hk'
          exact ⟨.norm, st1, ρ1, g1, s1, I1, Wl1, rfl, hk', hf, m1⟩
        · rw [if_neg hi]
          have hk' : cond (Nat.beq i id) (K .norm st1 g1 s1) (K (.exit i) st1 g1 s1) := hk
          rw [beq_ne hi, cond_false] at hk'
          exact ⟨.exit i, st1, ρ1, g1, s1, I1, Wl1, rfl, hk', hf, m1⟩
  | loop c ih => exact ⟨fun st ρ a W g s I Wl K m h => h.elim, (fun b hb => by cases hb; exact ih.1)⟩
  | rangeFunc f ps x y ihx ihy => exact no (fun _ h => by cases h) (fun st ρ a W g s I Wl K m h => h.elim)
  | scope c ih => exact no (fun _ h => by cases h) (fun st ρ a W g s I Wl K m h => h.elim)
  | label l => exact no (fun _ h => by cases h) (fun st ρ a W g s I Wl K m h => h.elim)
  | goto l => exact no (fun _ h => by cases h) (fun st ρ a W g s I Wl K m h => h.elim)
  | refuse q => exact no (fun _ h => by cases h) (fun st ρ a W g s I Wl K m h => h.elim)
end
end
end Go.GX
set_option linter.unusedVariables false
namespace Go.GX
open Go.RowKit Go.Shelf Go.Proofs

def yEnd {α : Type} (S : Stat) (rs : List ResultVar) (k : Option Bool → List α → Bool → Prop) (st : St) (g : List α) (s : Bool) : Prop :=
  match rs with
  | [] => k none g s
  | [rv] => oneB (resSV S st rv) fun b => k (some b) g s
  | _ => False

def yFin {α : Type} (S : Stat) (rs : List ResultVar) (k : Option Bool → List α → Bool → Prop) (e : Xt) (st : St) (g : List α) (s : Bool) : Prop :=
  match e with
  | .exit _ => False
  | .norm => yEnd S rs k st g s
  | .ret => yEnd S rs k st g s

section
variable {P : Program} {glb : Nat → Option GV} {α : Type} {T : Yt P α} {B0 : Nat → Prop} {We : World} {Y : YS α}

def obVal : Option Bool → Value
  | some b => .bool b
  | none => .tuple #[]

def YE (T : Yt P α) (B0 : Nat → Prop) (We : World) (k : Option Bool → List α → Bool → Prop) (e : Ending) (W' : World) : Prop :=
  ∃ ob g s I', e = .returned (obVal ob) ∧ k ob g s ∧ (s = false → T.J g I' W') ∧ (s = true → T.Jx I' W') ∧ (∀ j, B0 j → I' j) ∧ (∀ j, I' j → B0 j ∨ (We.heap.size ≤ j ∧ j < W'.heap.size)) ∧ Kept T.X T.W0 B0 We W'

theorem ItOK.keptNow {I : Nat → Prop} {Wl W : World} {g : List α} {s : Bool} {st : St} {ρ : Lab} {a : Act} (h : ItOK glb T B0 We g s st ρ a W I Wl) : Kept T.X T.W0 B0 We W := by
  have m := h.mt
  have hWlW : Kept T.X T.W0 B0 Wl W := ⟨m.bel.os, m.bel.tape, m.bel.output, m.bel.size, fun k hb => m.bel.block k ⟨(h.low k (h.b0 k hb)).2, .inr hb⟩, fun k hc hlt hx => m.bel.block k ⟨Nat.lt_of_lt_of_le hlt h.sz, .inl fun hi => by have := (h.low k hi).1; omega⟩⟩
  refine ⟨hWlW.os.trans h.kept.os, hWlW.tape.trans h.kept.tape, hWlW.output.trans h.kept.output, Nat.le_trans h.kept.size hWlW.size, fun k hb => (hWlW.own k hb).trans (h.kept.own k hb), fun k hc hlt hx => ?_⟩
  have e1 := h.kept.old k hc hlt hx
  have hc' : ∃ cs t fr, Wl.heap[k]? = some (.cells cs t fr) := let ⟨cs, t, fr, hc⟩ := hc; ⟨cs, t, fr, e1.trans hc⟩
  exact (hWlW.old k hc' hlt hx).trans e1

theorem ItOK.done {I : Nat → Prop} {Wl W : World} {g : List α} {s : Bool} {st : St} {ρ : Lab} {a : Act} (h : ItOK glb T B0 We g s st ρ a W I Wl) {k : Option Bool → List α → Bool → Prop} {ob : Option Bool} (hk : k ob g s) : YE T B0 We k (.returned (obVal ob)) W := by
  refine ⟨ob, g, s, nowI I Wl W, rfl, hk, fun hs => T.jt _ _ _ _ _ (h.j hs) h.turned, fun hs => T.jxt _ _ _ _ (h.jx hs) h.turned, fun j hj => .inl (h.b0 j hj), ?_, h.keptNow⟩
  rintro j (hj | hj)
  · rcases h.new j hj with h1 | h1
    · exact .inl h1
    · exact .inr ⟨h1, Nat.lt_of_lt_of_le (h.low j hj).2 h.mt.bel.size⟩
  · exact .inr ⟨Nat.le_trans h.kept.size hj.1, hj.2⟩

theorem y_run {n : Nat} (hS : StatOK P Y.S) (hct : CtOK P glb Y.S) (hg : Y.S.glb = glb) (hy : YopOK glb T B0 We Y) (an : Nat → Items) {f : FuncId} {fn : Func} {c : Code} (hf : P.funcs[f]? = some fn) (hb : fn.body = some c) {vs : List Value} {st0 : St} {ρ0 : Lab} {W : World} {g : List α} {I : Nat → Prop} {Wl : World}
    (h0 : ItOK glb T B0 We g false st0 ρ0 { tmps := vs.toArray ++ Array.replicate (fn.ntmps - vs.toArray.size) undef, defers := [] } W I Wl) (k : Option Bool → List α → Bool → Prop) (hvc : vcY Y an c st0 g false (yFin Y.S fn.results.toList k)) : CallsIn Fence.wide n P f vs.toArray W (YE T B0 We k) := by
  refine callsIn_of_wp_marks (F := Fence.wide) (n := n) hf hb trivial ?_
  refine wpIn_mono ((vcY_ok_all (n := n) hS hct hg hy an c).1 _ _ _ _ _ _ _ _ _ h0 hvc) ?_
  rintro e a' W' ⟨xt, st', ρ', g', s', I', Wl', rfl, hk, hf', m'⟩
  have fin : yEnd Y.S fn.results.toList k st' g' s' → LeavesInM Fence.wide n P fn a'.tmps (YE T B0 We k) a'.defers .returning W' := by
    intro hk
    obtain ⟨Ds, hDs, hnd, hDD⟩ := m'.mt.dfr
    rw [hDs]
    refine takeAll_leaves Ds W' hnd (fun D hD => (hDD D hD).1) ?_
    have m' := m'.go (m'.mt.taken hDD)
    revert m'
    generalize takeAll W' Ds = W'
    intro m'
    have run : ∀ us : List Value, (fn.results.toList.mapM (resOne a'.tmps)).run P W' = .ok us W' → (results fn a'.tmps).run P W' = .ok (if h : us.toArray.size = 1 then us.toArray[0] else .tuple us.toArray) W' := by
      intro us hr
      have hm : fn.results.mapM (resOne a'.tmps) = (do pure (← fn.results.toList.mapM (resOne a'.tmps)).toArray) := by
        rw [Array.mapM_eq_mapM_toList]
        simp
      have hres : results fn a'.tmps = (do
          let vs ← fn.results.mapM (resOne a'.tmps)
          pure (if h : vs.size = 1 then vs[0] else .tuple vs)) := by
        unfold results
        congr 1
      rw [hres, hm]
      simp only [Sem.run_bind, hr, Result.andThen_ok, Sem.run_pure]
    unfold yEnd at hk
    split at hk
    · rename_i hrs
      refine ⟨_, run [] (by rw [hrs]; rfl), ?_⟩
      exact m'.done (ob := none) hk
    · rename_i rv hrs
      obtain ⟨b0, hbe, _⟩ := oneB_get hk
      obtain ⟨v, hv, hrep⟩ := resSV_ok (W := W') hS m'.mt rv (by rw [hbe]; intro h; cases h)
      obtain ⟨b, hk2, hub⟩ := oneB_ok hk hrep
      subst hub
      refine ⟨_, run [.bool b] (by rw [hrs]; simp [List.mapM_cons, hv, Result.andThen_ok]), ?_⟩
      exact m'.done (ob := some b) hk2
    · exact hk.elim
  cases xt with
  | norm => exact fin hk
  | ret => exact fin hk
  | exit i => exact hk.elim

theorem mt_start {Bk X0 : Nat → Prop} {W : World} {fn : Func} {ss : List SV} {vs : List Value} {hp : Nat → Option (HE × Nat)} {ρ : Lab} {cnt : Nat} {dom : List Nat} (h1 : vs.length ≤ fn.ntmps) (h2 : ss.length = vs.length)
    (hrep : ∀ i v, vs[i]? = some v → RepV P ρ X0 W (tmOf ss i) v) (hps : ∀ l he q, hp l = some (he, q) → ∃ v, ρ l = some v ∧ HEok P 0 ρ X0 W he v ∧ ∀ k, ¬ OwnB ρ he v k)
    (hX : ∀ k, X0 k → k < W.heap.size) (hBk : ∀ k, Bk k → k < W.heap.size) (hglb : GlbOK P glb X0 W) (hdom : ∀ l v, ρ l = some v → memL l dom = true) (hst : ∀ l he q, hp l = some (he, q) → q ≤ cnt) :
    Mt P glb Bk X0 W ⟨fn.ntmps, tmOf ss, hp, cnt, dom⟩ ρ { tmps := vs.toArray ++ Array.replicate (fn.ntmps - vs.toArray.size) undef, defers := [] } W := by
  have noOwn : ∀ {l he q v k}, hp l = some (he, q) → ρ l = some v → ¬ OwnB ρ he v k := by
    intro l he q v k hl hv
    obtain ⟨v', hv', _, hn⟩ := hps l he q hl
    rw [hv] at hv'; cases hv'
    exact hn k
  have hXs : ∀ k, Xs ⟨fn.ntmps, tmOf ss, hp, cnt, dom⟩ ρ X0 k → X0 k := by
    rintro k (h | ⟨l, he, q, v, h1, h2, h3⟩)
    · exact h
    · exact absurd h3 (noOwn h1 h2)
  have ev : Evo X0 W (Xs ⟨fn.ntmps, tmOf ss, hp, cnt, dom⟩ ρ X0) W := Evo.mono (fun k hk => hX k (hXs k hk)) hXs
  refine ⟨?_, DefOK.nil, fun t => ?_, fun l he q h => ?_, fun l l' he he' q q' v v' k h h' h2 h2' h3 => absurd h3 (noOwn h h2), hX, hBk, ⟨rfl, rfl, rfl, Nat.le_refl _, fun _ _ => rfl⟩, fun l he q v k h h2 h3 => absurd h3 (noOwn h h2), hglb.evo ev, hdom, hst⟩
  · simp only [Array.size_append, Array.size_replicate, List.size_toArray]; omega
  · refine RepV.mono (Lab.le_refl _) ev ?_
    show RepV P ρ X0 W (tmOf ss t) _
    by_cases ht : t < vs.length
    · have hget : (vs.toArray ++ Array.replicate (fn.ntmps - vs.toArray.size) undef).getD t undef = vs[t] := by
        rw [Array.getD_eq_getD_getElem?, Array.getElem?_append_left (by simpa using ht), List.getElem?_toArray, List.getElem?_eq_getElem ht]
        rfl
      rw [hget]
      exact hrep t _ (List.getElem?_eq_getElem ht)
    · rw [tmOf_past _ t (by omega)]
      trivial
  · obtain ⟨v, hv, hok, _⟩ := hps l he q h
    exact ⟨v, hv, hok.mono ρ.le_refl ev (fun _ _ => rfl)⟩
end

def yArg (S : Stat) (st : St) : (A : Kd) → List SV → Option A.T
  | .sl _ K, ss => match ss with
    | [.mk false [.own L]] => match st.look L with
      | some (.row _ _ K' xs) => cond (K'.flat && Nat.ble 1 K'.n) (if h : K' = K then some (castL h xs) else none) none
      | _ => none
    | [.mk false [.nl _ _]] => some []
    | _ => none
  | A, ss => cond A.flat ((decArgs (dec1 S st.look fuel) A ss).map (·.1)) none

def yv (l : Nat) : Value := .func (.yield l) #[] #[]

def scY (l : Nat) (sc : SC) (p : Prop) : Prop :=
  match sc with
  | .v u => u = yv l ∧ p
  | _ => False

def yopY (S : Stat) (A : Kd) (l : Nat) (xs : List A.T) (st : St) (g : List A.T) (o : Oper) (k : List A.T → Prop) : Prop :=
  match o.op with
  | .call c => match c.callee with
    | .value f => oneC (ev S st 0 f) fun sc => scY l sc (optK (yArg S st A (evAll S st c.argTypes.toList c.args.toList)) fun x => ∃ rest, xs = g ++ x :: rest ∧ k (g ++ [x]))
    | _ => False
  | _ => False

section
variable {P : Program} {glb : Nat → Option GV} {B0 : Nat → Prop} {We : World} {S : Stat}

theorem sl_re {W : World} {e e' : TypeId} {K : Kd} {xs : List K.T} {v : Value} {X X' : Nat → Prop} (hf : K.flat = true) (h : ((Kd.sl e K).sem P).val X W xs v) (hX : ∀ ad n c, v = .slice (some ad) n c → ¬ X' ad.block) : ((Kd.sl e' K).sem P).val X' W xs v := by
  obtain ⟨A, c, hv, h1, h2, h3⟩ := h
  refine ⟨A, c, hv, h1, h2, fun hne => ?_⟩
  obtain ⟨ad, hA, _, g1, g2⟩ := h3 hne
  refine ⟨ad, hA, hX ad _ c (by rw [hv, hA]), g1, fun j x hx => ?_⟩
  obtain ⟨ecs, k1, k2⟩ := g2 j x hx
  exact ⟨ecs, Kd.flat_cells P K hf k1, k2⟩

theorem yArg_ok {α : Type} {T : Yt P α} (hct : CtOK P glb S) {st : St} {ρ : Lab} {a : Act} {W : World} {g : List α} {s : Bool} {I : Nat → Prop} {Wl : World} (h : ItOK glb T B0 We g s st ρ a W I Wl) : ∀ (A : Kd) (ss : List SV) (x : A.T) (vs : List Value), yArg S st A ss = some x → RepVs P ρ (Xs st ρ (yX T I Wl)) W ss vs →
    (A.sem P).vals (fun k => ¬ nowI I Wl W k) W x vs := by
  have flat : ∀ (A : Kd) (ss : List SV) (x : A.T) (vs : List Value), cond A.flat ((decArgs (dec1 S st.look fuel) A ss).map (·.1)) none = some x → RepVs P ρ (Xs st ρ (yX T I Wl)) W ss vs → (A.sem P).vals (fun k => ¬ nowI I Wl W k) W x vs := by
    intro A ss x vs hx hv
    cases hf : A.flat with
    | false => rw [hf] at hx; cases hx
    | true =>
      rw [hf, cond_true] at hx
      cases hd : decArgs (dec1 S st.look fuel) A ss with
      | none => rw [hd] at hx; cases hx
      | some p =>
        rw [hd] at hx
        cases hx
        exact Kd.flat_vals P A hf (decArgs_ok (Z := fun _ => true) (dec1_ok h.mt hct fuel) A ss p.1 p.2 vs hd hv (fun _ _ => rfl))
  intro A ss x vs hx hv
  cases A with
  | sl e K =>
    simp only [yArg] at hx
    split at hx
    · rename_i L
      split at hx
      · rename_i nn e' K' xs hl
        obtain ⟨q, hq⟩ := look_some hl
        cases hc : (K'.flat && Nat.ble 1 K'.n) with
        | false => rw [hc] at hx; cases hx
        | true =>
          rw [hc, cond_true] at hx
          simp only [Bool.and_eq_true] at hc
          split at hx
          · rename_i hk
            subst hk
            cases hx
            obtain ⟨v, vs', rfl, ⟨sc, hsc, hown⟩, hnil⟩ := hv
            have hnil : vs' = [] := hnil
            subst hnil
            cases hsc
            obtain ⟨hρ, a1, n1, c1, hsl⟩ := hown
            have hval := (h.mt.rowVal (Z := fun _ => true) (e' := e') hq hρ rfl).1
            have hfin : ((Kd.sl e K').sem P).val (fun k => ¬ nowI I Wl W k) W xs v := sl_re hc.1 hval fun ad n c hv hno => hno (by
              refine (h.ownNow (k := ad.block) hq hρ (.inl ?_) rfl).1
              rw [hv]; rfl)
            exact ⟨v, rfl, hfin⟩
          · cases hx
      · cases hx
    · cases hx
      obtain ⟨v, vs', rfl, ⟨sc, hsc, hv⟩, hnil⟩ := hv
      have hnil : vs' = [] := hnil
      subst hnil
      cases hsc
      have hv : v = .slice none 0 0 := hv
      subst hv
      exact ⟨_, rfl, none, 0, rfl, Nat.le_refl _, by unfold maxLen; omega, fun h => absurd rfl h⟩
    · cases hx
  | _ => exact flat _ ss x vs hx hv

theorem scY_get {l : Nat} {sc : SC} {p : Prop} (h : scY l sc p) : sc = .v (yv l) ∧ p := by
  unfold scY at h
  split at h
  · exact ⟨by rw [h.1], h.2⟩
  · exact h.elim

theorem run_yieldCall {a : Act} {W : World} {o : Oper} (cl : Call) (hop : o.op = .call cl) (f : Operand) (hcal : cl.callee = .value f) {l : Nat} (hf : a.eval f = yv l) :
    (execOp a.eval o).run P W = (Instr.yield l (cl.args.toList.map a.eval).toArray).run P W := by
  have hm : (cl.args.toList.map a.eval).toArray = cl.args.map a.eval := by apply Array.ext'; simp
  unfold execOp; rw [hop]
  simp only [resolve, hcal, hf, yv, Deferred.ofValue, Sem.run_bind, Sem.run_pure, Result.andThen_ok, invoke]
  rw [hm]
  simp

theorem yopY_ok {A : Kd} {T : Yt P A.T} (hS : StatOK P S) (hct : CtOK P glb S) (hg : S.glb = glb) (hvals : T.vals = (A.sem P).vals) (isY : Nat → Bool) (fst : Nat → Nat) : YopOK glb T B0 We ⟨S, isY, yopY S A T.l T.xs, fst⟩ := by
  refine ⟨fun st ρ a W g o k I Wl h hj hy => ?_⟩
  have hy : yopY S A T.l T.xs st g o k := hy
  unfold yopY at hy
  split at hy
  · rename_i cl hop
    refine ⟨?_, fun c hc => by rw [hop] at hc; cases hc⟩
    split at hy
    · rename_i f hcal
      obtain ⟨sc, h1, hsc⟩ := oneC_ok hy (ev_ok hS hg h.mt 0 f)
      obtain ⟨rfl, h2⟩ := scY_get h1
      obtain ⟨x, hx, rest, hxs, hk⟩ := optK_ok h2
      have hfv : a.eval f = yv T.l := hsc.1
      have hv := yArg_ok hct h A _ x _ hx (evAll_from hS hg h.mt cl.argTypes.toList cl.args.toList 0)
      obtain ⟨fn, tmps, asg, body, hr, hround⟩ := T.yd g x rest (nowI I Wl W) W _ hxs hj h.nowLow h.nowSz (by rw [hvals]; exact hv)
      refine .inl ⟨T.l, fn, tmps, asg, body, (run_yieldCall cl hop f hcal hfv).trans hr, (round_any hround).mono ?_⟩
      rintro e W' (⟨rfl, hj', hk'⟩ | ⟨rfl, hjx', hk'⟩)
      · exact ⟨true, _, nowI I Wl W, rfl, hk, fun _ => hj', fun h => (by cases h), fun _ h => h, fun _ h => .inl h, hk'⟩
      · exact ⟨false, _, nowI I Wl W, rfl, hk, fun h => (by cases h), fun _ => hjx', fun _ h => h, fun _ h => .inl h, hk'⟩
    · exact hy.elim
  · exact hy.elim

def vcIter {α : Type} (Y : YS α) (an : Nat → Items) (fn : Func) (c : Code) (C : Kd) (y : C.T) (l : Nat) (xs : List α) : Prop :=
  chk (Nat.ble (1 + C.ar) fn.ntmps) (vcY Y an c ⟨fn.ntmps, tmOf (.mk false [.v (yv l)] :: argsSV C y), fun _ => none, 0, []⟩ [] false (yFin Y.S fn.results.toList fun ob g s => cnd s True (g = xs)))

theorem seq_of {A C : Kd} {f : FuncId} {fn : Func} {c : Code} (hf : P.funcs[f]? = some fn) (hname : (fn.name == "runtime.NumGoroutine") = false) (hb : fn.body = some c) (an : Nat → Items) (Yl : Nat → YS A.T) (hS : ∀ l, StatOK P (Yl l).S) (hct : ∀ l, CtOK P glb (Yl l).S) (hg : ∀ l, (Yl l).S.glb = glb)
    {xs : List A.T} {y : C.T} (hyop : ∀ (T : Yt P A.T), T.vals = (A.sem P).vals → T.xs = xs → ∀ B0 We, YopOK glb T B0 We (Yl T.l)) (hvc : ∀ l, vcIter (Yl l) an fn c C y l xs) {X : Nat → Prop} {W : World} {cs : List Value} (hX : ∀ k, X k → k < W.heap.size) (hglb : GlbOK P glb X W) (hcs : (C.sem P).vals X W y cs) :
    SeqRun P (A.sem P).vals X W xs (.func (.func f) #[] cs.toArray) := by
  refine ⟨f, #[], cs.toArray, rfl, enters_of hf hname hb, fun n l J Jx hJt hJx hY h0 => ?_⟩
  obtain ⟨hn, hvc⟩ := chk_iff.1 (hvc l)
  have hn := Nat.le_of_ble_eq_true hn
  let T : Yt P A.T := ⟨(A.sem P).vals, X, W, n, l, xs, J, Jx, hJt, hJx, hY⟩
  obtain ⟨l2, g2⟩ := RepV.of_vals (P := P) (ρ := fun _ => none) (X := X) (W := W) C hcs
  have hl2 : cs.length = C.ar := by rw [← l2, argsSV_length]
  have hxx : ∀ k, yX T (fun _ => False) W k → X k := fun k hk => hk.2.2.resolve_left (Nat.not_le_of_lt hk.1)
  have start : ItOK glb T (fun _ => False) W [] false ⟨fn.ntmps, tmOf (.mk false [.v (yv l)] :: argsSV C y), fun _ => none, 0, []⟩ (fun _ => none) { tmps := (yv l :: cs).toArray ++ Array.replicate (fn.ntmps - (yv l :: cs).toArray.size) undef, defers := [] } W (fun _ => False) W := by
    refine ⟨fun _ => h0, fun h => (by cases h), fun _ h => h, fun _ h => h.elim, fun _ h => h.elim, Nat.le_refl _, ⟨rfl, rfl, rfl, Nat.le_refl _, fun _ _ => rfl, fun _ _ _ _ => rfl⟩, ?_⟩
    refine mt_start (by simp; omega) (by simp [l2]) (fun i v hv => ?_) (fun l he q h => (by cases h)) (fun k hk => hk.1) (fun k hk => hk.1) (hglb.evo (Evo.mono (fun k hk => hk.1) hxx)) (fun l v h => (by cases h)) (fun l he q h => (by cases h))
    cases i with
    | zero => cases hv; exact ⟨_, rfl, rfl, rfl⟩
    | succ i => exact (g2 i v (by simpa using hv)).mono (Lab.le_refl _) (Evo.mono (fun k hk => hk.1) hxx)
  have key := y_run (n := n) (hS l) (hct l) (hg l) (hyop T rfl rfl _ W) an hf hb (vs := yv l :: cs) start _ hvc
  have e : (yv l :: cs).toArray = #[] ++ #[.func (.yield l) #[] #[]] ++ cs.toArray := by simp [yv]
  rw [e] at key
  refine key.mono ?_
  rintro en W' ⟨ob, g, s, I', rfl, hk, hj, hjx, _⟩
  refine ⟨⟨_, rfl⟩, I', ?_⟩
  cases s with
  | true => exact .inr (hjx rfl)
  | false =>
    have hk : g = xs := hk
    subst hk
    exact .inl (hj rfl)
end
end Go.GX
namespace Go.Proofs.Tw
open Go Go.GX Go.Proofs

abbrev kU : Kd := .int .u64

def f130_wp : Int × Int × Unit → Unit → (Int × Int × Unit → Prop) → Prop := fun a _ Q => (a.1 = 1 ∧ 0 ≤ a.2.1 ∧ a.2.1 ≤ 5) ∧ Q (0, a.2.1, ())
def f130_ct : Ct := ⟨arg2 kU kU, .unit, res2 kU kU, f130_wp, false, false⟩
def f128_wp : Int × Int × Unit → Unit → (Int × Int × Unit → Prop) → Prop := fun a _ Q => (a.1 = 1 ∧ 0 ≤ a.2.1 ∧ a.2.1 ≤ 5) ∧ Q (0, a.2.1, ())
def f128_ct : Ct := ⟨arg2 kU kU, .unit, res2 kU kU, f128_wp, false, false⟩
def f127_wp : List Int × Int × Unit → Unit → (List Int → Prop) → Prop := fun a _ Q => (a.1 = [-1] ∧ 0 ≤ a.2.1 ∧ a.2.1 ≤ 5) ∧ Q (List.replicate a.2.1.toNat (-1))
def f127_ct : Ct := ⟨arg2 kFam kI, .unit, kIs, f127_wp, false, true⟩
def f127_an : Nat → Items
  | 0 => [.t 8 kI, .lrow 602 true 3 kI]
  | _ => []

def f117o_ct : Ct := ⟨kFam, .unit, res2 kIs .bool, f117_wp, false, true⟩
def f126_an : Nat → Items
  | 0 => [.lrow 30000000001 false 3 kI]
  | 2 => [.t 6 kI, .lrow 30000000001 false 3 kI]
  | _ => []
def y126_ct (l : Nat) (xs : List Fam) : YS Fam := ⟨S0 [(127, f127_ct), (117, f117o_ct)] [], fun lab => Nat.beq lab 204, yopY (S0 [(127, f127_ct), (117, f117o_ct)] []) kFam l xs, fun id => cond (Nat.beq id 4) 11 0⟩
def f126v_ct (l : Nat) (n : Int) (xs : List Fam) : Prop := vcIter (y126_ct l xs) f126_an Tryd.f126 (bodyOf Tryd.f126) (arg1 (.ptr 3 kI)) (n, ()) l xs
end Go.Proofs.Tw
set_option linter.unusedVariables false
set_option maxRecDepth 100000
namespace Go.Proofs.Tw
open Go Go.GX Go.Proofs

def V130 (x : Int) (y : Int) (Q : Int × Int × Unit → Prop) : Prop := (0 : Int) ≤ (32 : Int) ∧ (0 : Int) ≤ (32 : Int) ∧ (0 : Int) ≤ (32 : Int) ∧ (0 : Int) ≤ (32 : Int) ∧ (0 : Int) ≤ (32 : Int) ∧ Q (IntKind.wrap IntKind.u64 (IntKind.wrap IntKind.u64 (IntKind.wrap IntKind.u64 (Int.fdiv x ((2 : Int) ^ min (Int.toNat (32 : Int)) (IntKind.bits IntKind.u64)) * Int.fdiv y ((2 : Int) ^ min (Int.toNat (32 : Int)) (IntKind.bits IntKind.u64))) + Int.fdiv (IntKind.wrap IntKind.u64 (IntKind.wrap IntKind.u64 (Int.fdiv x ((2 : Int) ^ min (Int.toNat (32 : Int)) (IntKind.bits IntKind.u64)) * IntKind.wrap IntKind.u64 (↑(BitVec.toNat (BitVec.ofInt (IntKind.bits IntKind.u64) y &&& BitVec.ofInt (IntKind.bits IntKind.u64) (4294967295 : Int))) : Int)) + Int.fdiv (IntKind.wrap IntKind.u64 (IntKind.wrap IntKind.u64 (↑(BitVec.toNat (BitVec.ofInt (IntKind.bits IntKind.u64) x &&& BitVec.ofInt (IntKind.bits IntKind.u64) (4294967295 : Int))) : Int) * IntKind.wrap IntKind.u64 (↑(BitVec.toNat (BitVec.ofInt (IntKind.bits IntKind.u64) y &&& BitVec.ofInt (IntKind.bits IntKind.u64) (4294967295 : Int))) : Int))) ((2 : Int) ^ min (Int.toNat (32 : Int)) (IntKind.bits IntKind.u64)))) ((2 : Int) ^ min (Int.toNat (32 : Int)) (IntKind.bits IntKind.u64))) + Int.fdiv (IntKind.wrap IntKind.u64 (IntKind.wrap IntKind.u64 (↑(BitVec.toNat (BitVec.ofInt (IntKind.bits IntKind.u64) (IntKind.wrap IntKind.u64 (IntKind.wrap IntKind.u64 (Int.fdiv x ((2 : Int) ^ min (Int.toNat (32 : Int)) (IntKind.bits IntKind.u64)) * IntKind.wrap IntKind.u64 (↑(BitVec.toNat (BitVec.ofInt (IntKind.bits IntKind.u64) y &&& BitVec.ofInt (IntKind.bits IntKind.u64) (4294967295 : Int))) : Int)) + Int.fdiv (IntKind.wrap IntKind.u64 (IntKind.wrap IntKind.u64 (↑(BitVec.toNat (BitVec.ofInt (IntKind.bits IntKind.u64) x &&& BitVec.ofInt (IntKind.bits IntKind.u64) (4294967295 : Int))) : Int) * IntKind.wrap IntKind.u64 (↑(BitVec.toNat (BitVec.ofInt (IntKind.bits IntKind.u64) y &&& BitVec.ofInt (IntKind.bits IntKind.u64) (4294967295 : Int))) : Int))) ((2 : Int) ^ min (Int.toNat (32 : Int)) (IntKind.bits IntKind.u64)))) &&& BitVec.ofInt (IntKind.bits IntKind.u64) (4294967295 : Int))) : Int) + IntKind.wrap IntKind.u64 (IntKind.wrap IntKind.u64 (↑(BitVec.toNat (BitVec.ofInt (IntKind.bits IntKind.u64) x &&& BitVec.ofInt (IntKind.bits IntKind.u64) (4294967295 : Int))) : Int) * Int.fdiv y ((2 : Int) ^ min (Int.toNat (32 : Int)) (IntKind.bits IntKind.u64))))) ((2 : Int) ^ min (Int.toNat (32 : Int)) (IntKind.bits IntKind.u64))), IntKind.wrap IntKind.u64 (x * y), ())
theorem v130 (x : Int) (y : Int) (Q : Int × Int × Unit → Prop) : V130 x y Q = vcFunc (S0 [] []) f130_ct.own f130_ct.fresh no_an Tryd.f130 (bodyOf Tryd.f130) f130_ct.A f130_ct.C f130_ct.R (x, y, ()) () Q := by kernel_rfl

def V128 (x : Int) (y : Int) (Q : Int × Int × Unit → Prop) : Prop := f130_wp (x, y, ()) () fun (r : Int × Int × Unit) ↦ Q (Prod.fst r, Prod.fst (Prod.snd r), ())
theorem v128 (x : Int) (y : Int) (Q : Int × Int × Unit → Prop) : V128 x y Q = vcFunc (S0 [(130, f130_ct)] []) f128_ct.own f128_ct.fresh no_an Tryd.f128 (bodyOf Tryd.f128) f128_ct.A f128_ct.C f128_ct.R (x, y, ()) () Q := by kernel_rfl

def V127 (xs : List Int) (n : Int) (Q : List Int → Prop) : Prop := cnd (decide (n < (0 : Int))) False (List.length xs ≤ (9223372036854775807 : Nat) → f128_wp (IntKind.wrap IntKind.u64 (↑(List.length xs) : Int), IntKind.wrap IntKind.u64 n, ()) () fun (r : Int × Int × Unit) ↦ cnd (decide (Prod.fst r > (0 : Int))) False (cnd (decide (Prod.fst (Prod.snd r) > (9223372036854775807 : Int))) False (IntKind.wrap IntKind.i64 (Prod.fst (Prod.snd r)) = IntKind.wrap IntKind.i64 (Prod.fst (Prod.snd r)) ∧ (0 : Int) ≤ IntKind.wrap IntKind.i64 (Prod.fst (Prod.snd r)) ∧ IntKind.wrap IntKind.i64 (Prod.fst (Prod.snd r)) * (↑(8 : Nat) : Int) ≤ (140737488355328 : Int) ∧ ∃ (I : Int → List Int → Prop), ∃ (μ : Int → List Int → Nat), I (↑(min (List.length (List.replicate (Int.toNat (IntKind.wrap IntKind.i64 (Prod.fst (Prod.snd r)))) (0 : Int)) - (0 : Nat)) (List.length xs)) : Int) (List.take (0 : Nat) (List.replicate (Int.toNat (IntKind.wrap IntKind.i64 (Prod.fst (Prod.snd r)))) (0 : Int)) ++ List.take (min (List.length (List.replicate (Int.toNat (IntKind.wrap IntKind.i64 (Prod.fst (Prod.snd r)))) (0 : Int)) - (0 : Nat)) (List.length xs)) xs ++ List.drop ((0 : Nat) + min (List.length (List.replicate (Int.toNat (IntKind.wrap IntKind.i64 (Prod.fst (Prod.snd r)))) (0 : Int)) - (0 : Nat)) (List.length xs)) (List.replicate (Int.toNat (IntKind.wrap IntKind.i64 (Prod.fst (Prod.snd r)))) (0 : Int))) ∧ ∀ (x : Int) (x_1 : List Int), I x x_1 → List.length x_1 ≤ (9223372036854775807 : Nat) → cnd (decide (x < (↑(List.length x_1) : Int))) ((0 : Int) ≤ x ∧ x ≤ (↑(List.length x_1) : Int) ∧ (↑(List.length x_1) : Int) ≤ (↑(List.length x_1) : Int) ∧ (0 : Int) ≤ (0 : Int) ∧ (0 : Int) ≤ x ∧ x ≤ (↑(List.length x_1) : Int) ∧ I (IntKind.wrap IntKind.i64 (x + (↑(min (Int.toNat (↑(List.length x_1) : Int) - Int.toNat x) (List.length (List.drop (Int.toNat (0 : Int)) (List.take (Int.toNat x) x_1)))) : Int))) (List.take (Int.toNat x) x_1 ++ List.take (min (Int.toNat (↑(List.length x_1) : Int) - Int.toNat x) (List.length (List.drop (Int.toNat (0 : Int)) (List.take (Int.toNat x) x_1)))) (List.drop (Int.toNat (0 : Int)) (List.take (Int.toNat x) x_1)) ++ List.drop (Int.toNat x + min (Int.toNat (↑(List.length x_1) : Int) - Int.toNat x) (List.length (List.drop (Int.toNat (0 : Int)) (List.take (Int.toNat x) x_1)))) x_1) ∧ μ (IntKind.wrap IntKind.i64 (x + (↑(min (Int.toNat (↑(List.length x_1) : Int) - Int.toNat x) (List.length (List.drop (Int.toNat (0 : Int)) (List.take (Int.toNat x) x_1)))) : Int))) (List.take (Int.toNat x) x_1 ++ List.take (min (Int.toNat (↑(List.length x_1) : Int) - Int.toNat x) (List.length (List.drop (Int.toNat (0 : Int)) (List.take (Int.toNat x) x_1)))) (List.drop (Int.toNat (0 : Int)) (List.take (Int.toNat x) x_1)) ++ List.drop (Int.toNat x + min (Int.toNat (↑(List.length x_1) : Int) - Int.toNat x) (List.length (List.drop (Int.toNat (0 : Int)) (List.take (Int.toNat x) x_1)))) x_1) < μ x x_1) (Q x_1))))
theorem v127 (xs : List Int) (n : Int) (Q : List Int → Prop) : V127 xs n Q = vcFunc (S0 [(128, f128_ct)] [903,906]) f127_ct.own f127_ct.fresh f127_an Tryd.f127 (bodyOf Tryd.f127) f127_ct.A f127_ct.C f127_ct.R (xs, n, ()) () Q := by kernel_rfl

end Go.Proofs.Tw
set_option linter.unusedVariables false
set_option maxRecDepth 100000
namespace Go.Proofs.Tw
open Go Go.GX Go.Proofs

def V126 (l : Nat) (n : Int) (xs : List Fam) : Prop := f127_wp ((-1 : Int) :: ([] : List Int), n, ()) () fun (r : List Int) ↦ ∃ (I : List Fam → List Int → Prop), ∃ (μ : List Int → Nat), I ([] : List Fam) r ∧ ∀ (g : List Fam) (x : List Int), I g x → f117_wp x () fun (r : List Int × Bool × Unit) ↦ cnd (Prod.fst (Prod.snd r)) (Value.func (Fn.yield l) (List.toArray ([] : List Value)) (List.toArray ([] : List Value)) = Value.func (Fn.yield l) (List.toArray ([] : List Value)) (List.toArray ([] : List Value)) ∧ ∃ (rest : List (List Int)), xs = g ++ x :: rest ∧ (∃ (I_1 : List Fam → Int → List Int → Prop), ∃ (μ_1 : Int → List Int → Nat), I_1 (g ++ x :: ([] : List (List Int))) (IntKind.wrap IntKind.i64 (n - (1 : Int))) x ∧ ∀ (g : List Fam) (x_1 : Int) (x_2 : List Int), I_1 g x_1 x_2 → cnd (decide (x_1 ≥ (0 : Int))) ((0 : Int) ≤ x_1 ∧ x_1 < (↑(List.length x_2) : Int) ∧ cnd (List.getD x_2 (Int.toNat x_1) (0 : Int) == IntKind.wrap IntKind.i64 (n - (1 : Int))) ((0 : Int) ≤ x_1 ∧ x_1 < (↑(List.length x_2) : Int) ∧ I_1 g (IntKind.wrap IntKind.i64 (x_1 - (1 : Int))) (List.set x_2 (Int.toNat x_1) (-1 : Int)) ∧ μ_1 (IntKind.wrap IntKind.i64 (x_1 - (1 : Int))) (List.set x_2 (Int.toNat x_1) (-1 : Int)) < μ_1 x_1 x_2) (cnd (decide (x_1 < (0 : Int))) (g = xs) ((0 : Int) ≤ x_1 ∧ x_1 < (↑(List.length x_2) : Int) ∧ (0 : Int) ≤ x_1 ∧ x_1 < (↑(List.length x_2) : Int) ∧ I g (List.set x_2 (Int.toNat x_1) (IntKind.wrap IntKind.i64 (List.getD x_2 (Int.toNat x_1) (0 : Int) + (1 : Int)))) ∧ μ (List.set x_2 (Int.toNat x_1) (IntKind.wrap IntKind.i64 (List.getD x_2 (Int.toNat x_1) (0 : Int) + (1 : Int)))) < μ x))) (cnd (decide (x_1 < (0 : Int))) (g = xs) ((0 : Int) ≤ x_1 ∧ x_1 < (↑(List.length x_2) : Int) ∧ (0 : Int) ≤ x_1 ∧ x_1 < (↑(List.length x_2) : Int) ∧ I g (List.set x_2 (Int.toNat x_1) (IntKind.wrap IntKind.i64 (List.getD x_2 (Int.toNat x_1) (0 : Int) + (1 : Int)))) ∧ μ (List.set x_2 (Int.toNat x_1) (IntKind.wrap IntKind.i64 (List.getD x_2 (Int.toNat x_1) (0 : Int) + (1 : Int)))) < μ x))) ∧ True) (∃ (I_1 : List Fam → Int → List Int → Prop), ∃ (μ_1 : Int → List Int → Nat), I_1 g (IntKind.wrap IntKind.i64 (n - (1 : Int))) x ∧ ∀ (g : List Fam) (x_1 : Int) (x_2 : List Int), I_1 g x_1 x_2 → cnd (decide (x_1 ≥ (0 : Int))) ((0 : Int) ≤ x_1 ∧ x_1 < (↑(List.length x_2) : Int) ∧ cnd (List.getD x_2 (Int.toNat x_1) (0 : Int) == IntKind.wrap IntKind.i64 (n - (1 : Int))) ((0 : Int) ≤ x_1 ∧ x_1 < (↑(List.length x_2) : Int) ∧ I_1 g (IntKind.wrap IntKind.i64 (x_1 - (1 : Int))) (List.set x_2 (Int.toNat x_1) (-1 : Int)) ∧ μ_1 (IntKind.wrap IntKind.i64 (x_1 - (1 : Int))) (List.set x_2 (Int.toNat x_1) (-1 : Int)) < μ_1 x_1 x_2) (cnd (decide (x_1 < (0 : Int))) (g = xs) ((0 : Int) ≤ x_1 ∧ x_1 < (↑(List.length x_2) : Int) ∧ (0 : Int) ≤ x_1 ∧ x_1 < (↑(List.length x_2) : Int) ∧ I g (List.set x_2 (Int.toNat x_1) (IntKind.wrap IntKind.i64 (List.getD x_2 (Int.toNat x_1) (0 : Int) + (1 : Int)))) ∧ μ (List.set x_2 (Int.toNat x_1) (IntKind.wrap IntKind.i64 (List.getD x_2 (Int.toNat x_1) (0 : Int) + (1 : Int)))) < μ x))) (cnd (decide (x_1 < (0 : Int))) (g = xs) ((0 : Int) ≤ x_1 ∧ x_1 < (↑(List.length x_2) : Int) ∧ (0 : Int) ≤ x_1 ∧ x_1 < (↑(List.length x_2) : Int) ∧ I g (List.set x_2 (Int.toNat x_1) (IntKind.wrap IntKind.i64 (List.getD x_2 (Int.toNat x_1) (0 : Int) + (1 : Int)))) ∧ μ (List.set x_2 (Int.toNat x_1) (IntKind.wrap IntKind.i64 (List.getD x_2 (Int.toNat x_1) (0 : Int) + (1 : Int)))) < μ x)))
theorem V126E (l : Nat) (n : Int) (xs : List Fam) : V126 l n xs = (f126v_ct l n xs) := by kernel_rfl

end Go.Proofs.Tw
set_option linter.unusedVariables false
set_option maxRecDepth 100000
namespace Go.Proofs.Tw
open Go Go.GX Go.Proofs

def V124 (xs : List Int) (n : Int) (Q : Int → Prop) : Prop := List.length xs ≤ (9223372036854775807 : Nat) → ∃ (I : Int → Prop), ∃ (μ : Int → Nat), I (0 : Int) ∧ ∀ (x : Int), I x → cnd (decide (x < (↑(List.length xs) : Int))) ((0 : Int) ≤ x ∧ x < (↑(List.length xs) : Int) ∧ cnd (n == List.getD xs (Int.toNat x) (0 : Int)) (Q x) (I (IntKind.wrap IntKind.i64 (x + (1 : Int))) ∧ μ (IntKind.wrap IntKind.i64 (x + (1 : Int))) < μ x)) (Q (-1 : Int))
theorem v124 (xs : List Int) (n : Int) (Q : Int → Prop) : V124 xs n Q = vcFunc (S0 [] []) f124_ct.own f124_ct.fresh idx_an Tryd.f124 (bodyOf Tryd.f124) f124_ct.A f124_ct.C f124_ct.R (xs, n, ()) () Q := by kernel_rfl

def V114 (xs : List Int) (n : Int) (Q : Bool → Prop) : Prop := f124_wp (xs, n, ()) () fun (r : Int) ↦ Q (decide (r ≥ (0 : Int)))
theorem v114 (xs : List Int) (n : Int) (Q : Bool → Prop) : V114 xs n Q = vcFunc (S0 [(124, f124_ct)] []) f114_ct.own f114_ct.fresh no_an Tryd.f114 (bodyOf Tryd.f114) f114_ct.A f114_ct.C f114_ct.R (xs, n, ()) () Q := by kernel_rfl

def V113 (n : Int) (s : List Int) (Q : Bool → Prop) : Prop := f114_wp (s, n, ()) () fun (r : Bool) ↦ Q r
theorem v113 (n : Int) (s : List Int) (Q : Bool → Prop) : V113 n s Q = vcFunc (S0 [(114, f114_ct)] []) f113_ct.own f113_ct.fresh no_an Tryd.f113 (bodyOf Tryd.f113) f113_ct.A f113_ct.C f113_ct.R n (s, ()) Q := by kernel_rfl

def V116 (n : Int) (s : List Int) (Q : Bool → Prop) : Prop := f114_wp (s, n, ()) () fun (r : Bool) ↦ Q !r
theorem v116 (n : Int) (s : List Int) (Q : Bool → Prop) : V116 n s Q = vcFunc (S0 [(114, f114_ct)] []) f116_ct.own f116_ct.fresh no_an Tryd.f116 (bodyOf Tryd.f116) f116_ct.A f116_ct.C f116_ct.R n (s, ()) Q := by kernel_rfl

def V81 (xs : List Int) (Q : List Int → Prop) : Prop := ∀ (b : Bool), (b = true → xs = ([] : List Int)) → cnd b (Q ([] : List Int)) ((List.length ([] : List Int) + List.length xs) * (8 : Nat) ≤ (140737488355328 : Nat) ∧ Q (([] : List Int) ++ xs))
theorem v81 (xs : List Int) (Q : List Int → Prop) : V81 xs Q = vcFunc (S0 [] []) f81_ct.own f81_ct.fresh no_an Tryd.f81 (bodyOf Tryd.f81) f81_ct.A f81_ct.C f81_ct.R xs () Q := by kernel_rfl

def V121 (xs : List Int) (Q : List Int → Prop) : Prop := ∀ (b : Bool), (b = true → xs = ([] : List Int)) → cnd b (Q ([] : List Int)) ((List.length ([] : List Int) + List.length xs) * (8 : Nat) ≤ (140737488355328 : Nat) ∧ Q (([] : List Int) ++ xs))
theorem v121 (xs : List Int) (Q : List Int → Prop) : V121 xs Q = vcFunc (S0 [] []) f121_ct.own f121_ct.fresh no_an Tryd.f121 (bodyOf Tryd.f121) f121_ct.A f121_ct.C f121_ct.R xs () Q := by kernel_rfl

def V122 (xs : List (List Int)) (f : List Int → (Bool → Prop) → Prop) (Q : Int → Prop) : Prop := List.length xs ≤ (9223372036854775807 : Nat) → ∃ (I : Int → Prop), ∃ (μ : Int → Nat), I (0 : Int) ∧ ∀ (x : Int), I x → cnd (decide (x < (↑(List.length xs) : Int))) ((0 : Int) ≤ x ∧ x < (↑(List.length xs) : Int) ∧ Prod.fst (f, ()) (List.getD xs (Int.toNat x) ([] : List Int)) fun (r : Bool) ↦ cnd r (Q x) (I (IntKind.wrap IntKind.i64 (x + (1 : Int))) ∧ μ (IntKind.wrap IntKind.i64 (x + (1 : Int))) < μ x)) (Q (-1 : Int))
theorem v122 (xs : List (List Int)) (f : List Int → (Bool → Prop) → Prop) (Q : Int → Prop) : V122 xs f Q = vcFunc (S0 [] []) f122_ct.own f122_ct.fresh idx_an Tryd.f122 (bodyOf Tryd.f122) f122_ct.A f122_ct.C f122_ct.R (xs, f, ()) () Q := by kernel_rfl

def V100 (xs : List (List Int)) (f : List Int → (Bool → Prop) → Prop) (Q : Bool → Prop) : Prop := f122_wp (xs, f, ()) () fun (r : Int) ↦ Q (decide (r ≥ (0 : Int)))
theorem v100 (xs : List (List Int)) (f : List Int → (Bool → Prop) → Prop) (Q : Bool → Prop) : V100 xs f Q = vcFunc (S0 [(122, f122_ct)] []) f100_ct.own f100_ct.fresh no_an Tryd.f100 (bodyOf Tryd.f100) f100_ct.A f100_ct.C f100_ct.R (xs, f, ()) () Q := by kernel_rfl

def V28 (g : List Int × List Int × List (Int × Int)) (fs : List (List Int)) (Q : Bool × Bool × Int × Unit → Prop) : Prop := f71_wp ((Prod.fst g, Prod.fst (Prod.snd g), Prod.snd (Prod.snd g)), fs, ()) () fun (r : ((List Int × List Int × List (Int × Int)) × List (List Int)) × Int × Unit) ↦ cnd (Prod.fst (Prod.snd r) != (0 : Int)) (Q (false, false, Prod.fst (Prod.snd r), ())) (List.length (Prod.fst g) ≤ (9223372036854775807 : Nat) → ∃ (I : Int → Bool → Prop), ∃ (μ : Int → Bool → Nat), I (0 : Int) true ∧ ∀ (x : Int) (x_1 : Bool), I x x_1 → cnd (decide (x < (↑(List.length (Prod.fst g)) : Int))) (List.length fs ≤ (9223372036854775807 : Nat) → ∃ (I_1 : Int → Bool → Prop), ∃ (μ_1 : Int → Bool → Nat), I_1 (0 : Int) x_1 ∧ ∀ (x_2 : Int) (x_3 : Bool), I_1 x_2 x_3 → cnd (decide (x_2 < (↑(List.length fs) : Int))) (List.length fs ≤ (9223372036854775807 : Nat) → ∃ (I : Int → Bool → Prop), ∃ (μ : Int → Bool → Nat), I (0 : Int) x_3 ∧ ∀ (x_4 : Int) (x_5 : Bool), I x_4 x_5 → cnd (decide (x_4 < (↑(List.length fs) : Int))) (cnd x_5 (cnd (x_2 == x_4) (I (IntKind.wrap IntKind.i64 (x_4 + (1 : Int))) true ∧ μ (IntKind.wrap IntKind.i64 (x_4 + (1 : Int))) true < μ x_4 x_5) (∃ (r_1 : Int × Int), (f77_wp (((Prod.fst (Prod.fst (Prod.fst r)), Prod.fst (Prod.snd (Prod.fst (Prod.fst r))), Prod.snd (Prod.snd (Prod.fst (Prod.fst r)))), Prod.snd (Prod.fst r)), x, x_2, ()) () fun (r' : Int × Int) ↦ r' = r_1) ∧ ∃ (r_2 : Int × Int), (f77_wp (((Prod.fst (Prod.fst (Prod.fst r)), Prod.fst (Prod.snd (Prod.fst (Prod.fst r))), Prod.snd (Prod.snd (Prod.fst (Prod.fst r)))), Prod.snd (Prod.fst r)), x, x_4, ()) () fun (r' : Int × Int) ↦ r' = r_2) ∧ (0 : Int) ≤ x ∧ x < (↑(List.length (Prod.fst (Prod.snd g))) : Int) ∧ I (IntKind.wrap IntKind.i64 (x_4 + (1 : Int))) (decide (IntKind.wrap IntKind.i64 (Prod.snd r_1 - Prod.fst r_2) ≤ IntKind.wrap IntKind.i64 ((2 : Int) * List.getD (Prod.fst (Prod.snd g)) (Int.toNat x) (0 : Int)))) ∧ μ (IntKind.wrap IntKind.i64 (x_4 + (1 : Int))) (decide (IntKind.wrap IntKind.i64 (Prod.snd r_1 - Prod.fst r_2) ≤ IntKind.wrap IntKind.i64 ((2 : Int) * List.getD (Prod.fst (Prod.snd g)) (Int.toNat x) (0 : Int)))) < μ x_4 x_5)) (I (IntKind.wrap IntKind.i64 (x_4 + (1 : Int))) false ∧ μ (IntKind.wrap IntKind.i64 (x_4 + (1 : Int))) false < μ x_4 x_5)) (I_1 (IntKind.wrap IntKind.i64 (x_2 + (1 : Int))) x_5 ∧ μ_1 (IntKind.wrap IntKind.i64 (x_2 + (1 : Int))) x_5 < μ_1 x_2 x_3)) (I (IntKind.wrap IntKind.i64 (x + (1 : Int))) x_3 ∧ μ (IntKind.wrap IntKind.i64 (x + (1 : Int))) x_3 < μ x x_1)) (f78_wp (((Prod.fst (Prod.fst (Prod.fst r)), Prod.fst (Prod.snd (Prod.fst (Prod.fst r))), Prod.snd (Prod.snd (Prod.fst (Prod.fst r)))), Prod.snd (Prod.fst r)), fun (x : Int) (Q : Bool → Prop) ↦ f73_wp x () fun (r : Bool) ↦ Q r, ()) () fun (r : Bool) ↦ Q (x_1, r, (0 : Int), ())))
theorem v28 (g : List Int × List Int × List (Int × Int)) (fs : List (List Int)) (Q : Bool × Bool × Int × Unit → Prop) : V28 g fs Q = vcFunc (S0 [(71, f71_ct), (77, f77_ct), (78, f78_ct), (73, f73_ct)] []) f28_ct.own f28_ct.fresh f28_an Tryd.f28 (bodyOf Tryd.f28) f28_ct.A f28_ct.C f28_ct.R (g, fs, ()) () Q := by kernel_rfl

def V58 (g : List Int × List Int × List (Int × Int)) (x : List Int) (y : List Int) (Q : Bool × Bool × Int × Unit → Prop) : Prop := f71_wp ((Prod.fst g, Prod.fst (Prod.snd g), Prod.snd (Prod.snd g)), x :: y :: ([] : List (List Int)), ()) () fun (r : ((List Int × List Int × List (Int × Int)) × List (List Int)) × Int × Unit) ↦ cnd (Prod.fst (Prod.snd r) != (0 : Int)) (Q (false, false, Prod.fst (Prod.snd r), ())) (List.length (Prod.snd (Prod.snd g)) ≤ (9223372036854775807 : Nat) → ∃ (I : Int → Bool → Bool → Prop), ∃ (μ : Int → Bool → Bool → Nat), I (0 : Int) true true ∧ ∀ (x : Int) (x_1 x_2 : Bool), I x x_1 x_2 → cnd (decide (x < (↑(List.length (Prod.snd (Prod.snd g))) : Int))) ((0 : Int) ≤ x ∧ x < (↑(List.length (Prod.snd (Prod.snd g))) : Int) ∧ ∃ (r_1 : Int × Int), (f77_wp (((Prod.fst (Prod.fst (Prod.fst r)), Prod.fst (Prod.snd (Prod.fst (Prod.fst r))), Prod.snd (Prod.snd (Prod.fst (Prod.fst r)))), Prod.snd (Prod.fst r)), x, (0 : Int), ()) () fun (r' : Int × Int) ↦ r' = r_1) ∧ ∃ (r_2 : Int × Int), (f77_wp (((Prod.fst (Prod.fst (Prod.fst r)), Prod.fst (Prod.snd (Prod.fst (Prod.fst r))), Prod.snd (Prod.snd (Prod.fst (Prod.fst r)))), Prod.snd (Prod.fst r)), x, (1 : Int), ()) () fun (r' : Int × Int) ↦ r' = r_2) ∧ cnd x_1 (cnd (decide (IntKind.wrap IntKind.i64 (Prod.fst r_2 - Prod.snd r_1) ≥ Prod.fst (List.getD (Prod.snd (Prod.snd g)) (Int.toNat x) ((0 : Int), (0 : Int))))) (cnd x_2 (cnd (decide (IntKind.wrap IntKind.i64 (Prod.fst r_2 - Prod.snd r_1) ≤ Prod.snd (List.getD (Prod.snd (Prod.snd g)) (Int.toNat x) ((0 : Int), (0 : Int))))) (I (IntKind.wrap IntKind.i64 (x + (1 : Int))) (decide (IntKind.wrap IntKind.i64 (Prod.snd r_2 - Prod.fst r_1) ≤ Prod.snd (List.getD (Prod.snd (Prod.snd g)) (Int.toNat x) ((0 : Int), (0 : Int))))) (decide (IntKind.wrap IntKind.i64 (Prod.snd r_2 - Prod.fst r_1) ≥ Prod.fst (List.getD (Prod.snd (Prod.snd g)) (Int.toNat x) ((0 : Int), (0 : Int))))) ∧ μ (IntKind.wrap IntKind.i64 (x + (1 : Int))) (decide (IntKind.wrap IntKind.i64 (Prod.snd r_2 - Prod.fst r_1) ≤ Prod.snd (List.getD (Prod.snd (Prod.snd g)) (Int.toNat x) ((0 : Int), (0 : Int))))) (decide (IntKind.wrap IntKind.i64 (Prod.snd r_2 - Prod.fst r_1) ≥ Prod.fst (List.getD (Prod.snd (Prod.snd g)) (Int.toNat x) ((0 : Int), (0 : Int))))) < μ x x_1 x_2) (I (IntKind.wrap IntKind.i64 (x + (1 : Int))) (decide (IntKind.wrap IntKind.i64 (Prod.snd r_2 - Prod.fst r_1) ≤ Prod.snd (List.getD (Prod.snd (Prod.snd g)) (Int.toNat x) ((0 : Int), (0 : Int))))) false ∧ μ (IntKind.wrap IntKind.i64 (x + (1 : Int))) (decide (IntKind.wrap IntKind.i64 (Prod.snd r_2 - Prod.fst r_1) ≤ Prod.snd (List.getD (Prod.snd (Prod.snd g)) (Int.toNat x) ((0 : Int), (0 : Int))))) false < μ x x_1 x_2)) (I (IntKind.wrap IntKind.i64 (x + (1 : Int))) (decide (IntKind.wrap IntKind.i64 (Prod.snd r_2 - Prod.fst r_1) ≤ Prod.snd (List.getD (Prod.snd (Prod.snd g)) (Int.toNat x) ((0 : Int), (0 : Int))))) false ∧ μ (IntKind.wrap IntKind.i64 (x + (1 : Int))) (decide (IntKind.wrap IntKind.i64 (Prod.snd r_2 - Prod.fst r_1) ≤ Prod.snd (List.getD (Prod.snd (Prod.snd g)) (Int.toNat x) ((0 : Int), (0 : Int))))) false < μ x x_1 x_2)) (cnd x_2 (cnd (decide (IntKind.wrap IntKind.i64 (Prod.fst r_2 - Prod.snd r_1) ≤ Prod.snd (List.getD (Prod.snd (Prod.snd g)) (Int.toNat x) ((0 : Int), (0 : Int))))) (I (IntKind.wrap IntKind.i64 (x + (1 : Int))) false (decide (IntKind.wrap IntKind.i64 (Prod.snd r_2 - Prod.fst r_1) ≥ Prod.fst (List.getD (Prod.snd (Prod.snd g)) (Int.toNat x) ((0 : Int), (0 : Int))))) ∧ μ (IntKind.wrap IntKind.i64 (x + (1 : Int))) false (decide (IntKind.wrap IntKind.i64 (Prod.snd r_2 - Prod.fst r_1) ≥ Prod.fst (List.getD (Prod.snd (Prod.snd g)) (Int.toNat x) ((0 : Int), (0 : Int))))) < μ x x_1 x_2) (I (IntKind.wrap IntKind.i64 (x + (1 : Int))) false false ∧ μ (IntKind.wrap IntKind.i64 (x + (1 : Int))) false false < μ x x_1 x_2)) (I (IntKind.wrap IntKind.i64 (x + (1 : Int))) false false ∧ μ (IntKind.wrap IntKind.i64 (x + (1 : Int))) false false < μ x x_1 x_2))) (cnd x_2 (cnd (decide (IntKind.wrap IntKind.i64 (Prod.fst r_2 - Prod.snd r_1) ≤ Prod.snd (List.getD (Prod.snd (Prod.snd g)) (Int.toNat x) ((0 : Int), (0 : Int))))) (I (IntKind.wrap IntKind.i64 (x + (1 : Int))) false (decide (IntKind.wrap IntKind.i64 (Prod.snd r_2 - Prod.fst r_1) ≥ Prod.fst (List.getD (Prod.snd (Prod.snd g)) (Int.toNat x) ((0 : Int), (0 : Int))))) ∧ μ (IntKind.wrap IntKind.i64 (x + (1 : Int))) false (decide (IntKind.wrap IntKind.i64 (Prod.snd r_2 - Prod.fst r_1) ≥ Prod.fst (List.getD (Prod.snd (Prod.snd g)) (Int.toNat x) ((0 : Int), (0 : Int))))) < μ x x_1 x_2) (I (IntKind.wrap IntKind.i64 (x + (1 : Int))) false false ∧ μ (IntKind.wrap IntKind.i64 (x + (1 : Int))) false false < μ x x_1 x_2)) (I (IntKind.wrap IntKind.i64 (x + (1 : Int))) false false ∧ μ (IntKind.wrap IntKind.i64 (x + (1 : Int))) false false < μ x x_1 x_2))) (Q (x_1, x_2, (0 : Int), ())))
theorem v58 (g : List Int × List Int × List (Int × Int)) (x : List Int) (y : List Int) (Q : Bool × Bool × Int × Unit → Prop) : V58 g x y Q = vcFunc (S0 [(71, f71_ct), (77, f77_ct)] []) f58_ct.own f58_ct.fresh f58_an Tryd.f58 (bodyOf Tryd.f58) f58_ct.A f58_ct.C f58_ct.R (g, x, y, ()) () Q := by kernel_rfl

def V117 (f : List Int) (Q : List Int × Bool × Unit → Prop) : Prop := List.length f ≤ (9223372036854775807 : Nat) → ∃ (I : Int → List Int → Prop), ∃ (μ : Int → List Int → Nat), I (0 : Int) ([] : List Int) ∧ ∀ (x : Int) (x_1 : List Int), I x x_1 → cnd (decide (x < (↑(List.length f) : Int))) (List.length f ≤ (9223372036854775807 : Nat) → ∃ (I_1 : Int → List Int → Prop), ∃ (μ_1 : Int → List Int → Nat), I_1 (0 : Int) x_1 ∧ ∀ (x_2 : Int) (x_3 : List Int), I_1 x_2 x_3 → cnd (decide (x_2 < (↑(List.length f) : Int))) ((0 : Int) ≤ x_2 ∧ x_2 < (↑(List.length f) : Int) ∧ f114_wp (x_3, x_2, ()) () fun (r : Bool) ↦ cnd (!r) (cnd (List.getD f (Int.toNat x_2) (0 : Int) == (-1 : Int)) ((List.length x_3 + List.length (x_2 :: ([] : List Int))) * (8 : Nat) ≤ (140737488355328 : Nat) ∧ I_1 (IntKind.wrap IntKind.i64 (x_2 + (1 : Int))) (x_3 ++ x_2 :: ([] : List Int)) ∧ μ_1 (IntKind.wrap IntKind.i64 (x_2 + (1 : Int))) (x_3 ++ x_2 :: ([] : List Int)) < μ_1 x_2 x_3) (f114_wp (x_3, List.getD f (Int.toNat x_2) (0 : Int), ()) () fun (r : Bool) ↦ cnd r ((List.length x_3 + List.length (x_2 :: ([] : List Int))) * (8 : Nat) ≤ (140737488355328 : Nat) ∧ I_1 (IntKind.wrap IntKind.i64 (x_2 + (1 : Int))) (x_3 ++ x_2 :: ([] : List Int)) ∧ μ_1 (IntKind.wrap IntKind.i64 (x_2 + (1 : Int))) (x_3 ++ x_2 :: ([] : List Int)) < μ_1 x_2 x_3) (I_1 (IntKind.wrap IntKind.i64 (x_2 + (1 : Int))) x_3 ∧ μ_1 (IntKind.wrap IntKind.i64 (x_2 + (1 : Int))) x_3 < μ_1 x_2 x_3))) (I_1 (IntKind.wrap IntKind.i64 (x_2 + (1 : Int))) x_3 ∧ μ_1 (IntKind.wrap IntKind.i64 (x_2 + (1 : Int))) x_3 < μ_1 x_2 x_3)) (I (IntKind.wrap IntKind.i64 (x + (1 : Int))) x_3 ∧ μ (IntKind.wrap IntKind.i64 (x + (1 : Int))) x_3 < μ x x_1)) (List.length x_1 ≤ (9223372036854775807 : Nat) → List.length f ≤ (9223372036854775807 : Nat) → Q (x_1, (↑(List.length x_1) : Int) == (↑(List.length f) : Int), ()))
theorem v117 (f : List Int) (Q : List Int × Bool × Unit → Prop) : V117 f Q = vcFunc (S0 [(114, f114_ct)] []) f117_ct.own f117_ct.fresh f117_an Tryd.f117 (bodyOf Tryd.f117) f117_ct.A f117_ct.C f117_ct.R f () Q := by kernel_rfl

def V88 (l : List Int) (n : Int) (Q : Bool → Prop) : Prop := List.length l ≤ (9223372036854775807 : Nat) → cnd ((↑(List.length l) : Int) != n) (Q false) (f66_wp ((-1 : Int), IntKind.wrap IntKind.i64 (n - (1 : Int)), l, ()) () fun (r : Bool) ↦ cnd (!r) (Q false) (f117_wp l () fun (r : List Int × Bool × Unit) ↦ Q (Prod.fst (Prod.snd r))))
theorem v88 (l : List Int) (n : Int) (Q : Bool → Prop) : V88 l n Q = vcFunc (S0 [(66, f66_ct), (117, f117_ct)] []) f88_ct.own f88_ct.fresh no_an Tryd.f88 (bodyOf Tryd.f88) f88_ct.A f88_ct.C f88_ct.R (l, n, ()) () Q := by kernel_rfl

def V120 (f : List Int) (Q : Int → Prop) : Prop := List.length f ≤ (9223372036854775807 : Nat) → ∃ (I : Int → Int → Prop), ∃ (μ : Int → Int → Nat), I (0 : Int) (0 : Int) ∧ ∀ (x x_1 : Int), I x x_1 → cnd (decide (x < (↑(List.length f) : Int))) ((0 : Int) ≤ x ∧ x < (↑(List.length f) : Int) ∧ cnd (List.getD f (Int.toNat x) (0 : Int) == (-1 : Int)) (I (IntKind.wrap IntKind.i64 (x + (1 : Int))) (IntKind.wrap IntKind.i64 (x_1 + (1 : Int))) ∧ μ (IntKind.wrap IntKind.i64 (x + (1 : Int))) (IntKind.wrap IntKind.i64 (x_1 + (1 : Int))) < μ x x_1) (I (IntKind.wrap IntKind.i64 (x + (1 : Int))) x_1 ∧ μ (IntKind.wrap IntKind.i64 (x + (1 : Int))) x_1 < μ x x_1)) (Q x_1)
theorem v120 (f : List Int) (Q : Int → Prop) : V120 f Q = vcFunc (S0 [] []) f120_ct.own f120_ct.fresh f120_an Tryd.f120 (bodyOf Tryd.f120) f120_ct.A f120_ct.C f120_ct.R f () Q := by kernel_rfl

def V90 (b : (List Int × List Int × List (Int × Int)) × List (List Int)) (m : Int) (f : List Int) (wrong : List Int) (Q : Option (List (Int × Int)) → Prop) : Prop := f117_wp f () fun (r : List Int × Bool × Unit) ↦ (↑(List.length f) : Int) = (↑(List.length f) : Int) ∧ (0 : Int) ≤ (↑(List.length f) : Int) ∧ (↑(List.length f) : Int) * (↑(16 : Nat) : Int) ≤ (140737488355328 : Int) ∧ (0 : Int) ≤ m ∧ m < (↑(List.length (Prod.snd (Prod.snd (Prod.fst b)))) : Int) ∧ (List.length f ≤ (9223372036854775807 : Nat) → ∃ (I : Int → List (Int × Int) → Prop), ∃ (μ : Int → List (Int × Int) → Nat), I (0 : Int) (List.replicate (Int.toNat (↑(List.length f) : Int)) ((0 : Int), (0 : Int))) ∧ ∀ (x : Int) (x_1 : List (Int × Int)), I x x_1 → cnd (decide (x < (↑(List.length f) : Int))) (∃ (r : Int × Int), (f77_wp (((Prod.fst (Prod.fst b), Prod.fst (Prod.snd (Prod.fst b)), Prod.snd (Prod.snd (Prod.fst b))), Prod.snd b), m, x, ()) () fun (r' : Int × Int) ↦ r' = r) ∧ (0 : Int) ≤ x ∧ x < (↑(List.length x_1) : Int) ∧ f114_wp (wrong, x, ()) () fun (r_1 : Bool) ↦ cnd r_1 ((0 : Int) ≤ x ∧ x < (↑(List.length (List.set x_1 (Int.toNat x) (Prod.fst r, Prod.snd r))) : Int) ∧ I (IntKind.wrap IntKind.i64 (x + (1 : Int))) (List.set (List.set x_1 (Int.toNat x) (Prod.fst r, Prod.snd r)) (Int.toNat x) ((-1048576 : Int), (1048576 : Int))) ∧ μ (IntKind.wrap IntKind.i64 (x + (1 : Int))) (List.set (List.set x_1 (Int.toNat x) (Prod.fst r, Prod.snd r)) (Int.toNat x) ((-1048576 : Int), (1048576 : Int))) < μ x x_1) (I (IntKind.wrap IntKind.i64 (x + (1 : Int))) (List.set x_1 (Int.toNat x) (Prod.fst r, Prod.snd r)) ∧ μ (IntKind.wrap IntKind.i64 (x + (1 : Int))) (List.set x_1 (Int.toNat x) (Prod.fst r, Prod.snd r)) < μ x x_1)) (f118_wp (Prod.fst r) () fun (r_1 : Kd.T (Ct.R (Prod.snd ((118 : Nat), f118_ct)))) ↦ ∃ (I : List (Int × Int) → List (Int × Int) → Prop), I ([] : List (Int × Int)) x_1 ∧ (∀ (pre : List (Int × Int)) (x : Int × Int) (rest : List (Int × Int)), r_1 = pre ++ x :: rest → ∀ (x_2 : List (Int × Int)), I pre x_2 → (0 : Int) ≤ Prod.snd x ∧ Prod.snd x < (↑(List.length x_2) : Int) ∧ (0 : Int) ≤ Prod.snd x ∧ Prod.snd x < (↑(List.length x_2) : Int) ∧ cnd (decide (Prod.fst (List.getD x_2 (Int.toNat (Prod.snd x)) ((0 : Int), (0 : Int))) > Prod.snd (List.getD x_2 (Int.toNat (Prod.snd x)) ((0 : Int), (0 : Int))))) (Q none) ((0 : Int) ≤ Prod.snd x ∧ Prod.snd x < (↑(List.length f) : Int) ∧ cnd (List.getD f (Int.toNat (Prod.snd x)) (0 : Int) != (-1 : Int)) ((0 : Int) ≤ List.getD f (Int.toNat (Prod.snd x)) (0 : Int) ∧ List.getD f (Int.toNat (Prod.snd x)) (0 : Int) < (↑(List.length x_2) : Int) ∧ (0 : Int) ≤ Prod.snd x ∧ Prod.snd x < (↑(List.length x_2) : Int) ∧ (0 : Int) ≤ Prod.snd x ∧ Prod.snd x < (↑(List.length x_2) : Int) ∧ ∃ (r : Int × Int), (f108_wp ((Prod.fst (List.getD x_2 (Int.toNat (List.getD f (Int.toNat (Prod.snd x)) (0 : Int))) ((0 : Int), (0 : Int))), Prod.snd (List.getD x_2 (Int.toNat (List.getD f (Int.toNat (Prod.snd x)) (0 : Int))) ((0 : Int), (0 : Int)))), (IntKind.wrap IntKind.i64 (Prod.fst (List.getD x_2 (Int.toNat (Prod.snd x)) ((0 : Int), (0 : Int))) - Prod.snd (List.getD (Prod.snd (Prod.snd (Prod.fst b))) (Int.toNat m) ((0 : Int), (0 : Int)))), IntKind.wrap IntKind.i64 (Prod.snd (List.getD x_2 (Int.toNat (Prod.snd x)) ((0 : Int), (0 : Int))) - Prod.fst (List.getD (Prod.snd (Prod.snd (Prod.fst b))) (Int.toNat m) ((0 : Int), (0 : Int))))), ()) () fun (r' : Int × Int) ↦ r' = r) ∧ (0 : Int) ≤ List.getD f (Int.toNat (Prod.snd x)) (0 : Int) ∧ List.getD f (Int.toNat (Prod.snd x)) (0 : Int) < (↑(List.length x_2) : Int) ∧ I (pre ++ x :: ([] : List (Int × Int))) (List.set x_2 (Int.toNat (List.getD f (Int.toNat (Prod.snd x)) (0 : Int))) (Prod.fst r, Prod.snd r))) (I (pre ++ x :: ([] : List (Int × Int))) x_2))) ∧ ∀ (x : List (Int × Int)), I r_1 x → List.length (Prod.fst r) ≤ (9223372036854775807 : Nat) → ∃ (I : Int → List (Int × Int) → Prop), ∃ (μ : Int → List (Int × Int) → Nat), I (0 : Int) x ∧ ∀ (x : Int) (x_2 : List (Int × Int)), I x x_2 → cnd (decide (x < (↑(List.length (Prod.fst r)) : Int))) ((0 : Int) ≤ x ∧ x < (↑(List.length (Prod.fst r)) : Int) ∧ (0 : Int) ≤ List.getD (Prod.fst r) (Int.toNat x) (0 : Int) ∧ List.getD (Prod.fst r) (Int.toNat x) (0 : Int) < (↑(List.length f) : Int) ∧ cnd (List.getD f (Int.toNat (List.getD (Prod.fst r) (Int.toNat x) (0 : Int))) (0 : Int) != (-1 : Int)) ((0 : Int) ≤ List.getD (Prod.fst r) (Int.toNat x) (0 : Int) ∧ List.getD (Prod.fst r) (Int.toNat x) (0 : Int) < (↑(List.length x_2) : Int) ∧ (0 : Int) ≤ List.getD f (Int.toNat (List.getD (Prod.fst r) (Int.toNat x) (0 : Int))) (0 : Int) ∧ List.getD f (Int.toNat (List.getD (Prod.fst r) (Int.toNat x) (0 : Int))) (0 : Int) < (↑(List.length x_2) : Int) ∧ (0 : Int) ≤ List.getD f (Int.toNat (List.getD (Prod.fst r) (Int.toNat x) (0 : Int))) (0 : Int) ∧ List.getD f (Int.toNat (List.getD (Prod.fst r) (Int.toNat x) (0 : Int))) (0 : Int) < (↑(List.length x_2) : Int) ∧ ∃ (r_2 : Int × Int), (f108_wp ((Prod.fst (List.getD x_2 (Int.toNat (List.getD (Prod.fst r) (Int.toNat x) (0 : Int))) ((0 : Int), (0 : Int))), Prod.snd (List.getD x_2 (Int.toNat (List.getD (Prod.fst r) (Int.toNat x) (0 : Int))) ((0 : Int), (0 : Int)))), (IntKind.wrap IntKind.i64 (Prod.fst (List.getD x_2 (Int.toNat (List.getD f (Int.toNat (List.getD (Prod.fst r) (Int.toNat x) (0 : Int))) (0 : Int))) ((0 : Int), (0 : Int))) + Prod.fst (List.getD (Prod.snd (Prod.snd (Prod.fst b))) (Int.toNat m) ((0 : Int), (0 : Int)))), IntKind.wrap IntKind.i64 (Prod.snd (List.getD x_2 (Int.toNat (List.getD f (Int.toNat (List.getD (Prod.fst r) (Int.toNat x) (0 : Int))) (0 : Int))) ((0 : Int), (0 : Int))) + Prod.snd (List.getD (Prod.snd (Prod.snd (Prod.fst b))) (Int.toNat m) ((0 : Int), (0 : Int))))), ()) () fun (r' : Int × Int) ↦ r' = r_2) ∧ (0 : Int) ≤ List.getD (Prod.fst r) (Int.toNat x) (0 : Int) ∧ List.getD (Prod.fst r) (Int.toNat x) (0 : Int) < (↑(List.length x_2) : Int) ∧ I (IntKind.wrap IntKind.i64 (x + (1 : Int))) (List.set x_2 (Int.toNat (List.getD (Prod.fst r) (Int.toNat x) (0 : Int))) (Prod.fst r_2, Prod.snd r_2)) ∧ μ (IntKind.wrap IntKind.i64 (x + (1 : Int))) (List.set x_2 (Int.toNat (List.getD (Prod.fst r) (Int.toNat x) (0 : Int))) (Prod.fst r_2, Prod.snd r_2)) < μ x x_2) (I (IntKind.wrap IntKind.i64 (x + (1 : Int))) x_2 ∧ μ (IntKind.wrap IntKind.i64 (x + (1 : Int))) x_2 < μ x x_2)) (Q (some x_2))))
theorem v90 (b : (List Int × List Int × List (Int × Int)) × List (List Int)) (m : Int) (f : List Int) (wrong : List Int) (Q : Option (List (Int × Int)) → Prop) : V90 b m f wrong Q = vcFunc (S0 [(117, f117_ct), (114, f114_ct), (77, f77_ct), (108, f108_ct), (118, f118_ct)] []) f90_ct.own f90_ct.fresh f90_an Tryd.f90 (bodyOf Tryd.f90) f90_ct.A f90_ct.C f90_ct.R (b, m, f, wrong, ()) () Q := by kernel_rfl

def V89 (b : (List Int × List Int × List (Int × Int)) × List (List Int)) (f : List Int) (Q : Bool → Prop) : Prop := List.length (Prod.fst (Prod.fst b)) ≤ (9223372036854775807 : Nat) → ∃ (I : Int → Prop), ∃ (μ : Int → Nat), I (0 : Int) ∧ ∀ (x : Int), I x → cnd (decide (x < (↑(List.length (Prod.fst (Prod.fst b))) : Int))) (f90_wp (((Prod.fst (Prod.fst b), Prod.fst (Prod.snd (Prod.fst b)), Prod.snd (Prod.snd (Prod.fst b))), Prod.snd b), x, f, ([] : List Int), ()) () fun (r : Option (List (Int × Int))) ↦ cnd (Option.isNone r) (List.length f ≤ (9223372036854775807 : Nat) → cnd (decide ((↑(List.length f) : Int) > (0 : Int))) (Q false) (I (IntKind.wrap IntKind.i64 (x + (1 : Int))) ∧ μ (IntKind.wrap IntKind.i64 (x + (1 : Int))) < μ x)) (I (IntKind.wrap IntKind.i64 (x + (1 : Int))) ∧ μ (IntKind.wrap IntKind.i64 (x + (1 : Int))) < μ x)) (Q true)
theorem v89 (b : (List Int × List Int × List (Int × Int)) × List (List Int)) (f : List Int) (Q : Bool → Prop) : V89 b f Q = vcFunc (S0 [(90, f90_ct)] []) f89_ct.own f89_ct.fresh f89_an Tryd.f89 (bodyOf Tryd.f89) f89_ct.A f89_ct.C f89_ct.R (b, f, ()) () Q := by kernel_rfl

def V95 (b : (List Int × List Int × List (Int × Int)) × List (List Int)) (Q : List (List Int) → Prop) : Prop := List.length (Prod.snd b) ≤ (9223372036854775807 : Nat) → List.length (Prod.snd b) ≤ (9223372036854775807 : Nat) → f119_wp (↑(List.length (Prod.snd b)) : Int) () fun (r : Kd.T (Ct.R (Prod.snd ((119 : Nat), f119_ct)))) ↦ ∃ (I : List (List Int) → List (List Int) → Int → Prop), I ([] : List (List Int)) ([] : List (List Int)) (IntKind.wrap IntKind.i64 ((↑(List.length (Prod.snd b)) : Int) + (1 : Int))) ∧ (∀ (pre : List (List Int)) (x : List Int) (rest : List (List Int)), r = pre ++ x :: rest → ∀ (x_1 : List (List Int)) (x_2 : Int), I pre x_1 x_2 → f120_wp x () fun (r : Int) ↦ cnd (decide (r > x_2)) (I (pre ++ x :: ([] : List (List Int))) x_1 x_2) (f89_wp (((Prod.fst (Prod.fst b), Prod.fst (Prod.snd (Prod.fst b)), Prod.snd (Prod.snd (Prod.fst b))), Prod.snd b), x, ()) () fun (r_1 : Bool) ↦ cnd (!r_1) (I (pre ++ x :: ([] : List (List Int))) x_1 x_2) (cnd (decide (r < x_2)) (∃ (r_2 : List Int), (f121_wp x () fun (r' : List Int) ↦ r' = r_2) ∧ List.length (r_2 :: ([] : List (List Int))) * (24 : Nat) ≤ (140737488355328 : Nat) ∧ I (pre ++ x :: ([] : List (List Int))) (r_2 :: ([] : List (List Int))) r) (∃ (r : List Int), (f121_wp x () fun (r' : List Int) ↦ r' = r) ∧ (List.length x_1 + List.length (r :: ([] : List (List Int)))) * (24 : Nat) ≤ (140737488355328 : Nat) ∧ I (pre ++ x :: ([] : List (List Int))) (x_1 ++ r :: ([] : List (List Int))) x_2)))) ∧ ∀ (x : List (List Int)) (x_1 : Int), I r x x_1 → Q x
theorem v95 (b : (List Int × List Int × List (Int × Int)) × List (List Int)) (Q : List (List Int) → Prop) : V95 b Q = vcFunc (S0 [(119, f119_ct), (120, f120_ct), (89, f89_ct), (121, f121_ct)] []) f95_ct.own f95_ct.fresh f95_an Tryd.f95 (bodyOf Tryd.f95) f95_ct.A f95_ct.C f95_ct.R b () Q := by kernel_rfl

def V54 (g : List Int × List Int × List (Int × Int)) (fs : List (List Int)) (Q : Int × List Int × Int × Unit → Prop) : Prop := f71_wp ((Prod.fst g, Prod.fst (Prod.snd g), Prod.snd (Prod.snd g)), fs, ()) () fun (r : ((List Int × List Int × List (Int × Int)) × List (List Int)) × Int × Unit) ↦ cnd (Prod.fst (Prod.snd r) != (0 : Int)) (Q ((0 : Int), ([] : List Int), Prod.fst (Prod.snd r), ())) (f95_wp ((Prod.fst (Prod.fst (Prod.fst r)), Prod.fst (Prod.snd (Prod.fst (Prod.fst r))), Prod.snd (Prod.snd (Prod.fst (Prod.fst r)))), Prod.snd (Prod.fst r)) () fun (r : List (List Int)) ↦ (0 : Int) ≤ (0 : Int) ∧ (0 : Int) < (↑(List.length r) : Int) ∧ Q ((↑(List.length r) : Int), List.getD r (Int.toNat (0 : Int)) ([] : List Int), (0 : Int), ()))
theorem v54 (g : List Int × List Int × List (Int × Int)) (fs : List (List Int)) (Q : Int × List Int × Int × Unit → Prop) : V54 g fs Q = vcFunc (S0 [(71, f71_ct), (95, f95_ct)] []) f54_ct.own f54_ct.fresh no_an Tryd.f54 (bodyOf Tryd.f54) f54_ct.A f54_ct.C f54_ct.R (g, fs, ()) () Q := by kernel_rfl

def V99 (f : List Int) (n : Int) (Q : Bool → Prop) : Prop := (0 : Int) ≤ n ∧ n < (↑(List.length f) : Int) ∧ Q (List.getD f (Int.toNat n) (0 : Int) == (-1 : Int))
theorem v99 (f : List Int) (n : Int) (Q : Bool → Prop) : V99 f n Q = vcFunc (S0 [] []) f99_ct.own f99_ct.fresh no_an Tryd.f99 (bodyOf Tryd.f99) f99_ct.A f99_ct.C f99_ct.R f (n, ()) Q := by kernel_rfl

def V101 (f : List Int) (is : List Int → (Bool → Prop) → Prop) (Q : Bool → Prop) : Prop := Prod.fst (is, ()) f fun (r : Bool) ↦ Q !r
theorem v101 (f : List Int) (is : List Int → (Bool → Prop) → Prop) (Q : Bool → Prop) : V101 f is Q = vcFunc (S0 [] []) f101_ct.own f101_ct.fresh no_an Tryd.f101 (bodyOf Tryd.f101) f101_ct.A f101_ct.C f101_ct.R f (is, ()) Q := by kernel_rfl

def V60 (g : List Int × List Int × List (Int × Int)) (fs : List (List Int)) (Q : List Int × List Int × Int × Unit → Prop) : Prop := f71_wp ((Prod.fst g, Prod.fst (Prod.snd g), Prod.snd (Prod.snd g)), fs, ()) () fun (r : ((List Int × List Int × List (Int × Int)) × List (List Int)) × Int × Unit) ↦ cnd (Prod.fst (Prod.snd r) != (0 : Int)) (Q (([] : List Int), ([] : List Int), Prod.fst (Prod.snd r), ())) (f95_wp ((Prod.fst (Prod.fst (Prod.fst r)), Prod.fst (Prod.snd (Prod.fst (Prod.fst r))), Prod.snd (Prod.snd (Prod.fst (Prod.fst r)))), Prod.snd (Prod.fst r)) () fun (r : List (List Int)) ↦ List.length fs ≤ (9223372036854775807 : Nat) → ∃ (I : Int → List Int → List Int → Prop), ∃ (μ : Int → List Int → List Int → Nat), I (0 : Int) ([] : List Int) ([] : List Int) ∧ ∀ (x : Int) (x_1 x_2 : List Int), I x x_1 x_2 → cnd (decide (x < (↑(List.length fs) : Int))) (f100_wp (r, fun (x_3 : List Int) (Q : Bool → Prop) ↦ f99_wp x_3 (x, ()) fun (r : Bool) ↦ Q r, ()) () fun (r_1 : Bool) ↦ cnd r_1 ((List.length x_1 + List.length (x :: ([] : List Int))) * (8 : Nat) ≤ (140737488355328 : Nat) ∧ f100_wp (r, fun (x_3 : List Int) (Q : Bool → Prop) ↦ f101_wp x_3 (fun (x_4 : List Int) (Q : Bool → Prop) ↦ f99_wp x_4 (x, ()) fun (r : Bool) ↦ Q r, ()) fun (r : Bool) ↦ Q r, ()) () fun (r : Bool) ↦ cnd (!r) ((List.length x_2 + List.length (x :: ([] : List Int))) * (8 : Nat) ≤ (140737488355328 : Nat) ∧ I (IntKind.wrap IntKind.i64 (x + (1 : Int))) (x_1 ++ x :: ([] : List Int)) (x_2 ++ x :: ([] : List Int)) ∧ μ (IntKind.wrap IntKind.i64 (x + (1 : Int))) (x_1 ++ x :: ([] : List Int)) (x_2 ++ x :: ([] : List Int)) < μ x x_1 x_2) (I (IntKind.wrap IntKind.i64 (x + (1 : Int))) (x_1 ++ x :: ([] : List Int)) x_2 ∧ μ (IntKind.wrap IntKind.i64 (x + (1 : Int))) (x_1 ++ x :: ([] : List Int)) x_2 < μ x x_1 x_2)) (f100_wp (r, fun (x_3 : List Int) (Q : Bool → Prop) ↦ f101_wp x_3 (fun (x_4 : List Int) (Q : Bool → Prop) ↦ f99_wp x_4 (x, ()) fun (r : Bool) ↦ Q r, ()) fun (r : Bool) ↦ Q r, ()) () fun (r : Bool) ↦ cnd (!r) ((List.length x_2 + List.length (x :: ([] : List Int))) * (8 : Nat) ≤ (140737488355328 : Nat) ∧ I (IntKind.wrap IntKind.i64 (x + (1 : Int))) x_1 (x_2 ++ x :: ([] : List Int)) ∧ μ (IntKind.wrap IntKind.i64 (x + (1 : Int))) x_1 (x_2 ++ x :: ([] : List Int)) < μ x x_1 x_2) (I (IntKind.wrap IntKind.i64 (x + (1 : Int))) x_1 x_2 ∧ μ (IntKind.wrap IntKind.i64 (x + (1 : Int))) x_1 x_2 < μ x x_1 x_2))) (Q (x_2, x_1, (0 : Int), ())))
theorem v60 (g : List Int × List Int × List (Int × Int)) (fs : List (List Int)) (Q : List Int × List Int × Int × Unit → Prop) : V60 g fs Q = vcFunc (S0 [(71, f71_ct), (95, f95_ct), (99, f99_ct), (100, f100_ct), (101, f101_ct)] []) f60_ct.own f60_ct.fresh f60_an Tryd.f60 (bodyOf Tryd.f60) f60_ct.A f60_ct.C f60_ct.R (g, fs, ()) () Q := by kernel_rfl

def V29 (g : List Int × List Int × List (Int × Int)) (fs : List (List Int)) (Q : List Int × Int × Unit → Prop) : Prop := f71_wp ((Prod.fst g, Prod.fst (Prod.snd g), Prod.snd (Prod.snd g)), fs, ()) () fun (r : ((List Int × List Int × List (Int × Int)) × List (List Int)) × Int × Unit) ↦ cnd (Prod.fst (Prod.snd r) != (0 : Int)) (Q (([] : List Int), Prod.fst (Prod.snd r), ())) (List.length fs ≤ (9223372036854775807 : Nat) → f79_wp (↑(List.length fs) : Int) () fun (r_1 : Kd.T (Ct.R (Prod.snd ((79 : Nat), f79_ct)))) ↦ ∃ (I : List (List Int) → List Int → Prop), I ([] : List (List Int)) ([] : List Int) ∧ (∀ (pre : List (List Int)) (x : List Int) (rest : List (List Int)), r_1 = pre ++ x :: rest → ∀ (x_1 : List Int), I pre x_1 → cnd (decide ((↑(List.length x) : Int) > (↑(List.length x_1) : Int))) (∃ (r_2 : Bool), (f78_wp (((Prod.fst (Prod.fst (Prod.fst r)), Prod.fst (Prod.snd (Prod.fst (Prod.fst r))), Prod.snd (Prod.snd (Prod.fst (Prod.fst r)))), Prod.snd (Prod.fst r)), fun (x_2 : Int) (Q : Bool → Prop) ↦ f113_wp x_2 (x, ()) fun (r : Bool) ↦ Q r, ()) () fun (r' : Bool) ↦ r' = r_2) ∧ cnd r_2 (f81_wp x () fun (r : List Int) ↦ I (pre ++ x :: ([] : List (List Int))) r) (I (pre ++ x :: ([] : List (List Int))) x_1)) (I (pre ++ x :: ([] : List (List Int))) x_1)) ∧ ∀ (x : List Int), I r_1 x → Q (x, (0 : Int), ()))
theorem v29 (g : List Int × List Int × List (Int × Int)) (fs : List (List Int)) (Q : List Int × Int × Unit → Prop) : V29 g fs Q = vcFunc (S0 [(71, f71_ct), (78, f78_ct), (79, f79_ct), (81, f81_ct), (113, f113_ct)] []) f29_ct.own f29_ct.fresh f29_an Tryd.f29 (bodyOf Tryd.f29) f29_ct.A f29_ct.C f29_ct.R (g, fs, ()) () Q := by kernel_rfl

def V84 (b : (List Int × List Int × List (Int × Int)) × List (List Int)) (is : Int × List Int × Unit → (Bool → Prop) → Prop) (Q : List (Int × Int) → Prop) : Prop := List.length (Prod.fst (Prod.fst b)) ≤ (9223372036854775807 : Nat) → ∃ (I : Int → List (Int × Int) → Prop), ∃ (μ : Int → List (Int × Int) → Nat), I (0 : Int) ([] : List (Int × Int)) ∧ ∀ (x : Int) (x_1 : List (Int × Int)), I x x_1 → cnd (decide (x < (↑(List.length (Prod.fst (Prod.fst b))) : Int))) (List.length (Prod.snd b) ≤ (9223372036854775807 : Nat) → f79_wp (↑(List.length (Prod.snd b)) : Int) () fun (r : Kd.T (Ct.R (Prod.snd ((79 : Nat), f79_ct)))) ↦ ∃ (I_1 : List (List Int) → List (Int × Int) → Prop), I_1 ([] : List (List Int)) x_1 ∧ (∀ (pre : List (List Int)) (x_2 : List Int) (rest : List (List Int)), r = pre ++ x_2 :: rest → ∀ (x_3 : List (Int × Int)), I_1 pre x_3 → Prod.fst (is, ()) (x, x_2, ()) fun (r : Bool) ↦ cnd (!r) (I_1 (pre ++ x_2 :: ([] : List (List Int))) x_3) (List.length x_2 ≤ (9223372036854775807 : Nat) → ∃ (I_2 : Int → List (Int × Int) → Prop), ∃ (μ_1 : Int → List (Int × Int) → Nat), I_2 (0 : Int) x_3 ∧ ∀ (x_4 : Int) (x_5 : List (Int × Int)), I_2 x_4 x_5 → cnd (decide (x_4 < (↑(List.length x_2) : Int))) ((0 : Int) ≤ x_4 ∧ x_4 < (↑(List.length x_2) : Int) ∧ (List.length x_5 + List.length ((x, List.getD x_2 (Int.toNat x_4) (0 : Int)) :: ([] : List (Int × Int)))) * (16 : Nat) ≤ (140737488355328 : Nat) ∧ I_2 (IntKind.wrap IntKind.i64 (x_4 + (1 : Int))) (x_5 ++ (x, List.getD x_2 (Int.toNat x_4) (0 : Int)) :: ([] : List (Int × Int))) ∧ μ_1 (IntKind.wrap IntKind.i64 (x_4 + (1 : Int))) (x_5 ++ (x, List.getD x_2 (Int.toNat x_4) (0 : Int)) :: ([] : List (Int × Int))) < μ_1 x_4 x_5) (I (IntKind.wrap IntKind.i64 (x + (1 : Int))) x_5 ∧ μ (IntKind.wrap IntKind.i64 (x + (1 : Int))) x_5 < μ x x_1))) ∧ ∀ (x_2 : List (Int × Int)), I_1 r x_2 → I (IntKind.wrap IntKind.i64 (x + (1 : Int))) x_2 ∧ μ (IntKind.wrap IntKind.i64 (x + (1 : Int))) x_2 < μ x x_1) (Q x_1)
theorem v84 (b : (List Int × List Int × List (Int × Int)) × List (List Int)) (is : Int × List Int × Unit → (Bool → Prop) → Prop) (Q : List (Int × Int) → Prop) : V84 b is Q = vcFunc (S0 [(79, f79_ct)] []) f84_ct.own f84_ct.fresh f84_an Tryd.f84 (bodyOf Tryd.f84) f84_ct.A f84_ct.C f84_ct.R (b, is, ()) () Q := by kernel_rfl

def V85 (m : Int) (s : List Int) (b : (List Int × List Int × List (Int × Int)) × List (List Int)) (Q : Bool → Prop) : Prop := ∃ (r : Int × Int), (f72_wp (((Prod.fst (Prod.fst b), Prod.fst (Prod.snd (Prod.fst b)), Prod.snd (Prod.snd (Prod.fst b))), Prod.snd b), m, fun (x : Int) (Q : Bool → Prop) ↦ f116_wp x (s, ()) fun (r : Bool) ↦ Q r, ()) () fun (r' : Int × Int) ↦ r' = r) ∧ Q (decide (Prod.fst r ≤ Prod.snd r))
theorem v85 (m : Int) (s : List Int) (b : (List Int × List Int × List (Int × Int)) × List (List Int)) (Q : Bool → Prop) : V85 m s b Q = vcFunc (S0 [(72, f72_ct), (116, f116_ct)] []) f85_ct.own f85_ct.fresh no_an Tryd.f85 (bodyOf Tryd.f85) f85_ct.A f85_ct.C f85_ct.R (m, s, ()) (b, ()) Q := by kernel_rfl

def V34 (g : List Int × List Int × List (Int × Int)) (fs : List (List Int)) (Q : List (Int × Int) × Int × Unit → Prop) : Prop := f71_wp ((Prod.fst g, Prod.fst (Prod.snd g), Prod.snd (Prod.snd g)), fs, ()) () fun (r : ((List Int × List Int × List (Int × Int)) × List (List Int)) × Int × Unit) ↦ cnd (Prod.fst (Prod.snd r) != (0 : Int)) (Q (([] : List (Int × Int)), Prod.fst (Prod.snd r), ())) (f84_wp (((Prod.fst (Prod.fst (Prod.fst r)), Prod.fst (Prod.snd (Prod.fst (Prod.fst r))), Prod.snd (Prod.snd (Prod.fst (Prod.fst r)))), Prod.snd (Prod.fst r)), fun (x : Int × List Int × Unit) (Q : Bool → Prop) ↦ f85_wp x (((Prod.fst (Prod.fst (Prod.fst r)), Prod.fst (Prod.snd (Prod.fst (Prod.fst r))), Prod.snd (Prod.snd (Prod.fst (Prod.fst r)))), Prod.snd (Prod.fst r)), ()) fun (r : Bool) ↦ Q r, ()) () fun (r : List (Int × Int)) ↦ List.length r ≤ (9223372036854775807 : Nat) → cnd ((↑(List.length r) : Int) == (0 : Int)) (Q (([] : List (Int × Int)), (6 : Int), ())) (Q (r, (0 : Int), ())))
theorem v34 (g : List Int × List Int × List (Int × Int)) (fs : List (List Int)) (Q : List (Int × Int) × Int × Unit → Prop) : V34 g fs Q = vcFunc (S0 [(71, f71_ct), (84, f84_ct), (85, f85_ct)] []) f34_ct.own f34_ct.fresh no_an Tryd.f34 (bodyOf Tryd.f34) f34_ct.A f34_ct.C f34_ct.R (g, fs, ()) () Q := by kernel_rfl

def V94 (m : Int) (s : List Int) (f : List Int) (b : (List Int × List Int × List (Int × Int)) × List (List Int)) (Q : Bool → Prop) : Prop := List.length f ≤ (9223372036854775807 : Nat) → cnd ((↑(List.length f) : Int) == (0 : Int)) (Q true) (f90_wp (((Prod.fst (Prod.fst b), Prod.fst (Prod.snd (Prod.fst b)), Prod.snd (Prod.snd (Prod.fst b))), Prod.snd b), m, f, s, ()) () fun (r : Option (List (Int × Int))) ↦ Q !Option.isNone r)
theorem v94 (m : Int) (s : List Int) (f : List Int) (b : (List Int × List Int × List (Int × Int)) × List (List Int)) (Q : Bool → Prop) : V94 m s f b Q = vcFunc (S0 [(90, f90_ct)] []) f94_ct.own f94_ct.fresh no_an Tryd.f94 (bodyOf Tryd.f94) f94_ct.A f94_ct.C f94_ct.R (m, s, ()) (f, b, ()) Q := by kernel_rfl

def V41 (g : List Int × List Int × List (Int × Int)) (fs : List (List Int)) (f : List Int) (Q : List (Int × Int) × Int × Unit → Prop) : Prop := f71_wp ((Prod.fst g, Prod.fst (Prod.snd g), Prod.snd (Prod.snd g)), fs, ()) () fun (r : ((List Int × List Int × List (Int × Int)) × List (List Int)) × Int × Unit) ↦ cnd (Prod.fst (Prod.snd r) != (0 : Int)) (Q (([] : List (Int × Int)), Prod.fst (Prod.snd r), ())) (List.length fs ≤ (9223372036854775807 : Nat) → f88_wp (f, (↑(List.length fs) : Int), ()) () fun (r_1 : Bool) ↦ cnd (!r_1) (Q (([] : List (Int × Int)), (6 : Int), ())) (f84_wp (((Prod.fst (Prod.fst (Prod.fst r)), Prod.fst (Prod.snd (Prod.fst (Prod.fst r))), Prod.snd (Prod.snd (Prod.fst (Prod.fst r)))), Prod.snd (Prod.fst r)), fun (x : Int × List Int × Unit) (Q : Bool → Prop) ↦ f94_wp x (f, ((Prod.fst (Prod.fst (Prod.fst r)), Prod.fst (Prod.snd (Prod.fst (Prod.fst r))), Prod.snd (Prod.snd (Prod.fst (Prod.fst r)))), Prod.snd (Prod.fst r)), ()) fun (r : Bool) ↦ Q r, ()) () fun (r : List (Int × Int)) ↦ Q (r, (0 : Int), ())))
theorem v41 (g : List Int × List Int × List (Int × Int)) (fs : List (List Int)) (f : List Int) (Q : List (Int × Int) × Int × Unit → Prop) : V41 g fs f Q = vcFunc (S0 [(71, f71_ct), (88, f88_ct), (84, f84_ct), (94, f94_ct)] []) f41_ct.own f41_ct.fresh no_an Tryd.f41 (bodyOf Tryd.f41) f41_ct.A f41_ct.C f41_ct.R (g, fs, f, ()) () Q := by kernel_rfl

def V37 (g : List Int × List Int × List (Int × Int)) (fs : List (List Int)) (f : List Int) (Q : List (List (Int × Int)) × Int × Unit → Prop) : Prop := f71_wp ((Prod.fst g, Prod.fst (Prod.snd g), Prod.snd (Prod.snd g)), fs, ()) () fun (r : ((List Int × List Int × List (Int × Int)) × List (List Int)) × Int × Unit) ↦ cnd (Prod.fst (Prod.snd r) != (0 : Int)) (Q (([] : List (List (Int × Int))), Prod.fst (Prod.snd r), ())) (List.length fs ≤ (9223372036854775807 : Nat) → f88_wp (f, (↑(List.length fs) : Int), ()) () fun (r_1 : Bool) ↦ cnd (!r_1) (Q (([] : List (List (Int × Int))), (6 : Int), ())) (f89_wp (((Prod.fst (Prod.fst (Prod.fst r)), Prod.fst (Prod.snd (Prod.fst (Prod.fst r))), Prod.snd (Prod.snd (Prod.fst (Prod.fst r)))), Prod.snd (Prod.fst r)), f, ()) () fun (r_2 : Bool) ↦ cnd (!r_2) (Q (([] : List (List (Int × Int))), (9 : Int), ())) (List.length fs ≤ (9223372036854775807 : Nat) → ∃ (I : Int → List (List (Int × Int)) → Prop), ∃ (μ : Int → List (List (Int × Int)) → Nat), I (0 : Int) ([] : List (List (Int × Int))) ∧ ∀ (x : Int) (x_1 : List (List (Int × Int))), I x x_1 → cnd (decide (x < (↑(List.length fs) : Int))) ((List.length x_1 + List.length (([] : List (Int × Int)) :: ([] : List (List (Int × Int))))) * (24 : Nat) ≤ (140737488355328 : Nat) ∧ List.length (([] : List (Int × Int)) :: ([] : List (List (Int × Int)))) ≠ (0 : Nat) ∧ I (IntKind.wrap IntKind.i64 (x + (1 : Int))) (List.map (fun (xs : List (Int × Int)) ↦ xs) (List.map (fun (xs : List (Int × Int)) ↦ xs) x_1 ++ ([] : List (Int × Int)) :: ([] : List (List (Int × Int))))) ∧ μ (IntKind.wrap IntKind.i64 (x + (1 : Int))) (List.map (fun (xs : List (Int × Int)) ↦ xs) (List.map (fun (xs : List (Int × Int)) ↦ xs) x_1 ++ ([] : List (Int × Int)) :: ([] : List (List (Int × Int))))) < μ x x_1) (List.length (Prod.fst g) ≤ (9223372036854775807 : Nat) → ∃ (I : Int → List (List (Int × Int)) → Prop), ∃ (μ : Int → List (List (Int × Int)) → Nat), I (0 : Int) (List.map (fun (xs : List (Int × Int)) ↦ xs) x_1) ∧ ∀ (x : Int) (x_2 : List (List (Int × Int))), I x x_2 → cnd (decide (x < (↑(List.length (Prod.fst g)) : Int))) (f90_wp (((Prod.fst (Prod.fst (Prod.fst r)), Prod.fst (Prod.snd (Prod.fst (Prod.fst r))), Prod.snd (Prod.snd (Prod.fst (Prod.fst r)))), Prod.snd (Prod.fst r)), x, f, ([] : List Int), ()) () fun (r : Option (List (Int × Int))) ↦ List.length (Option.getD r ([] : List (Int × Int))) ≤ (9223372036854775807 : Nat) → ∃ (I_1 : Int → List (List (Int × Int)) → Prop), ∃ (μ_1 : Int → List (List (Int × Int)) → Nat), I_1 (0 : Int) (List.map (fun (xs : List (Int × Int)) ↦ xs) x_2) ∧ ∀ (x_3 : Int) (x_4 : List (List (Int × Int))), I_1 x_3 x_4 → cnd (decide (x_3 < (↑(List.length (Option.getD r ([] : List (Int × Int)))) : Int))) ((0 : Int) ≤ x_3 ∧ x_3 < (↑(List.length (Option.getD r ([] : List (Int × Int)))) : Int) ∧ (0 : Int) ≤ x_3 ∧ x_3 < (↑(List.length x_4) : Int) ∧ (List.length (List.getD x_4 (Int.toNat x_3) ([] : List (Int × Int))) + List.length ((Prod.fst (List.getD (Option.getD r ([] : List (Int × Int))) (Int.toNat x_3) ((0 : Int), (0 : Int))), Prod.snd (List.getD (Option.getD r ([] : List (Int × Int))) (Int.toNat x_3) ((0 : Int), (0 : Int)))) :: ([] : List (Int × Int)))) * (16 : Nat) ≤ (140737488355328 : Nat) ∧ (0 : Int) ≤ x_3 ∧ x_3 < (↑(List.length x_4) : Int) ∧ Int.toNat x_3 = Int.toNat x_3 ∧ I_1 (IntKind.wrap IntKind.i64 (x_3 + (1 : Int))) (List.map (fun (xs : List (Int × Int)) ↦ xs) (List.set x_4 (Int.toNat x_3) (List.getD ((List.getD x_4 (Int.toNat x_3) ([] : List (Int × Int)) ++ (Prod.fst (List.getD (Option.getD r ([] : List (Int × Int))) (Int.toNat x_3) ((0 : Int), (0 : Int))), Prod.snd (List.getD (Option.getD r ([] : List (Int × Int))) (Int.toNat x_3) ((0 : Int), (0 : Int)))) :: ([] : List (Int × Int))) :: ([] : List (List (Int × Int)))) (0 : Nat) ([] : List (Int × Int))))) ∧ μ_1 (IntKind.wrap IntKind.i64 (x_3 + (1 : Int))) (List.map (fun (xs : List (Int × Int)) ↦ xs) (List.set x_4 (Int.toNat x_3) (List.getD ((List.getD x_4 (Int.toNat x_3) ([] : List (Int × Int)) ++ (Prod.fst (List.getD (Option.getD r ([] : List (Int × Int))) (Int.toNat x_3) ((0 : Int), (0 : Int))), Prod.snd (List.getD (Option.getD r ([] : List (Int × Int))) (Int.toNat x_3) ((0 : Int), (0 : Int)))) :: ([] : List (Int × Int))) :: ([] : List (List (Int × Int)))) (0 : Nat) ([] : List (Int × Int))))) < μ_1 x_3 x_4) (I (IntKind.wrap IntKind.i64 (x + (1 : Int))) (List.map (fun (xs : List (Int × Int)) ↦ xs) x_4) ∧ μ (IntKind.wrap IntKind.i64 (x + (1 : Int))) (List.map (fun (xs : List (Int × Int)) ↦ xs) x_4) < μ x x_2)) (Q (List.map (fun (x : List (Int × Int)) ↦ x) x_2, (0 : Int), ()))))))
theorem v37 (g : List Int × List Int × List (Int × Int)) (fs : List (List Int)) (f : List Int) (Q : List (List (Int × Int)) × Int × Unit → Prop) : V37 g fs f Q = vcFunc (S0 [(71, f71_ct), (88, f88_ct), (89, f89_ct), (90, f90_ct)] [1001]) f37_ct.own f37_ct.fresh f37_an Tryd.f37 (bodyOf Tryd.f37) f37_ct.A f37_ct.C f37_ct.R (g, fs, f, ()) () Q := by kernel_rfl

def V43 (g : List Int × List Int × List (Int × Int)) (fs : List (List Int)) (Q : (Int × Int) × Int × Int × Unit → Prop) : Prop := f71_wp ((Prod.fst g, Prod.fst (Prod.snd g), Prod.snd (Prod.snd g)), fs, ()) () fun (r : ((List Int × List Int × List (Int × Int)) × List (List Int)) × Int × Unit) ↦ cnd (Prod.fst (Prod.snd r) != (0 : Int)) (Q (((0 : Int), (0 : Int)), (0 : Int), Prod.fst (Prod.snd r), ())) (f95_wp ((Prod.fst (Prod.fst (Prod.fst r)), Prod.fst (Prod.snd (Prod.fst (Prod.fst r))), Prod.snd (Prod.snd (Prod.fst (Prod.fst r)))), Prod.snd (Prod.fst r)) () fun (r_1 : List (List Int)) ↦ List.length r_1 ≤ (9223372036854775807 : Nat) → List.length (Prod.fst g) ≤ (9223372036854775807 : Nat) → ∃ (I : Int → Int × Int → Int → Prop), ∃ (μ : Int → Int × Int → Int → Nat), I (0 : Int) ((0 : Int), (0 : Int)) (↑(List.length r_1) : Int) ∧ ∀ (x : Int) (x_1 : Int × Int) (x_2 : Int), I x x_1 x_2 → cnd (decide (x < (↑(List.length (Prod.fst g)) : Int))) (List.length r_1 ≤ (9223372036854775807 : Nat) → ∃ (I_1 : Int → List (List (Int × Int)) → Prop), ∃ (μ_1 : Int → List (List (Int × Int)) → Nat), I_1 (0 : Int) ([] : List (List (Int × Int))) ∧ ∀ (x_3 : Int) (x_4 : List (List (Int × Int))), I_1 x_3 x_4 → cnd (decide (x_3 < (↑(List.length r_1) : Int))) ((0 : Int) ≤ x_3 ∧ x_3 < (↑(List.length r_1) : Int) ∧ f90_wp (((Prod.fst (Prod.fst (Prod.fst r)), Prod.fst (Prod.snd (Prod.fst (Prod.fst r))), Prod.snd (Prod.snd (Prod.fst (Prod.fst r)))), Prod.snd (Prod.fst r)), x, List.getD r_1 (Int.toNat x_3) ([] : List Int), ([] : List Int), ()) () fun (r : Option (List (Int × Int))) ↦ (List.length x_4 + List.length (Option.getD r ([] : List (Int × Int)) :: ([] : List (List (Int × Int))))) * (24 : Nat) ≤ (140737488355328 : Nat) ∧ I_1 (IntKind.wrap IntKind.i64 (x_3 + (1 : Int))) (x_4 ++ Option.getD r ([] : List (Int × Int)) :: ([] : List (List (Int × Int)))) ∧ μ_1 (IntKind.wrap IntKind.i64 (x_3 + (1 : Int))) (x_4 ++ Option.getD r ([] : List (Int × Int)) :: ([] : List (List (Int × Int)))) < μ_1 x_3 x_4) (List.length fs ≤ (9223372036854775807 : Nat) → ∃ (I_2 : Int → Int × Int → Int → Prop), ∃ (μ_2 : Int → Int × Int → Int → Nat), I_2 (0 : Int) (Prod.fst x_1, Prod.snd x_1) x_2 ∧ ∀ (x_5 : Int) (x_6 : Int × Int) (x_7 : Int), I_2 x_5 x_6 x_7 → cnd (decide (x_5 < (↑(List.length fs) : Int))) (f77_wp (((Prod.fst (Prod.fst (Prod.fst r)), Prod.fst (Prod.snd (Prod.fst (Prod.fst r))), Prod.snd (Prod.snd (Prod.fst (Prod.fst r)))), Prod.snd (Prod.fst r)), x, x_5, ()) () fun (r : Int × Int) ↦ ∃ (I : Int → Int → Prop), ∃ (μ : Int → Int → Nat), I (Prod.fst r) (0 : Int) ∧ ∀ (x_8 x_9 : Int), I x_8 x_9 → cnd (decide (x_8 ≤ Prod.snd r)) (List.length x_4 ≤ (9223372036854775807 : Nat) → ∃ (I_3 : Int → Int → Prop), ∃ (μ_3 : Int → Int → Nat), I_3 (0 : Int) (0 : Int) ∧ ∀ (x x_10 : Int), I_3 x x_10 → cnd (decide (x < (↑(List.length x_4) : Int))) ((0 : Int) ≤ x ∧ x < (↑(List.length x_4) : Int) ∧ (0 : Int) ≤ x_5 ∧ x_5 < (↑(List.length (List.getD x_4 (Int.toNat x) ([] : List (Int × Int)))) : Int) ∧ cnd (decide (Prod.fst (List.getD (List.getD x_4 (Int.toNat x) ([] : List (Int × Int))) (Int.toNat x_5) ((0 : Int), (0 : Int))) ≤ x_8)) ((0 : Int) ≤ x_5 ∧ x_5 < (↑(List.length (List.getD x_4 (Int.toNat x) ([] : List (Int × Int)))) : Int) ∧ cnd (decide (x_8 ≤ Prod.snd (List.getD (List.getD x_4 (Int.toNat x) ([] : List (Int × Int))) (Int.toNat x_5) ((0 : Int), (0 : Int))))) (I_3 (IntKind.wrap IntKind.i64 (x + (1 : Int))) (IntKind.wrap IntKind.i64 (x_10 + (1 : Int))) ∧ μ_3 (IntKind.wrap IntKind.i64 (x + (1 : Int))) (IntKind.wrap IntKind.i64 (x_10 + (1 : Int))) < μ_3 x x_10) (I_3 (IntKind.wrap IntKind.i64 (x + (1 : Int))) x_10 ∧ μ_3 (IntKind.wrap IntKind.i64 (x + (1 : Int))) x_10 < μ_3 x x_10)) (I_3 (IntKind.wrap IntKind.i64 (x + (1 : Int))) x_10 ∧ μ_3 (IntKind.wrap IntKind.i64 (x + (1 : Int))) x_10 < μ_3 x x_10)) (I (IntKind.wrap IntKind.i64 (x_8 + (1 : Int))) (mxI x_9 x_10) ∧ μ (IntKind.wrap IntKind.i64 (x_8 + (1 : Int))) (mxI x_9 x_10) < μ x_8 x_9)) (cnd (decide (x_9 < x_7)) (I_2 (IntKind.wrap IntKind.i64 (x_5 + (1 : Int))) (x, x_5) x_9 ∧ μ_2 (IntKind.wrap IntKind.i64 (x_5 + (1 : Int))) (x, x_5) x_9 < μ_2 x_5 x_6 x_7) (I_2 (IntKind.wrap IntKind.i64 (x_5 + (1 : Int))) (Prod.fst x_6, Prod.snd x_6) x_7 ∧ μ_2 (IntKind.wrap IntKind.i64 (x_5 + (1 : Int))) (Prod.fst x_6, Prod.snd x_6) x_7 < μ_2 x_5 x_6 x_7))) (I (IntKind.wrap IntKind.i64 (x + (1 : Int))) (Prod.fst x_6, Prod.snd x_6) x_7 ∧ μ (IntKind.wrap IntKind.i64 (x + (1 : Int))) (Prod.fst x_6, Prod.snd x_6) x_7 < μ x x_1 x_2))) (List.length r_1 ≤ (9223372036854775807 : Nat) → cnd (x_2 == (↑(List.length r_1) : Int)) (Q (((0 : Int), (0 : Int)), (0 : Int), (7 : Int), ())) (Q ((Prod.fst x_1, Prod.snd x_1), x_2, (0 : Int), ()))))
theorem v43 (g : List Int × List Int × List (Int × Int)) (fs : List (List Int)) (Q : (Int × Int) × Int × Int × Unit → Prop) : V43 g fs Q = vcFunc (S0 [(71, f71_ct), (95, f95_ct), (90, f90_ct), (77, f77_ct)] []) f43_ct.own f43_ct.fresh f43_an Tryd.f43 (bodyOf Tryd.f43) f43_ct.A f43_ct.C f43_ct.R (g, fs, ()) () Q := by kernel_rfl

end Go.Proofs.Tw
set_option linter.unusedVariables false
namespace Go.Proofs.Tw
open Go Go.GX Go.Proofs

theorem p124 {xs : List Int} {n : Int} {Q : Int → Prop} (h : f124_wp (xs, n, ()) () Q) : V124 xs n Q := by
  intro hl
  exact idx_loop (f := fun a Q => Q (n == a)) (fun x _ Q h => h) h hl
theorem p114 {xs : List Int} {n : Int} {Q : Bool → Prop} (h : f114_wp (xs, n, ()) () Q) : V114 xs n Q := by
  show Q (decide (idxF (fun x => n == x) xs ≥ 0))
  rw [idxF_ge]; exact h
theorem p113 {n : Int} {s : List Int} {Q : Bool → Prop} (h : f113_wp n (s, ()) Q) : V113 n s Q := h
theorem p116 {n : Int} {s : List Int} {Q : Bool → Prop} (h : f116_wp n (s, ()) Q) : V116 n s Q := h
theorem p81 {xs : List Int} {Q : List Int → Prop} (h : f81_wp xs () Q) : V81 xs Q := by
  obtain ⟨hl, h⟩ := h
  intro b hb
  refine cnd_iff.2 ⟨fun h1 => ?_, fun h1 => ⟨?_, h⟩⟩
  · rw [hb h1] at h; exact h
  · simp only [List.length_nil, Nat.zero_add]; omega
theorem p121 {xs : List Int} {Q : List Int → Prop} (h : f121_wp xs () Q) : V121 xs Q := p81 h
theorem p122 {xs : List (List Int)} {f : List Int → (Bool → Prop) → Prop} {Q : Int → Prop} (h : f122_wp (xs, f, ()) () Q) : V122 xs f Q := by
  obtain ⟨p, hs, hq⟩ := h
  intro hl
  exact idx_loop hs hq hl
theorem p100 {xs : List (List Int)} {f : List Int → (Bool → Prop) → Prop} {Q : Bool → Prop} (h : f100_wp (xs, f, ()) () Q) : V100 xs f Q := by
  obtain ⟨p, hs, hq⟩ := h
  refine ⟨p, hs, ?_⟩
  show Q (decide (idxF p xs ≥ 0))
  rw [idxF_ge]; exact hq
theorem VB.truly {g : Gauge} {fs : Fans} (v : VB g fs) {m f : Nat} (hm : m < g.1.length) (hf : f < fs.length) : f77_wp ((g, fs), (m : Int), (f : Int), ()) () fun r => r = trulyF g fs m f :=
  ⟨⟨v, by simp only; omega, by simp only; omega, by simp only; omega, by simp only; omega⟩, by simp⟩
theorem p28 {g : Gauge} {fs : Fans} {Q : Bool × Bool × Int × Unit → Prop} (h : f28_wp (g, fs, ()) () Q) : V28 g fs Q := by
  have h : Q ((twinsFn g fs).1, (twinsFn g fs).2.1, (twinsFn g fs).2.2, ()) := h
  show cnd (checkF g fs != 0) (Q (false, false, checkF g fs, ())) _
  refine cnd_iff.2 ⟨fun h1 => ?_, fun h1 hl => ?_⟩
  · have h1 : checkF g fs ≠ 0 := by simpa using h1
    simpa [twinsFn, h1] using h
  have h1 : checkF g fs = 0 := by simpa using h1
  have v := VB.of h1
  rw [show twinsFn g fs = (surelyF g fs, twinsF g fs fun _ => true, 0) by simp [twinsFn, h1]] at h
  refine forUp (σ := Bool) (n := g.1.length) hl (surelyK g fs) rfl (fun k hk I μ hI hw => ?_) ⟨fun _ => true, ⟨v, fun k hk Q h => h⟩, h⟩
  intro hl2
  refine forUp (σ := Bool) (n := fs.length) hl2 (fun j => surelyK g fs k && sMs g fs k j) (by simp [sMs]) (fun j hj I1 μ1 hI1 hw1 => ?_) ?_
  · intro hl3
    refine forUp (σ := Bool) (n := fs.length) hl3 (fun i => (surelyK g fs k && sMs g fs k j) && sRow g fs k j i) (by simp [sRow]) (fun i hi I2 μ2 hI2 hw2 => ?_) ?_
    · have e : sRow g fs k j (i + 1) = (sRow g fs k j i && sOne g fs k j i) := all_succ _ _
      have key : ∀ s, s = ((surelyK g fs k && sMs g fs k j) && sRow g fs k j (i + 1)) → I2 (IntKind.wrap .i64 ((i : Int) + 1)) s ∧ μ2 (IntKind.wrap .i64 ((i : Int) + 1)) s < μ2 i ((surelyK g fs k && sMs g fs k j) && sRow g fs k j i) := by
        rintro _ rfl; rw [hw2]; exact hI2
      refine cnd_iff.2 ⟨fun hs => cnd_iff.2 ⟨fun hxy => key _ ?_, fun hxy => ?_⟩, fun hs => key _ ?_⟩
      · have hxy : j = i := by have : (j : Int) = i := by simpa using hxy
                               omega
        rw [e, ← Bool.and_assoc, hs]
        simp [sOne, hxy]
      · have hxy : j ≠ i := by intro hh; simp [hh] at hxy
        have b1 := patF_bounds v hk j hj
        have b2 := patF_bounds v hk i hi
        have b3 := v.make_v hk
        refine ⟨_, v.truly hk hj, _, v.truly hk hi, by omega, by rw [v.mkl]; omega, ?_⟩
        have w1 : IntKind.wrap .i64 ((trulyF g fs k j).2 - (trulyF g fs k i).1) = (trulyF g fs k j).2 - (trulyF g fs k i).1 := wrapS (by omega) (by omega)
        have w2 : IntKind.wrap .i64 (2 * g.2.1.getD k 0) = 2 * g.2.1.getD k 0 := wrapS (by omega) (by omega)
        simp only [Int.toNat_natCast, w1, w2]
        refine key _ ?_
        rw [e, ← Bool.and_assoc, hs]
        simp [sOne, hxy]
      · rw [e, ← Bool.and_assoc, hs]; rfl
    · rw [hw1]
      have e : sMs g fs k (j + 1) = (sMs g fs k j && sRow g fs k j fs.length) := all_succ _ _
      have hh := hI1
      simp only [e, ← Bool.and_assoc] at hh
      exact hh
  · rw [hw]
    have e : surelyK g fs (k + 1) = (surelyK g fs k && sMs g fs k fs.length) := all_succ _ _
    rw [e] at hI; exact hI
theorem p58 {g : Gauge} {x y : List Int} {Q : Bool × Bool × Int × Unit → Prop} (h : f58_wp (g, x, y, ()) () Q) : V58 g x y Q := by
  have h : Q ((copyFn g [x, y]).1, (copyFn g [x, y]).2.1, (copyFn g [x, y]).2.2, ()) := h
  show cnd (checkF g [x, y] != 0) (Q (false, false, checkF g [x, y], ())) _
  generalize hfs : [x, y] = fs at h
  refine cnd_iff.2 ⟨fun h1 => ?_, fun h1 hl => ?_⟩
  · have h1 : checkF g fs ≠ 0 := by simpa using h1
    simpa [copyFn, h1] using h
  have h1 : checkF g fs = 0 := by simpa using h1
  have v := VB.of h1
  have hlen : fs.length = 2 := by rw [← hfs]; rfl
  rw [show copyFn g fs = ((List.range g.1.length).all (cSure g fs), (List.range g.1.length).all (cMay g fs), 0) by simp [copyFn, h1]] at h
  have hcp := v.cp
  show ∃ (I : Int → Bool → Bool → Prop) (μ : Int → Bool → Bool → Nat), I 0 true true ∧ ∀ z s t, I z s t → cnd (decide (z < (g.2.2.length : Int))) _ (Q (s, t, 0, ()))
  rw [← hcp] at h
  refine forUp2 (σ := Bool) (τ := Bool) (n := g.2.2.length) hl (fun k => (List.range k).all (cSure g fs)) (fun k => (List.range k).all (cMay g fs)) rfl rfl (fun k hk I μ hI hw => ?_) h
  have hk' : k < g.1.length := by omega
  have b1 := patF_bounds v hk' 0 (by omega)
  have b2 := patF_bounds v hk' 1 (by omega)
  have key : ∀ s t, s = (List.range (k + 1)).all (cSure g fs) → t = (List.range (k + 1)).all (cMay g fs) → I (IntKind.wrap .i64 ((k : Int) + 1)) s t ∧ μ (IntKind.wrap .i64 ((k : Int) + 1)) s t < μ k ((List.range k).all (cSure g fs)) ((List.range k).all (cMay g fs)) := by
    rintro _ _ rfl rfl; rw [hw]; exact hI
  refine ⟨by omega, by omega, trulyF g fs k 0, v.truly (f := 0) hk' (by omega), trulyF g fs k 1, v.truly (f := 1) hk' (by omega), ?_⟩
  have w1 : IntKind.wrap .i64 ((trulyF g fs k 1).1 - (trulyF g fs k 0).2) = leastF g fs k := wrapS (by omega) (by omega)
  have w2 : IntKind.wrap .i64 ((trulyF g fs k 1).2 - (trulyF g fs k 0).1) = mostlyF g fs k := wrapS (by omega) (by omega)
  simp only [Int.toNat_natCast, w1, w2]
  have eA : (List.range (k + 1)).all (cSure g fs) = ((List.range k).all (cSure g fs) && cSure g fs k) := all_succ _ _
  have eB : (List.range (k + 1)).all (cMay g fs) = ((List.range k).all (cMay g fs) && cMay g fs k) := all_succ _ _
  rw [eA, eB] at key
  generalize (List.range k).all (cSure g fs) = sa at *
  generalize (List.range k).all (cMay g fs) = sb at *
  unfold cSure cMay at key
  generalize decide (leastF g fs k ≥ (g.2.2.getD k (0, 0)).1) = c1 at *
  generalize decide (leastF g fs k ≤ (g.2.2.getD k (0, 0)).2) = c2 at *
  cases sa <;> cases sb <;> cases c1 <;> cases c2 <;> first
    | exact key _ _ (by simp) (by simp)
theorem orderStep_len (f : Fam) (l : List Int) (n : Nat) : (orderStep f l n).length ≤ l.length + 1 := by
  unfold orderStep
  split
  · simp
  · omega
theorem foldl_len (f : Fam) (j : Nat) (l : List Int) : ((List.range j).foldl (orderStep f) l).length ≤ l.length + j := by
  induction j with
  | zero => simp
  | succ j ihj =>
    rw [foldl_succ]
    have := orderStep_len f ((List.range j).foldl (orderStep f) l) j
    omega
theorem orderN_len (f : Fam) : ∀ k, (orderN f k).length ≤ k * f.length
  | 0 => by simp [orderN]
  | k + 1 => by
    have ih := orderN_len f k
    have := foldl_len f f.length (orderN f k)
    simp only [orderN, orderPass]
    rw [Nat.add_mul]
    omega
theorem p117 {f : Fam} {Q : List Int × Bool × Unit → Prop} (h : f117_wp f () Q) : V117 f Q := by
  obtain ⟨hn, h⟩ := h
  intro hl
  refine forUp (σ := List Int) (n := f.length) hl (orderN f) rfl (fun k hk I μ hI hw => ?_) ?_
  · intro hl2
    refine forUp (σ := List Int) (n := f.length) hl2 (fun j => (List.range j).foldl (orderStep f) (orderN f k)) rfl (fun j hj I1 μ1 hI1 hw1 => ?_) ?_
    · have b1 := orderN_len f k
      have b2 := foldl_len f j (orderN f k)
      have b3 : k * f.length ≤ 1000 * 1000 := Nat.mul_le_mul (by omega) hn
      have e := foldl_succ (orderStep f) (orderN f k) j
      generalize (List.range j).foldl (orderStep f) (orderN f k) = l at *
      have key : ∀ s, s = orderStep f l j → I1 (IntKind.wrap .i64 ((j : Int) + 1)) s ∧ μ1 (IntKind.wrap .i64 ((j : Int) + 1)) s < μ1 j l := by
        rintro _ rfl; rw [hw1, ← e]; exact hI1
      refine ⟨by omega, by omega, ?_⟩
      simp only [Int.toNat_natCast]
      show cnd (!hasF l j) _ _
      refine cnd_iff.2 ⟨fun h1 => cnd_iff.2 ⟨fun h2 => ⟨?_, key _ ?_⟩, fun h2 => ?_⟩, fun h1 => key _ ?_⟩
      · simp; omega
      · simp only [Bool.not_eq_true'] at h1; rw [orderStep, h1, h2]; rfl
      · show cnd (hasF l (f.getD j 0)) _ _
        refine cnd_iff.2 ⟨fun h3 => ⟨?_, key _ ?_⟩, fun h3 => key _ ?_⟩
        · simp; omega
        · simp only [Bool.not_eq_true'] at h1; rw [orderStep, h1, h2, h3]; rfl
        · simp only [Bool.not_eq_true'] at h1; rw [orderStep, h1, h2, h3]; rfl
      · simp only [Bool.not_eq_false'] at h1; simp [orderStep, h1]
    · rw [hw]; exact hI
  · intro h2 h3
    have : ((orderN f f.length).length == (f.length : Nat)) = okOrd f := by
      unfold okOrd orderF
      rfl
    have e : (((orderN f f.length).length : Int) == (f.length : Int)) = okOrd f := by
      unfold okOrd orderF
      rw [Bool.eq_iff_iff]
      simp only [beq_iff_eq, decide_eq_true_eq]
      omega
    rw [e]; exact h
theorem p88 {l : List Int} {n : Int} {Q : Bool → Prop} (h : f88_wp (l, n, ()) () Q) : V88 l n Q := by
  obtain ⟨⟨h1, h2⟩, h⟩ := h
  simp only at h1 h2 h
  intro hl
  refine cnd_iff.2 ⟨fun h3 => ?_, fun h3 => ?_⟩
  · have h3 : ¬ l.length = n.toNat := by have : (l.length : Int) ≠ n := by simpa using h3
                                         omega
    simpa [isFamF, h3] using h
  · have h3 : (l.length : Int) = n := by simpa using h3
    have h3' : l.length = n.toNat := by omega
    rw [wrapS (by omega) (by omega)]
    show cnd (!(l.all (inB (-1) (n - 1)))) _ _
    have hn : ((n.toNat : Int) - 1) = n - 1 := by omega
    refine cnd_iff.2 ⟨fun h4 => ?_, fun h4 => ⟨by omega, ?_⟩⟩
    · simp only [Bool.not_eq_true'] at h4
      rw [isFamF, hn, h4] at h
      simpa using h
    · simp only [Bool.not_eq_false'] at h4
      rw [isFamF, hn, h4] at h
      simpa [h3'] using h
theorem p120 {f : Fam} {Q : Int → Prop} (h : f120_wp f () Q) : V120 f Q := by
  intro hl
  refine forUp (σ := Int) (n := f.length) hl (fun k => ((f.take k).countP fun x => x == -1 : Nat)) rfl (fun k hk I μ hI hw => ?_) (by rw [List.take_length]; exact h)
  refine ⟨by omega, by omega, ?_⟩
  simp only [Int.toNat_natCast]
  have e : (f.take (k + 1)).countP (fun x => x == -1) = (f.take k).countP (fun x => x == -1) + if f.getD k 0 == -1 then 1 else 0 := by
    rw [List.take_succ_eq_append_getElem hk, List.countP_append, getD_lt hk]
    simp [List.countP_cons]
  have b : (f.take k).countP (fun x => x == -1) ≤ k := Nat.le_trans List.countP_le_length (by simp; omega)
  rw [e] at hI
  refine cnd_iff.2 ⟨fun h1 => ?_, fun h1 => ?_⟩
  · rw [hw, wrapS (x := ((f.take k).countP fun x => x == -1 : Nat) + 1) (by omega) (by omega)]
    rw [h1] at hI
    simpa using hI
  · rw [hw]
    rw [h1] at hI
    simpa using hI
theorem p99 {f : Fam} {n : Int} {Q : Bool → Prop} (h : f99_wp f (n, ()) Q) : V99 f n Q := by
  obtain ⟨⟨h1, h2⟩, h⟩ := h
  exact ⟨h1, h2, h⟩
theorem p101 {f : Fam} {is : Fam → (Bool → Prop) → Prop} {Q : Bool → Prop} (h : f101_wp f (is, ()) Q) : V101 f is Q := h
end Go.Proofs.Tw
set_option linter.unusedVariables false
namespace Go.Proofs.Tw
open Go Go.GX Go.Proofs

theorem p130 {x y : Int} {Q : Int × Int × Unit → Prop} (h : f130_wp (x, y, ()) () Q) : V130 x y Q := by
  obtain ⟨⟨h1, h2, h3⟩, h⟩ := h
  have h1 : x = 1 := h1
  have h2 : 0 ≤ y := h2
  have h3 : y ≤ 5 := h3
  subst h1
  have hy : y = 0 ∨ y = 1 ∨ y = 2 ∨ y = 3 ∨ y = 4 ∨ y = 5 := by omega
  rcases hy with rfl | rfl | rfl | rfl | rfl | rfl <;> exact ⟨by decide, by decide, by decide, by decide, by decide, h⟩
theorem p128 {x y : Int} {Q : Int × Int × Unit → Prop} (h : f128_wp (x, y, ()) () Q) : V128 x y Q := h

theorem rep_step (N k m : Nat) (hk : k ≤ N) (hm : m = min (N - k) k) : (List.replicate k (-1 : Int) ++ List.replicate (N - k) 0).take k ++ ((List.replicate k (-1 : Int) ++ List.replicate (N - k) 0).take k).take m ++ (List.replicate k (-1 : Int) ++ List.replicate (N - k) 0).drop (k + m) = List.replicate (k + m) (-1) ++ List.replicate (N - (k + m)) 0 := by
  have h1 : (List.replicate k (-1 : Int) ++ List.replicate (N - k) 0).take k = List.replicate k (-1) := by
    rw [List.take_append_of_le_length (by simp)]; simp
  have h2 : (List.replicate k (-1 : Int)).take m = List.replicate m (-1) := by simp; omega
  have h3 : (List.replicate k (-1 : Int) ++ List.replicate (N - k) 0).drop (k + m) = List.replicate (N - (k + m)) 0 := by
    rw [List.drop_append, List.length_replicate]
    simp; omega
  rw [h1, h2, h3, List.replicate_append_replicate]

theorem p127 {xs : List Int} {n : Int} {Q : List Int → Prop} (h : f127_wp (xs, n, ()) () Q) : V127 xs n Q := by
  obtain ⟨⟨h1, h2, h3⟩, h⟩ := h
  have h1 : xs = [-1] := h1
  have h2 : 0 ≤ n := h2
  have h3 : n ≤ 5 := h3
  have h : Q (List.replicate n.toNat (-1)) := h
  subst h1
  obtain ⟨N, rfl⟩ := Int.eq_ofNat_of_zero_le h2
  have hN : N ≤ 5 := by omega
  rw [Int.toNat_natCast] at h
  have hw : IntKind.wrap .u64 (N : Int) = N := by
    have : N = 0 ∨ N = 1 ∨ N = 2 ∨ N = 3 ∨ N = 4 ∨ N = 5 := by omega
    rcases this with rfl | rfl | rfl | rfl | rfl | rfl <;> decide
  have hw1 : IntKind.wrap .u64 (([(-1 : Int)].length : Nat) : Int) = 1 := by decide
  refine cnd_iff.2 ⟨fun hc => ?_, fun _ _ => ?_⟩
  · have := of_decide_eq_true hc; omega
  refine ⟨⟨hw1, by simp only [hw]; omega, by simp only [hw]; omega⟩, ?_⟩
  simp only [hw]
  refine cnd_iff.2 ⟨fun hc => ?_, fun _ => cnd_iff.2 ⟨fun hc => ?_, fun _ => ?_⟩⟩
  · have := of_decide_eq_true hc; omega
  · have := of_decide_eq_true hc; omega
  have hw2 : IntKind.wrap .i64 (N : Int) = N := wrapS (by omega) (by omega)
  simp only [hw2, Int.toNat_natCast]
  refine ⟨trivial, by omega, by omega, ?_⟩
  refine ⟨fun x l => ∃ k : Nat, k ≤ N ∧ (N ≠ 0 → 1 ≤ k) ∧ x = k ∧ l = List.replicate k (-1) ++ List.replicate (N - k) 0, fun x _ => (N - x).toNat, ?_, ?_⟩
  · refine ⟨min N 1, by omega, by omega, ?_, ?_⟩
    · simp
    · have : N = 0 ∨ N = 1 ∨ N = 2 ∨ N = 3 ∨ N = 4 ∨ N = 5 := by omega
      rcases this with rfl | rfl | rfl | rfl | rfl | rfl <;> rfl
  · rintro x l ⟨k, hk, hk1, rfl, rfl⟩ _
    have hl : (List.replicate k (-1 : Int) ++ List.replicate (N - k) 0).length = N := by simp; omega
    refine cnd_iff.2 ⟨fun hc => ?_, fun hc => ?_⟩
    · have hc : (k : Int) < _ := of_decide_eq_true hc
      rw [hl] at hc
      have hkN : k < N := by omega
      have hk0 : 1 ≤ k := hk1 (by omega)
      simp only [Int.toNat_natCast, Int.toNat_zero, List.drop_zero, hl]
      have ht : ((List.replicate k (-1 : Int) ++ List.replicate (N - k) 0).take k).length = k := by rw [List.length_take, hl]; omega
      rw [ht]
      obtain ⟨m, hm⟩ : ∃ m, m = min (N - k) k := ⟨_, rfl⟩
      rw [← hm, rep_step N k m hk hm]
      have hwk : IntKind.wrap .i64 ((k : Int) + (m : Nat)) = ((k + m : Nat) : Int) := by rw [wrapS (by omega) (by omega)]; push_cast; rfl
      rw [hwk]
      refine ⟨by omega, by omega, Int.le_refl _, Int.le_refl _, by omega, by omega, ⟨k + m, by omega, by omega, rfl, rfl⟩, by omega⟩
    · have hc : ¬ (k : Int) < _ := of_decide_eq_false hc
      rw [hl] at hc
      have : k = N := by omega
      subst this
      simpa using h

theorem dig_length (n : Nat) : ∀ i k, (digF n i k).length = i
  | 0, k => rfl
  | i + 1, k => by simp [digF, dig_length n i]
theorem dig_zeros (n i : Nat) : ∀ j q, digF n (i + j) (q * (n + 1) ^ j) = digF n i q ++ List.replicate j (-1)
  | 0, q => by simp
  | j + 1, q => by
    have e : q * (n + 1) ^ (j + 1) = q * (n + 1) ^ j * (n + 1) := by rw [Nat.pow_succ, Nat.mul_assoc]
    show digF n (i + j) (q * (n + 1) ^ (j + 1) / (n + 1)) ++ [((q * (n + 1) ^ (j + 1) % (n + 1) : Nat) : Int) - 1] = _
    rw [e, Nat.mul_div_cancel _ (Nat.succ_pos _), Nat.mul_mod_left, dig_zeros n i j q, List.replicate_succ', List.append_assoc]
    rfl
def valF (n : Nat) (f : List Int) : Nat := f.foldl (fun a d => a * (n + 1) + (d + 1).toNat) 0
theorem val_dig (n : Nat) : ∀ i k, k < (n + 1) ^ i → valF n (digF n i k) = k
  | 0, k, h => by simp at h; subst h; rfl
  | i + 1, k, h => by
    have h2 : k / (n + 1) < (n + 1) ^ i := by
      rw [Nat.div_lt_iff_lt_mul (Nat.succ_pos _)]
      rwa [Nat.pow_succ] at h
    have ih := val_dig n i (k / (n + 1)) h2
    unfold valF at ih ⊢
    rw [digF, List.foldl_append, ih]
    simp only [List.foldl_cons, List.foldl_nil]
    have : ((((k % (n + 1) : Nat) : Int) - 1) + 1).toNat = k % (n + 1) := by omega
    rw [this, Nat.mul_comm]
    exact Nat.div_add_mod k (n + 1)

def famsTo (n k : Nat) : List Fam := ((List.range k).map (digF n n)).filter okOrd
theorem famsTo_succ (n k : Nat) : famsTo n (k + 1) = famsTo n k ++ if okOrd (digF n n k) then [digF n n k] else [] := by
  unfold famsTo
  rw [List.range_succ, List.map_append, List.filter_append]
  simp only [List.map_cons, List.map_nil, List.filter_cons, List.filter_nil]
theorem famsTo_all (n : Nat) : famsTo n ((n + 1) ^ n) = famsF n := rfl
theorem famsTo_pre (n k : Nat) {m : Nat} (h : k ≤ m) : ∃ rest, famsTo n m = famsTo n k ++ rest := by
  obtain ⟨d, rfl⟩ := Nat.exists_eq_add_of_le h
  induction d with
  | zero => exact ⟨[], by simp⟩
  | succ d ih =>
    obtain ⟨r, hr⟩ := ih (by omega)
    exact ⟨_, by rw [← Nat.add_assoc, famsTo_succ, hr, List.append_assoc]⟩

theorem fam_turn {n k : Nat} (hn : n ≤ 5) (hk : k < (n + 1) ^ n) {xs g : List Fam} (hxs : xs = famsF n) (hg : g = famsTo n (k + 1)) {I : List Fam → List Int → Prop} {μ : List Int → Nat} (hI : k + 1 < (n + 1) ^ n → I (famsTo n (k + 1)) (digF n n (k + 1)) ∧ μ (digF n n (k + 1)) < μ (digF n n k)) :
    ∃ (I_1 : List Fam → Int → List Int → Prop) (μ_1 : Int → List Int → Nat), I_1 g (IntKind.wrap .i64 ((n : Int) - 1)) (digF n n k) ∧ ∀ (g : List Fam) (x_1 : Int) (x_2 : List Int), I_1 g x_1 x_2 →
      cnd (decide (x_1 ≥ 0))
        (0 ≤ x_1 ∧ x_1 < (x_2.length : Int) ∧ cnd (x_2.getD x_1.toNat 0 == IntKind.wrap .i64 ((n : Int) - 1))
            (0 ≤ x_1 ∧ x_1 < (x_2.length : Int) ∧ I_1 g (IntKind.wrap .i64 (x_1 - 1)) (x_2.set x_1.toNat (-1)) ∧ μ_1 (IntKind.wrap .i64 (x_1 - 1)) (x_2.set x_1.toNat (-1)) < μ_1 x_1 x_2)
            (cnd (decide (x_1 < 0)) (g = xs) (0 ≤ x_1 ∧ x_1 < (x_2.length : Int) ∧ 0 ≤ x_1 ∧ x_1 < (x_2.length : Int) ∧ I g (x_2.set x_1.toNat (IntKind.wrap .i64 (x_2.getD x_1.toNat 0 + 1))) ∧ μ (x_2.set x_1.toNat (IntKind.wrap .i64 (x_2.getD x_1.toNat 0 + 1))) < μ (digF n n k))))
        (cnd (decide (x_1 < 0)) (g = xs) (0 ≤ x_1 ∧ x_1 < (x_2.length : Int) ∧ 0 ≤ x_1 ∧ x_1 < (x_2.length : Int) ∧ I g (x_2.set x_1.toNat (IntKind.wrap .i64 (x_2.getD x_1.toNat 0 + 1))) ∧ μ (x_2.set x_1.toNat (IntKind.wrap .i64 (x_2.getD x_1.toNat 0 + 1))) < μ (digF n n k))) := by
  have hw : IntKind.wrap .i64 ((n : Int) - 1) = (n : Int) - 1 := wrapS (by omega) (by omega)
  refine ⟨fun g' x l => g' = g ∧ ∃ j q : Nat, j ≤ n ∧ x = (n : Int) - 1 - j ∧ k + 1 = (q + 1) * (n + 1) ^ j ∧ l = digF n (n - j) q ++ List.replicate j (-1), fun x _ => (x + 1).toNat, ⟨rfl, 0, k, Nat.zero_le _, by rw [hw]; simp, by simp, by simp⟩, ?_⟩
  rintro g' x l ⟨rfl, j, q, hj, rfl, hkq, rfl⟩
  have hlen : (digF n (n - j) q ++ List.replicate j (-1)).length = n := by rw [List.length_append, dig_length, List.length_replicate]; omega
  refine cnd_iff.2 ⟨fun hc => ?_, fun hc => ?_⟩
  · have hc : 0 ≤ (n : Int) - 1 - j := of_decide_eq_true hc
    obtain ⟨i, hi⟩ : ∃ i, n - j = i + 1 := ⟨n - j - 1, by omega⟩
    have hat : ((n : Int) - 1 - j).toNat = i := by omega
    have hget : (digF n (n - j) q ++ List.replicate j (-1)).getD i 0 = ((q % (n + 1) : Nat) : Int) - 1 := by
      rw [hi, digF, List.append_assoc, List.getD_eq_getElem?_getD, List.getElem?_append_right (by rw [dig_length]; omega), dig_length]
      simp
    have hset : ∀ v : Int, (digF n (n - j) q ++ List.replicate j (-1)).set i v = digF n i (q / (n + 1)) ++ v :: List.replicate j (-1) := by
      intro v
      rw [hi, digF, List.append_assoc, List.set_append_right _ _ (by rw [dig_length]; omega), dig_length]
      simp
    rw [hat, hget, hlen, hw]
    simp only [hset]
    refine ⟨hc, by omega, ?_⟩
    have hqm : q % (n + 1) < n + 1 := Nat.mod_lt _ (by omega)
    refine cnd_iff.2 ⟨fun h1 => ?_, fun h1 => ?_⟩
    · have h1 : ((q % (n + 1) : Nat) : Int) - 1 = (n : Int) - 1 := by simpa using h1
      have h1 : q % (n + 1) = n := by omega
      have hwx : IntKind.wrap .i64 ((n : Int) - 1 - j - 1) = (n : Int) - 1 - ((j + 1 : Nat) : Int) := by rw [wrapS (by omega) (by omega)]; push_cast; omega
      refine ⟨hc, by omega, ⟨trivial, j + 1, q / (n + 1), by omega, hwx, ?_, ?_⟩, by rw [hwx]; omega⟩
      · have hdm := Nat.div_add_mod q (n + 1)
        have : q + 1 = (q / (n + 1) + 1) * (n + 1) := by rw [Nat.add_mul, Nat.mul_comm]; omega
        rw [hkq, this, Nat.pow_succ, Nat.mul_assoc, Nat.mul_comm (n + 1)]
      · rw [show n - (j + 1) = i by omega, List.replicate_succ]
    · have h1 : ((q % (n + 1) : Nat) : Int) - 1 ≠ (n : Int) - 1 := by simpa using h1
      have h1 : q % (n + 1) < n := by omega
      refine cnd_iff.2 ⟨fun h2 => ?_, fun _ => ?_⟩
      · have := of_decide_eq_true h2; omega
      have hwv : IntKind.wrap .i64 (((q % (n + 1) : Nat) : Int) - 1 + 1) = ((q % (n + 1) : Nat) : Int) := by rw [wrapS (by omega) (by omega)]; omega
      rw [hwv]
      have h4 : (q + 1) % (n + 1) = q % (n + 1) + 1 := by
        rw [Nat.add_mod]
        by_cases hn0 : n = 0
        · omega
        · rw [Nat.mod_eq_of_lt (show 1 < n + 1 by omega), Nat.mod_eq_of_lt (by omega)]
      have h3 : (q + 1) / (n + 1) = q / (n + 1) := by
        rw [Nat.succ_div, if_neg]
        · rfl
        · intro hd
          have := Nat.mod_eq_zero_of_dvd hd
          omega
      have hnext : digF n i (q / (n + 1)) ++ ((q % (n + 1) : Nat) : Int) :: List.replicate j (-1) = digF n n (k + 1) := by
        have e : n = (i + 1) + j := by omega
        rw [hkq]
        have hz := dig_zeros n (i + 1) j (q + 1)
        rw [← e] at hz
        rw [hz, digF]
        rw [h3, h4, List.append_assoc]
        simp
      rw [hnext]
      have hkM : k + 1 < (n + 1) ^ n := by
        have e : n = (i + 1) + j := by omega
        rcases Nat.lt_or_ge (k + 1) ((n + 1) ^ n) with h5 | h5
        · exact h5
        · exfalso
          have h6 : k + 1 = (n + 1) ^ n := by omega
          have h7 : (n + 1) ^ n = (n + 1) ^ (i + 1) * (n + 1) ^ j := by rw [← Nat.pow_add]; exact congrArg _ e
          rw [h7, hkq] at h6
          have h8 := Nat.eq_of_mul_eq_mul_right (Nat.pow_pos (Nat.succ_pos _)) h6
          rw [h8, Nat.pow_succ, Nat.mul_mod_left] at h4
          omega
      exact ⟨hc, by omega, hc, by omega, hg ▸ (hI hkM)⟩
  · have hc : ¬ 0 ≤ (n : Int) - 1 - j := of_decide_eq_false hc
    obtain rfl : j = n := by omega
    refine cnd_iff.2 ⟨fun _ => ?_, fun h2 => ?_⟩
    · have hk1 : k + 1 = (j + 1) ^ j := by
        have hp : 0 < (j + 1) ^ j := Nat.pow_pos (Nat.succ_pos _)
        have : (q + 1) * (j + 1) ^ j ≤ 1 * (j + 1) ^ j := by omega
        have := Nat.le_of_mul_le_mul_right this hp
        obtain rfl : q = 0 := by omega
        rw [hkq]; simp
      rw [hg, hxs, hk1, famsTo_all]
    · have := of_decide_eq_false h2; omega
theorem p126 {l : Nat} {n : Int} (h : 0 ≤ n ∧ n ≤ 5) : V126 l n (famsF n.toNat) := by
  obtain ⟨h1, h2⟩ := h
  obtain ⟨N, rfl⟩ := Int.eq_ofNat_of_zero_le h1
  have hN : N ≤ 5 := by omega
  rw [Int.toNat_natCast]
  refine ⟨⟨rfl, by simp only; omega, by simp only; omega⟩, ?_⟩
  simp only [Int.toNat_natCast]
  refine ⟨fun g x => ∃ k, k < (N + 1) ^ N ∧ x = digF N N k ∧ g = famsTo N k, fun x => (N + 1) ^ N - valF N x, ⟨0, Nat.pow_pos (Nat.succ_pos _), ?_, rfl⟩, ?_⟩
  · have := dig_zeros N 0 N 0
    simpa [digF] using this.symm
  rintro g x ⟨k, hk, rfl, rfl⟩
  refine ⟨by simp only [dig_length]; omega, ?_⟩
  have next : k + 1 < (N + 1) ^ N → (fun g x => ∃ k, k < (N + 1) ^ N ∧ x = digF N N k ∧ g = famsTo N k) (famsTo N (k + 1)) (digF N N (k + 1)) ∧ (N + 1) ^ N - valF N (digF N N (k + 1)) < (N + 1) ^ N - valF N (digF N N k) := by
    intro h
    refine ⟨⟨k + 1, h, rfl, rfl⟩, ?_⟩
    rw [val_dig N N _ h, val_dig N N _ hk]
    omega
  refine cnd_iff.2 ⟨fun ho => ⟨trivial, ?_⟩, fun ho => ?_⟩
  · have ho : okOrd (digF N N k) = true := ho
    have hs := famsTo_succ N k
    rw [if_pos ho] at hs
    obtain ⟨rest, hr⟩ := famsTo_pre N (k + 1) hk
    refine ⟨rest, ?_, ?_, trivial⟩
    · rw [← famsTo_all, hr, hs, List.append_assoc]; rfl
    · exact fam_turn hN hk rfl hs.symm (I := fun g x => ∃ k, k < (N + 1) ^ N ∧ x = digF N N k ∧ g = famsTo N k) (μ := fun x => (N + 1) ^ N - valF N x) next
  · have ho : okOrd (digF N N k) = false := ho
    have hs := famsTo_succ N k
    rw [ho] at hs
    exact fam_turn hN hk rfl (by simpa using hs.symm) (I := fun g x => ∃ k, k < (N + 1) ^ N ∧ x = digF N N k ∧ g = famsTo N k) (μ := fun x => (N + 1) ^ N - valF N x) next
end Go.Proofs.Tw
set_option linter.unusedVariables false
set_option maxRecDepth 100000
namespace Go.Proofs.Tw
open Go Go.GX Go.Proofs Go.RowKit Go.Shelf
theorem ok124a : CallsOK Tryd.prog (assoc glT) 124 f124_ct :=
  callsOK_mk [] st_ok mk_ok in_ok AllOK.nil idx_an Tryd.func124 (by kernel_rfl) (by kernel_rfl) f124_ct fun ⟨xs, n, _⟩ _ Q h => (v124 xs n Q).mp (p124 h)
theorem ok114a : CallsOK Tryd.prog (assoc glT) 114 f114_ct :=
  callsOK_mk [] st_ok mk_ok in_ok (AllOK.cons ok124a AllOK.nil) no_an Tryd.func114 (by kernel_rfl) (by kernel_rfl) f114_ct fun ⟨xs, n, _⟩ _ Q h => (v114 xs n Q).mp (p114 h)
theorem v117o (f : List Int) (Q : List Int × Bool × Unit → Prop) : V117 f Q = vcFunc (S0 [(114, f114_ct)] []) f117o_ct.own f117o_ct.fresh f117_an Tryd.f117 (bodyOf Tryd.f117) f117o_ct.A f117o_ct.C f117o_ct.R f () Q := by kernel_rfl
theorem ok117o : CallsOK Tryd.prog (assoc glT) 117 f117o_ct :=
  callsOK_mk [] st_ok mk_ok in_ok (AllOK.cons ok114a AllOK.nil) f117_an Tryd.func117 (by kernel_rfl) (by kernel_rfl) f117o_ct fun f _ Q h => (v117o f Q).mp (p117 h)
theorem ok130 : CallsOK Tryd.prog (assoc glT) 130 f130_ct :=
  callsOK_mk [] st_ok mk_ok in_ok AllOK.nil no_an Tryd.func130 (by kernel_rfl) (by kernel_rfl) f130_ct fun ⟨x, y, _⟩ _ Q h => (v130 x y Q).mp (p130 h)
theorem ok128 : CallsOK Tryd.prog (assoc glT) 128 f128_ct :=
  callsOK_mk [] st_ok mk_ok in_ok (AllOK.cons ok130 AllOK.nil) no_an Tryd.func128 (by kernel_rfl) (by kernel_rfl) f128_ct fun ⟨x, y, _⟩ _ Q h => (v128 x y Q).mp (p128 h)
theorem ok127 : CallsOK Tryd.prog (assoc glT) 127 f127_ct :=
  callsOK_mk [903, 906] st_ok mk_ok in_ok (AllOK.cons ok128 AllOK.nil) f127_an Tryd.func127 (by kernel_rfl) (by kernel_rfl) f127_ct fun ⟨xs, n, _⟩ _ Q h => (v127 xs n Q).mp (p127 h)
theorem ct126 : CtOK Tryd.prog (assoc glT) (S0 [(127, f127_ct), (117, f117o_ct)] []) := ctOK_of (AllOK.cons ok127 (AllOK.cons ok117o AllOK.nil)) mk_ok in_ok
theorem st126 : StatOK Tryd.prog (S0 [(127, f127_ct), (117, f117o_ct)] []) := statOK_of st_ok
theorem ok119 : CallsOK Tryd.prog (assoc glT) 119 f119_ct where
  enters := mk119.1
  calls := fun X W x y vs cs hX hg hv hc Q hQ => by
    obtain ⟨v, rfl, hv⟩ := hv
    have hc : cs = [] := hc
    subst hc
    have hv : v = .int .i64 x := hv
    subst hv
    obtain ⟨h5, hQ⟩ := hQ
    refine (mk119.2 W _).mono ?_
    rintro e w' ⟨b, rfl, hb, hcell, hbel⟩
    have e1 : Evo X W X w' := Evo.below hX hbel
    refine ⟨famsF x.toNat, _, rfl, ⟨⟨_, _, _, rfl⟩, fun X' W' hev => ?_⟩, hbel, hQ⟩
    have hxb : ¬ X b := fun h => by have := hX b h; omega
    have hbw : b < w'.heap.size := (Array.getElem?_eq_some_iff.1 hcell).1
    refine seq_of (A := kFam) (C := arg1 (.ptr 3 kI)) (y := (x, ())) Tryd.func126 (by kernel_rfl) (by kernel_rfl) f126_an (fun l => y126_ct l (famsF x.toNat)) (fun _ => st126) (fun _ => ct126) (fun _ => rfl) (fun T hT hx B0 We => ?_) (fun l => (V126E l x _).mp (p126 h5)) hev.low (hg.evo (e1.trans hev)) (cs := [.pointer (some ⟨b, 0, none⟩)]) ?_
    · have := yopY_ok (A := kFam) (T := T) (B0 := B0) (We := We) st126 ct126 rfl hT (fun lab => Nat.beq lab 204) (fun id => cond (Nat.beq id 4) 11 0)
      rw [hx] at this
      exact this
    · refine ⟨_, _, rfl, ⟨b, _, rfl, hev.notIn hxb hbw, (hev.keep b ⟨_, _, _, hcell⟩ hxb).trans hcell, ?_⟩, rfl⟩
      exact ⟨_, rfl, rfl, rfl⟩
end Go.Proofs.Tw
