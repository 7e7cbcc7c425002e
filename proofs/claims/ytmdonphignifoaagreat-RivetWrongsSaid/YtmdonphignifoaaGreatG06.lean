/- Part 6 of the texts behind the proof: RzK, Gx26, Gx27, Gx28, RzCi, RzVi, RzV1, RzB, RzP1, RzI. -/
import Derived.Test.YtmdonphignifoaaGreatG05
import Derived.WalkKit
import Derived.Shelf.Lay
import Derived.Laws.Rows
import Derived.Lib.Walk
import Derived.Lib.SliceRun
import Derived.Lib.AppendZerosOnto
import Derived.Test.YtmdonphignifoaaGreatProg
set_option linter.unusedSimpArgs false
set_option linter.unusedVariables false
set_option linter.unusedSectionVars false
set_option maxRecDepth 100000
set_option linter.unusedVariables false
namespace Go.Proofs.Rz
open Go Go.GX Go.Proofs Go.RowKit Go.Shelf
variable [Inhabited BaseD]
theorem u_sl : Tryz.prog.underlying 43 = some (.slice 3) := by kernel_rfl
theorem u3 : Tryz.prog.underlying 3 = some (.int .i64) := by kernel_rfl
theorem e_sl : Tryz.prog.elem 43 = 3 := by kernel_rfl
theorem i3 : ∃ i z, Tryz.prog.info? 3 = some i ∧ i.zero = some z ∧ i.size = 1 ∧ i.bytes = 8 ∧ z.cells = #[.int .i64 0] := by
  obtain ⟨_, ⟨inf, z, g1, g2, g3, g4, g5⟩, _⟩ := (statOK_of (mkT := mkT) (glT := glT) (ctT := []) (inls := inlT) (lits := []) st_ok).ty 3 ⟨k3, 8⟩ rfl
  exact ⟨inf, z, g1, g4, g2, g3, Array.ext' g5⟩
theorem grow_zero (W : World) : Calls Tryz.prog 96 #[.slice none 0 0, .int .i64 ((0 : Nat) : Int)] W fun e w' => e = .returned (.slice none 0 0) ∧ w' = W := by
  have hu_sl := u_sl
  have hu3 := u3
  have he_sl := e_sl
  have hu_sl' : Tryz.prog.underlying 43 = some (.slice (Tryz.prog.elem 43)) := by rw [he_sl]; exact hu_sl
  go_enter Tryz.func96, Tryz.ntmps96
  go_wp2
  go_ret
  exact ⟨rfl, rfl⟩
theorem grow_pos (n : Nat) (h0 : n ≠ 0) (hn : n ≤ 1000000) (W : World) : Calls Tryz.prog 96 #[.slice none 0 0, .int .i64 n] W fun e w' =>
    ∃ cap cells, e = .returned (.slice (some ⟨W.heap.size, 0, none⟩) 0 cap) ∧ w' = W.drew.alloc (.cells cells 3) ∧ cap ≤ maxLen ∧ cells.size = cap := by
  obtain ⟨i0, z, hi0, hz0, hs0, hb0, hzc⟩ := i3
  have hu_sl := u_sl
  have hu3 := u3
  have he_sl := e_sl
  have hu_sl' : Tryz.prog.underlying 43 = some (.slice (Tryz.prog.elem 43)) := by rw [he_sl]; exact hu_sl
  have hsz : ∀ w, (Go.sizeOf 3).run Tryz.prog w = .ok 1 w := fun w => by simp [Go.sizeOf, typeInfo, hi0, hs0]
  have h1 : ¬ ((n : Int) < 0) := by omega
  have h4 : (n : Int) > 0 := by omega
  have h3 : wrap64 ((n : Int) - 0) = (n : Int) := by unfold wrap64; omega
  have hold : (Builtin.firstCells i0.size 0 (.slice none 0 0)).run Tryz.prog W.drew = .ok ([] : List Value).toArray W.drew := run_firstCells_none W.drew i0.size 0 0 0
  have hrz : ∀ ty, (Builtin.append_ #[43, 3] ty #[.slice none 0 0, .int .i64 (n : Int)]).run Tryz.prog W =
      .ok (.slice (some ⟨W.heap.size, 0, none⟩) n (grownCap W n 0 3)) (W.drew.alloc (.cells (([] : List Value).toArray ++ Builtin.zeroCells z.cells n ++ Builtin.zeroCells z.cells (grownCap W n 0 3 - n)) 3)) := fun ty => by
    have h := Lib.run_append_grow_zeros W 43 3 ty 3 i0 z .i64 .i64 hu_sl hu3 hi0 hz0 none 0 0 [] hold n (by omega) (by omega) (by omega) (by omega) (by rw [hb0]; omega)
      (growslice_fits (by omega) (by rw [hb0]; omega))
    rw [Nat.zero_add] at h
    exact h
  have hGn : n ≤ grownCap W n 0 3 := grownCap_ge W _ _ _
  have hGm : grownCap W n 0 3 ≤ maxLen := grownCap_le_maxLen W n 0 3 (by unfold maxLen; omega)
  obtain ⟨G, hG⟩ : ∃ G, G = grownCap W n 0 3 := ⟨_, rfl⟩
  rw [← hG] at hrz hGn hGm
  have hG63 : G ≤ 9223372036854775807 := by unfold maxLen at hGm; omega
  have hcs : ((([] : List Value).toArray ++ Builtin.zeroCells z.cells n ++ Builtin.zeroCells z.cells (G - n))).size = G := by
    simp [Array.size_append, size_zeroCells, hzc]; omega
  revert hrz hcs
  generalize (([] : List Value).toArray ++ Builtin.zeroCells z.cells n ++ Builtin.zeroCells z.cells (G - n)) = cells
  intro hrz hcs
  clear hold hG hzc
  go_enter Tryz.func96, Tryz.ntmps96
  go_wp2_with (at_builtin; refine Lib.wpList_append_run _ rfl _ _ _ _ rfl _ _ rfl rfl _ _ (hrz _) ?_)
  all_goals (go_ret; exact ⟨G, rfl, cells, rfl, hGm, hcs⟩)
theorem ok96 : CallsOK Tryz.prog (assoc glT) 96 f96_ct where
  enters := enters_of Tryz.func96 (by kernel_rfl) rfl
  calls := fun X W x y vs cs hX hg hv hc Q hQ => by
    obtain ⟨xo, n, u⟩ := x
    obtain ⟨v, vs', rfl, hv1, v2, vs2, rfl, hv2, hv3⟩ := hv
    have hv3 : vs2 = [] := hv3
    subst hv3
    have hc : cs = [] := hc
    subst hc
    obtain ⟨h1, h2, h3, h4⟩ := hQ
    have h1 : xo = none := h1
    subst h1
    have hv1 : v = .slice none 0 0 := hv1.1 rfl
    have hv2 : v2 = .int .i64 n := hv2
    subst hv1; subst hv2
    obtain ⟨m, hm⟩ := Int.eq_ofNat_of_zero_le (show (0 : Int) ≤ n from h2)
    have hm : n = (m : Int) := hm
    subst hm
    have h3 : (m : Int) ≤ 1000000 := h3
    by_cases h0 : m = 0
    · subst h0
      refine (grow_zero W).mono ?_
      rintro e w' ⟨rfl, rfl⟩
      refine ⟨[], _, [], rfl, ⟨_, rfl, ⟨_, _, _, rfl⟩, ⟨[], World.ownsRow_nil _ _ _ _, fun j x hx => by simp at hx⟩, rfl, by decide, rfl⟩, List.nodup_nil, fun k hk => by simp at hk, .refl _ _, h4⟩
    · refine (grow_pos m h0 (by omega) W).mono ?_
      rintro e w' ⟨cap, cells, rfl, rfl, hcap, hsz⟩
      refine ⟨[], _, [W.heap.size], rfl, ⟨_, rfl, ⟨_, _, _, rfl⟩, ⟨[], ?_, fun j x hx => by simp at hx⟩, rfl, by decide, rfl⟩, by simp, fun k hk => by simp at hk; omega, ?_, h4⟩
      · refine ⟨by simp, .inr ⟨W.heap.size, cap, cells, rfl, Nat.zero_le _, ?_, Nat.zero_le _, hcap, (by rw [hsz]; show cap = cap * 1; omega), by simp⟩⟩
        exact Go.heap_alloc_new W.drew _
      · exact Bel.ofBelow ⟨rfl, rfl, rfl, by simp, fun k hk => (World.grownBy_alloc W.drew _ none).block k hk (by simp)⟩
end Go.Proofs.Rz
set_option linter.unusedVariables false
namespace Go.GX
variable [Inhabited BaseD]
open Go.RowKit Go.Shelf Go.Proofs

def fullGo (m : Nat) : Nat → List Rec → Bool
  | _, [] => true
  | i, x :: r => (Nat.blt i m || Nat.beq x.anc (2 ^ i - 1)) && fullGo m (i + 1) r

def fullFrom (m : Nat) (ops : List Oper) : Bool := edgesAll 0 ops && fullGo m 0 (ancRecs ops [])

theorem fullGo_spec (m : Nat) (l : List Rec) : ∀ (i : Nat), fullGo m i l = true → ∀ j x, l[j]? = some x → m ≤ i + j → x.anc = 2 ^ (i + j) - 1 := by
  induction l with
  | nil => intro i h j o ho; simp at ho
  | cons x r ih =>
    intro i h j x' hx hm
    simp only [fullGo, Bool.and_eq_true, Bool.or_eq_true] at h
    cases j with
    | zero =>
      simp only [List.getElem?_cons_zero, Option.some.injEq] at hx
      subst hx
      rcases h.1 with h1 | h1
      · have : i < m := by simpa [Nat.blt_eq] using h1
        omega
      · exact Nat.eq_of_beq_eq_true h1
    | succ j =>
      have := ih (i + 1) h.2 j x' (by simpa using hx) (by omega)
      rwa [show i + 1 + j = i + (j + 1) by omega] at this

theorem full_ready {all : List Oper} {D : Nat → Bool} {m : Nat} (hf : fullFrom m all = true) (hc : ClosedE all D) {i : Nat} {o : Oper} (hm : m ≤ i) (ho : all[i]? = some o) (hr : ∀ e, e ∈ o.after.toList → Region.binds .any e = true → D e.on = true) : ∀ j, j < i → D j = true := by
  intro j hj
  simp only [fullFrom, Bool.and_eq_true] at hf
  obtain ⟨rs', h1, h2, h3⟩ := ancRecs_at all [] i o ho
  simp only [List.length_nil, Nat.zero_add] at h1 h2 h3
  have ha := fullGo_spec m _ 0 hf.2 i _ h1 (by omega)
  simp only [Nat.zero_add] at ha
  have hb : Nat.testBit (ancOf rs' o) j = true := by rw [ha, Nat.testBit_two_pow_sub_one]; simpa using hj
  obtain ⟨e, he, hbd, hcase⟩ := ancOf_spec hb
  have hon := hr e he hbd
  rcases hcase with rfl | ⟨y, hy, hyi⟩
  · exact hon
  · have hel : e.on < i := by rw [← h2]; exact (List.getElem?_eq_some_iff.1 hy).1
    exact ancRecs_closed hc e.on y (by rw [← h3 _ hel]; exact hy) hon j hyi

section
variable {P : Program} {glb : Nat → Option GV} {Bk X0 : Nat → Prop} {w0 : World} {st0 : St} {ρ0 : Lab} {S : Stat} {lab : Nat} {F : Fence} {n : Nat} {all : List Oper} {es : List Ef}

theorem any_tail {m : Nat} (hfull : fullFrom m all = true) {Q : Exit → Act → World → Prop} : ∀ (d i : Nat) (fuel : Nat) (listed : Array Bool) (a : Act) (W : World), all.length = i + d → d ≤ fuel → m ≤ i → listed.size = all.length → (∀ k, k < all.length → listed.getD k false = decide (k < i)) →
    wpListIn F n P all.toArray Q (all.drop i) a W → wpAnyIn F n P .any all.toArray Q fuel listed a W := by
  have none : ∀ (i : Nat) (listed : Array Bool), all.length = i → listed.size = all.length → (∀ k, k < all.length → listed.getD k false = decide (k < i)) → Region.ready .any all.toArray listed = [] := by
    intro i listed hl hsz hli
    cases hr : Region.ready .any all.toArray listed with
    | nil => rfl
    | cons j r =>
      obtain ⟨o, h1, h2, h3, _⟩ := ready_lt (i := j) (by rw [hr]; exact List.mem_cons_self)
      rw [getD_tf _ _ (by omega), hli j h2] at h3
      simp at h3
      omega
  intro d
  induction d with
  | zero =>
    intro i fuel listed a W hl hfu hm hsz hli h
    rw [List.drop_of_length_le (by omega)] at h
    have hn := none i listed (by omega) hsz hli
    cases fuel with
    | zero => exact ⟨hn, h⟩
    | succ fuel => exact ⟨fun _ => h, fun j hj => by rw [hn] at hj; cases hj⟩
  | succ d ih =>
    intro i fuel listed a W hl hfu hm hsz hli h
    obtain ⟨fuel, rfl⟩ : ∃ f, fuel = f + 1 := ⟨fuel - 1, by omega⟩
    have hlt : i < all.length := by omega
    rw [List.drop_eq_getElem_cons hlt] at h
    have hf := hfull
    simp only [fullFrom, Bool.and_eq_true] at hf
    have hin : i ∈ Region.ready .any all.toArray listed := by
      refine mem_ready.2 ⟨by rw [getD_tf _ _ (by omega), hli i hlt]; simp, all[i], by simp, fun e he hb => ?_⟩
      have hedge := edgesAll_spec all 0 hf.1 i _ (List.getElem?_eq_getElem hlt)
      simp only [edgesOK, List.all_eq_true] at hedge
      have := hedge e (by simpa using he)
      rw [hb] at this
      have hlt2 : e.on < i := by simpa [Nat.blt_eq] using this
      rw [hli e.on (by omega)]
      simpa using hlt2
    refine ⟨fun hr => (by rw [hr] at hin; cases hin), fun j hj => ?_⟩
    obtain ⟨o, h1, h2, h3, h4⟩ := ready_lt hj
    rw [getD_tf _ _ (by omega), hli j h2] at h3
    have hji : i ≤ j := by simpa using h3
    have hc : ClosedE all (fun k => listed.getD k false) := by
      intro k o hk hd e he hb
      have hklt := (List.getElem?_eq_some_iff.1 hk).1
      replace hd : listed.getD k false = true := hd
      show listed.getD e.on false = true
      rw [hli k hklt] at hd
      have hki : k < i := by simpa using hd
      have hedge := edgesAll_spec all 0 hf.1 k o hk
      simp only [edgesOK, List.all_eq_true] at hedge
      have := hedge e he
      rw [hb] at this
      have hlt2 : e.on < k := by simpa [Nat.blt_eq] using this
      rw [hli e.on (by omega)]
      simp; omega
    have : j = i := by
      by_cases hji2 : j = i
      · exact hji2
      · have := full_ready hfull hc (by omega) h1 h4 i (by omega)
        replace this : listed.getD i false = true := this
        rw [hli i hlt] at this
        simp at this
    subst this
    unfold wpOpIn
    have hgo : all.toArray[j]? = some all[j] := by simp
    rw [hgo]
    simp only [wpListIn] at h ⊢
    have next : ∀ a' W', wpListIn F n P all.toArray Q (all.drop (j + 1)) a' W' → wpAnyIn F n P .any all.toArray Q fuel (listed.setIfInBounds j true) a' W' := fun a' W' h' =>
      ih (j + 1) fuel _ a' W' (by omega) (by omega) (by omega) (by simpa using hsz) (fun k hk => by
        by_cases hkj : k = j
        · subst hkj; simp [hsz, hk]
        · have := getD_set_ne (listed := listed) false (Ne.symm hkj)
          rw [this, hli k hk]
          by_cases hkj2 : k < j
          · simp [hkj2]; omega
          · simp [hkj2]; omega) h'
    split at h
    · rename_i hw
      rw [if_pos hw]
      exact Oper.wpIn_mono next h
    · rename_i hw
      rw [if_neg hw]
      exact ⟨h.1, next _ _ h.2⟩

theorem any_then (hF : Wide F P) (hS : StatOK P S) (hct : CtOK P glb S) (hg : S.glb = glb) {m : Nat} (hf : Facts S all lab none st0 es) (hlen : es.length = m) (hm : m ≤ all.length) (hfull : fullFrom m all = true) {Q : Exit → Act → World → Prop}
    (hQ : ∀ a W, InvD P glb Bk X0 w0 es st0 ρ0 (fun k => decide (k < m)) a W → wpListIn F n P all.toArray Q (all.drop m) a W) : ∀ (fuel : Nat) (listed : Array Bool) (a : Act) (W : World), listed.size = all.length → (∀ k, k < all.length → m ≤ k → listed.getD k false = false) →
    (List.range all.length).countP (fun k => !listed.getD k false) ≤ fuel → InvD P glb Bk X0 w0 es st0 ρ0 (fun k => listed.getD k false) a W → Closed es (fun k => listed.getD k false) → ClosedE all (fun k => listed.getD k false) → wpAnyIn F n P .any all.toArray Q fuel listed a W := by
  have hfe := hfull
  simp only [fullFrom, Bool.and_eq_true] at hfe
  have lis : ∀ (listed : Array Bool), listed.size = all.length → (∀ k, k < all.length → m ≤ k → listed.getD k false = false) → (∀ k, k < m → listed.getD k false = true) → ∀ k, listed.getD k false = decide (k < m) := by
    intro listed hsz h1 h2 k
    by_cases hk : k < m
    · rw [h2 k hk]; simp [hk]
    · by_cases hkl : k < all.length
      · rw [h1 k hkl (by omega)]; simp [hk]
      · simp [hk, Array.getElem?_eq_none (by omega : listed.size ≤ k)]
  have cnt : ∀ (listed : Array Bool), (∀ k, listed.getD k false = decide (k < m)) → all.length - m ≤ (List.range all.length).countP (fun k => !listed.getD k false) := by
    intro listed h
    have e : (fun k => !listed.getD k false) = fun k => decide (m ≤ k) := by funext k; rw [h k]; by_cases hk : k < m <;> simp [hk] <;> omega
    rw [e]
    have : ∀ n, n - m ≤ (List.range n).countP (fun k => decide (m ≤ k)) := by
      intro n
      induction n with
      | zero => simp
      | succ n ih => rw [List.range_succ, List.countP_append]; by_cases hk : m ≤ n <;> simp [hk] <;> omega
    exact this _
  intro fuel
  induction fuel with
  | zero =>
    intro listed a W hsz hlo hcount hinv hcl hce
    have hall : ∀ k, k < all.length → listed.getD k false = true := by
      intro k hk
      have h0 : (List.range all.length).countP (fun k => !listed.getD k false) = 0 := by omega
      have := List.countP_eq_zero.1 h0 k (List.mem_range.2 hk)
      simpa using this
    have hml : m = all.length := by
      rcases Nat.lt_or_ge m all.length with h | h
      · have h1 := hlo m h (Nat.le_refl _)
        rw [hall m h] at h1; cases h1
      · omega
    have hlis := lis listed hsz hlo (fun k hk => hall k (by omega))
    refine any_tail hfull 0 m 0 listed a W (by omega) (Nat.le_refl _) (Nat.le_refl _) hsz (fun k _ => hlis k) (hQ a W ?_)
    have : (fun k => listed.getD k false) = fun k => decide (k < m) := funext hlis
    rwa [this] at hinv
  | succ fuel ih =>
    intro listed a W hsz hlo hcount hinv hcl hce
    by_cases hdone : ∀ k, k < m → listed.getD k false = true
    · have hlis := lis listed hsz hlo hdone
      refine any_tail hfull (all.length - m) m (fuel + 1) listed a W (by omega) (Nat.le_trans (cnt listed hlis) hcount) (Nat.le_refl _) hsz (fun k _ => hlis k) (hQ a W ?_)
      have : (fun k => listed.getD k false) = fun k => decide (k < m) := funext hlis
      rwa [this] at hinv
    · have hex : ∃ k, k < m ∧ listed.getD k false = false := by
        refine Classical.byContradiction fun hno => hdone fun k hk => ?_
        cases hq : listed.getD k false with
        | true => rfl
        | false => exact absurd ⟨k, hk, hq⟩ hno
      obtain ⟨k0, hk0, hk1⟩ := hex
      refine ⟨fun hr => ?_, fun i hi => ?_⟩
      · exfalso

        have : ∀ k, k < m → listed.getD k false = true := by
          intro k
          induction k using Nat.strongRecOn with
          | _ k ihk =>
            intro hk
            cases hd : listed.getD k false with
            | true => rfl
            | false =>
              exfalso
              have hek : all[k]? = some all[k] := List.getElem?_eq_getElem (by omega)
              have : k ∈ Region.ready .any all.toArray listed := by
                refine mem_ready.2 ⟨by rw [getD_tf listed k (by omega)]; exact hd, all[k], by simp, fun ed hed hb => ?_⟩
                have hedge := edgesAll_spec all 0 hfe.1 k _ hek
                simp only [edgesOK, List.all_eq_true] at hedge
                have := hedge ed (by simpa using hed)
                rw [hb] at this
                have hlt : ed.on < k := by simpa [Nat.blt_eq] using this
                exact ihk ed.on hlt (by omega)
              rw [hr] at this
              simp at this
        rw [this k0 hk0] at hk1; cases hk1
      · obtain ⟨o, h2, hlt, h1, h3⟩ := ready_lt hi
        have him : i < m := by
          rcases Nat.lt_or_ge i m with h | h
          · exact h
          · have := full_ready hfull hce h h2 h3 k0 (by omega)
            rw [hk1] at this; cases this
        have hd : listed.getD i false = false := by rw [← getD_tf listed i (by omega)]; exact h1
        have hset : (listed.setIfInBounds i true).getD i false = true := by simp [hsz, hlt]
        refine any_step hF hS hct hg hf (by omega) hcl (i := i) (D' := fun k => (listed.setIfInBounds i true).getD k false) (List.getElem?_eq_getElem (by omega)) h2 (fun hh => by cases hh) hd h3 hset (fun k hk => getD_set_ne false (Ne.symm hk)) (fun a' W' hinv' hcl' => ?_) hinv
        refine ih _ a' W' (by simpa using hsz) (fun k hk hmk => by rw [getD_set_ne false (by omega : i ≠ k)]; exact hlo k hk hmk) ?_ hinv' hcl' ?_
        · have hlt2 : (List.range all.length).countP (fun k => !(listed.setIfInBounds i true).getD k false) < (List.range all.length).countP (fun k => !listed.getD k false) := by
            refine countP_lt (fun x hx => ?_) _ i (List.mem_range.2 hlt) (by rw [hd]; rfl) (by rw [hset]; rfl)
            cases hq : listed.getD x false with
            | false => rfl
            | true => rw [getD_set_true hq] at hx; cases hx
          omega
        · intro k ok hk hdk e he hb
          by_cases hki : k = i
          · subst hki
            rw [h2] at hk; cases hk
            exact getD_set_true (h3 e he hb)
          · have hdk' : listed.getD k false = true := by
              have := getD_set_ne (listed := listed) false (Ne.symm hki)
              rw [← this]; exact hdk
            exact getD_set_true (hce k ok hk hdk' e he hb)

theorem vcAny_then (hF : Wide F P) (hS : StatOK P S) (hct : CtOK P glb S) (hg : S.glb = glb) (id : Nat) (ops : Array Oper) (lab m : Nat) (K : St → Prop) (Q : Exit → Act → World → Prop) (wr : List Nat)
    (hwr : ∀ (j : Nat) o d, ops.toList[j]? = some o → o.dst = some d → d ∈ wr) {a : Act} {W : World} (mt : Mt P glb Bk X0 w0 st0 ρ0 a W) (hm : m ≤ ops.toList.length) (hfull : fullFrom m ops.toList = true) (h : vcAny S ops.toList lab (ops.toList.take m) 0 [] st0 K)
    (hQ : ∀ a W, PostR P glb Bk X0 w0 st0 ρ0 wr K a W → wpListIn F n P ops Q (ops.toList.drop m) a W) : (Code.region id ops true).wpIn F n P Q a W := by
  obtain ⟨es, hlen, hf, hk⟩ := text_run S ops.toList lab none K st0 (ops.toList.take m) 0 [] st0 rfl (fun j x hx => by
      rw [Nat.zero_add]
      rw [List.getElem?_take] at hx
      split at hx
      · exact hx
      · cases hx) (fun i e he => by simp at he) rfl h
  rw [Nat.zero_add, List.length_take, Nat.min_eq_left hm] at hlen
  refine wpIn_region_any hS.mixed ?_
  have m1 : Mt P glb Bk X0 w0 st0 ρ0 a { W with drawn := W.drawn + 1 } := mt.below ⟨rfl, rfl, rfl, Nat.le_refl _, fun _ _ => rfl⟩
  have hsz : ops.size = ops.toList.length := by simp
  have noD : ∀ k, (Array.replicate ops.size false).getD k false = false := fun k => by simp only [Array.getD_eq_getD_getElem?, Array.getElem?_replicate]; split <;> rfl
  have := any_then (Bk := Bk) (X0 := X0) (w0 := w0) (ρ0 := ρ0) (n := n) hF hS hct hg hf hlen hm hfull (Q := Q) (fun a' W' hinv => ?_) ops.size (Array.replicate ops.size false) a { W with drawn := W.drawn + 1 } (by simp) (fun k _ _ => noD k) ?_ ?_ ?_ ?_
  · simpa using this
  · obtain ⟨ρ', dom, hle', m', hdom⟩ := hinv
    have hall : appD (fun k => decide (k < m)) es 0 st0 = allE es st0 := appD_all es 0 st0 (fun k hk => by rw [Nat.zero_add]; simp only [decide_eq_true_eq]; omega)
    have fin := hQ a' W' ⟨allE es st0, ρ', hk, ⟨?_, hle'⟩, m'.same ?_ (fun t => ?_) (fun l => ?_) (fun l v hv => ?_) ?_⟩
    · simpa using fin
    · refine allE_frm wr es st0 (fun e he d hd => ?_)
      obtain ⟨i, hi⟩ := List.getElem?_of_mem he
      obtain ⟨o, fe, _, _⟩ := hf i e hi
      exact hwr i o d fe.op (by rw [← fe.wr]; exact hd)
    · rw [allE_n]; rfl
    · rw [← hall]; rfl
    · rw [canon_look, hall]
    · refine (allE_dom es st0).2 ?_
      rcases hdom l (m'.dom l v hv) with h | ⟨k, e, he, _, h⟩
      · exact .inl h
      · exact .inr ⟨e, List.mem_of_getElem? he, h⟩
    · exact allE_stamp es st0 mt.stamp
  · exact Nat.le_trans List.countP_le_length (by simp)
  · refine ⟨ρ0, st0.dom, ρ0.le_refl, m1.same rfl (fun t => ?_) (fun l => ?_) (fun l v hv => mt.dom l v hv) (fun l he s hh => ?_), fun l hl => .inl hl⟩
    · show (appD _ es 0 st0).tm t = _
      rw [appD_none es 0 st0 noD]
    · rw [canon_look, appD_none es 0 st0 noD]
    · have : ((appD (fun k => (Array.replicate ops.size false).getD k false) es 0 st0).look l).map (fun h => (h, 0)) = some (he, s) := hh
      cases hq : (appD (fun k => (Array.replicate ops.size false).getD k false) es 0 st0).look l with
      | none => rw [hq] at this; cases this
      | some x => rw [hq] at this; cases this; exact Nat.le_refl _
  · intro k e he hd
    exact absurd ((noD k).symm.trans hd) (by decide)
  · intro k o hk hd
    exact absurd ((noD k).symm.trans hd) (by decide)
end
end Go.GX
set_option linter.unusedVariables false
namespace Go.GX
variable [Inhabited BaseD]
open Go.RowKit Go.Shelf Go.Proofs

structure YS (α : Type) where
  S : Stat
  isY : Nat → Bool
  yop : St → List α → Oper → (List α → Prop) → Prop
  fst : Nat → Nat

section
variable {α : Type} (Y : YS α)

def yStep (st : St) (lab : Nat) (o : Oper) (g : List α) (s : Bool) (k : SV → List (Nat × Option HE) → List α → Bool → Prop) : Prop :=
  match Y.isY lab with
  | true => chk (!s && noLn st.look st.dom) (Y.yop st g o fun g' => k (boolSV true) [] g' false ∧ k (boolSV false) [] g' true)
  | false => sem Y.S false st lab o fun sv u => k sv u g s

def yOps (all : List Oper) (lab : Nat) : List Oper → Nat → St → List α → Bool → (St → List α → Bool → Prop) → Prop
  | [], _, st, g, s, K => K st g s
  | o :: rest, i, st, g, s, K =>
    chk (freshL (lab + i) st.dom && dstOK st.n o.dst)
    (match o.guard with
    | none => yStep Y st (lab + i) o g s fun sv u g s => yOps all lab rest (i + 1) ((st.upds u).put o.dst sv) g s K
    | some (j, want) => match undS st all j with
      | some _ => yOps all lab rest (i + 1) (st.put o.dst (.tup [])) g s K
      | none => yieldS st all j fun d b =>
        gdS b want (yStep Y (st.put (some d) (boolSV want)) (lab + i) o g s fun sv u g s => yOps all lab rest (i + 1) (((st.put (some d) (boolSV want)).upds u).put o.dst sv) g s K)
          (yOps all lab rest (i + 1) ((st.put (some d) (boolSV (!want))).put o.dst (.tup [])) g s K))

def vcY (an : Nat → Items) : Code → St → List α → Bool → (Xt → St → List α → Bool → Prop) → Prop
  | .skip, st, g, s, K => K .norm st g s
  | .region id ops false, st, g, s, K => yOps Y ops.toList (id * 100) ops.toList 0 st g s (K .norm)
  | .region id ops true, st, g, s, K => chk (Nat.ble (Y.fst id) ops.toList.length && fullFrom (Y.fst id) ops.toList) (vcAny Y.S ops.toList (id * 100) (ops.toList.take (Y.fst id)) 0 [] st fun st =>
      yOps Y ops.toList (id * 100) (ops.toList.drop (Y.fst id)) (Y.fst id) st g s (K .norm))
  | .seq a b, st, g, s, K => vcY an a st g s fun x st' g s => match x with
    | .norm => vcY an b st' g s K
    | .exit i => K (.exit i) st' g s
    | .ret => K .ret st' g s
  | .cond c t e, st, g, s, K => oneB (ev Y.S st 0 c) fun b => cnd b (vcY an t (known st c true) g s K) (vcY an e (known st c false) g s K)
  | .block id (.loop body), st, g, s, K =>
    chk (!s && nodupL (an id).labs && (an id).ok st (codeWrites body)) <| ∃ (I : List α → (an id).Cur Prop) (μ : (an id).Cur Nat), (an id).get Y.S ((an id).kept st) st [] (fun x => (an id).app (I g) x) ∧
      ∀ g, (an id).All fun x => (an id).app (I g) x → vcY an body ((an id).head st (codeWrites body) x) g false fun e st' g s => match e with
        | .norm => chk (!s && keptOK (an id).labs ((an id).head st (codeWrites body) x) st' ((an id).labs ++ st.dom)) <| (an id).get Y.S ((an id).kept st) st' [] fun x' => (an id).app (I g) x' ∧ (an id).app μ x' < (an id).app μ x
        | .exit i => cond (Nat.beq i id) (K .norm st' g s) (K (.exit i) st' g s)
        | .ret => K .ret st' g s
  | .block id (.rangeFunc f ps asg body), st, g, s, K => vc Y.S an (.block id (.rangeFunc f ps asg body)) st fun x st' => K x st' g s
  | .block id c, st, g, s, K => vcY an c st g s fun x st' g s => match x with
    | .norm => K .norm st' g s
    | .exit i => cond (Nat.beq i id) (K .norm st' g s) (K (.exit i) st' g s)
    | .ret => K .ret st' g s
  | .exit id, st, g, s, K => K (.exit id) st g s
  | .ret, st, g, s, K => K .ret st g s
  | _, _, _, _, _ => False
end

theorem Kept.trans {X : Nat → Prop} {W0 : World} {I I' : Nat → Prop} {A B C : World} (h : Kept X W0 I A B) (h' : Kept X W0 I' B C) (hi : ∀ k, I k → I' k) : Kept X W0 I A C where
  os := h'.os.trans h.os
  tape := h'.tape.trans h.tape
  output := h'.output.trans h.output
  size := Nat.le_trans h.size h'.size
  own := fun k hk hn => (h'.own k (hi k hk) (fun hm es c hc => by rw [h.own k hk hn] at hc; exact hn hm es c hc)).trans (h.own k hk hn)
  old := fun k hc hlt hx => by
    have e1 := h.old k hc hlt hx
    obtain ⟨cs, t, fr, hc⟩ := hc
    exact (h'.old k ⟨cs, t, fr, e1.trans hc⟩ hlt hx).trans e1
  memo := fun mm xs hp hg => h'.memo mm xs (hp.keep (fun k hc hx => by
      have hx : I k ∨ (k < W0.heap.size ∧ ¬ X k) := Classical.byContradiction hx
      rcases hx with hx | hx
      · exact h.own k hx (noMap_cells hc)
      · exact h.old k hc hx.1 hx.2) (fun k hx _ hn => hx fun hh => hn (hh.imp (hi k) id))) (h.memo mm xs hp hg)

structure Yt (P : Program) (α : Type) where
  vals : (Nat → Prop) → World → α → List Value → Prop
  X : Nat → Prop
  W0 : World
  n : Nat
  l : Nat
  xs : List α
  J : List α → (Nat → Prop) → World → Prop
  Jx : (Nat → Prop) → World → Prop
  jt : ∀ pre I W I' W', J pre I W → Turned I W I' W' → J pre I' W'
  jxt : ∀ I W I' W', Jx I W → Turned I W I' W' → Jx I' W'
  yd : ∀ pre x rest I W vs, xs = pre ++ x :: rest → J pre I W → (∀ k, I k → W0.heap.size ≤ k ∧ k < W.heap.size) → W0.heap.size ≤ W.heap.size → vals (fun k => ¬ I k) W x vs →
      YieldAt Fence.wide n P l vs.toArray W fun e W' => (e = .returned (.bool true) ∧ J (pre ++ [x]) I W' ∧ Kept X W0 I W W') ∨ (e = .returned (.bool false) ∧ Jx I W' ∧ Kept X W0 I W W')

section
variable {P : Program} {glb : Nat → Option GV} {α : Type}

def yBk (B0 I : Nat → Prop) (W : World) (k : Nat) : Prop := k < W.heap.size ∧ (¬ I k ∨ B0 k)
def yX (T : Yt P α) (I : Nat → Prop) (W : World) (k : Nat) : Prop := k < W.heap.size ∧ ¬ I k ∧ (T.W0.heap.size ≤ k ∨ T.X k)

def nowI (I : Nat → Prop) (Wl W : World) (k : Nat) : Prop := I k ∨ (Wl.heap.size ≤ k ∧ k < W.heap.size)

structure ItOK (glb : Nat → Option GV) (T : Yt P α) (B0 : Nat → Prop) (We : World) (g : List α) (s : Bool) (st : St) (ρ : Lab) (a : Act) (W : World) (I : Nat → Prop) (Wl : World) : Prop where
  j : s = false → T.J g I Wl
  jx : s = true → T.Jx I Wl
  b0 : ∀ k, B0 k → I k
  new : ∀ k, I k → B0 k ∨ We.heap.size ≤ k
  low : ∀ k, I k → T.W0.heap.size ≤ k ∧ k < Wl.heap.size
  sz : T.W0.heap.size ≤ Wl.heap.size
  kept : Kept T.X T.W0 B0 We Wl
  mt : Mt P glb (yBk B0 I Wl) (yX T I Wl) Wl st ρ a W

section
variable {T : Yt P α} {B0 I : Nat → Prop} {We Wl W W' : World} {g : List α} {s : Bool} {st st' : St} {ρ ρ' : Lab} {a a' : Act}

theorem ItOK.go (h : ItOK glb T B0 We g s st ρ a W I Wl) (m : Mt P glb (yBk B0 I Wl) (yX T I Wl) Wl st' ρ' a' W') : ItOK glb T B0 We g s st' ρ' a' W' I Wl :=
  ⟨h.j, h.jx, h.b0, h.new, h.low, h.sz, h.kept, m⟩

theorem ItOK.turned (h : ItOK glb T B0 We g s st ρ a W I Wl) : Turned I Wl (nowI I Wl W) W where
  os := h.mt.bel.os
  tape := h.mt.bel.tape
  output := h.mt.bel.output
  size := h.mt.bel.size
  keep := fun k hk hi => h.mt.bel.block k ⟨hk, .inl hi⟩
  memo := fun mm xs hp hg => h.mt.bel.memo mm xs (hp.mono fun k hx hc hn => hn ⟨cells_lt hc, .inl hx⟩) hg
  more := fun k hk => .inl hk
  new := fun k hk => hk

theorem ItOK.nowLow (h : ItOK glb T B0 We g s st ρ a W I Wl) : ∀ k, nowI I Wl W k → T.W0.heap.size ≤ k ∧ k < W.heap.size := by
  rintro k (hk | hk)
  · exact ⟨(h.low k hk).1, Nat.lt_of_lt_of_le (h.low k hk).2 h.mt.bel.size⟩
  · exact ⟨Nat.le_trans h.sz hk.1, hk.2⟩

theorem ItOK.nowSz (h : ItOK glb T B0 We g s st ρ a W I Wl) : T.W0.heap.size ≤ W.heap.size := Nat.le_trans h.sz h.mt.bel.size

theorem ItOK.ownNow (h : ItOK glb T B0 We g s st ρ a W I Wl) {l : Nat} {he : HE} {q : Nat} {v : Value} {k : Nat} (h1 : st.hp l = some (he, q)) (h2 : ρ l = some v) (h3 : OwnB ρ he v k) (hl : he.isLn = false) : nowI I Wl W k ∧ ¬ B0 k := by
  have hnb := (h.mt.nb l he q v k h1 h2 h3).1 hl
  obtain ⟨v', hv', hok⟩ := h.mt.hps l he q h1
  rw [h2] at hv'; cases hv'
  have hlt := (hok.lt h3).2
  by_cases hk : k < Wl.heap.size
  · have : I k ∧ ¬ B0 k := ⟨Classical.byContradiction fun hi => hnb ⟨hk, .inl hi⟩, fun hb => hnb ⟨hk, .inr hb⟩⟩
    exact ⟨.inl this.1, this.2⟩
  · refine ⟨.inr ⟨by omega, hlt⟩, fun hb => ?_⟩
    have := (h.low k (h.b0 k hb)).2
    omega

theorem ItOK.keptW (h : ItOK glb T B0 We g s st ρ a W I Wl) : Kept T.X T.W0 B0 Wl W :=
  have key : ∀ k, B0 k ∨ (k < T.W0.heap.size ∧ ¬ T.X k) → yBk B0 I Wl k := by
    rintro k (hb | hb)
    · exact ⟨(h.low k (h.b0 k hb)).2, .inr hb⟩
    · exact ⟨Nat.lt_of_lt_of_le hb.1 h.sz, .inl fun hi => by have := (h.low k hi).1; omega⟩
  ⟨h.mt.bel.os, h.mt.bel.tape, h.mt.bel.output, h.mt.bel.size, fun k hb => h.mt.bel.block k (key k (.inl hb)), fun k hc hlt hx => h.mt.bel.block k (key k (.inr ⟨hlt, hx⟩)) (noMap_cells hc),
    fun mm xs hp hg => h.mt.bel.memo mm xs (hp.mono fun k hx _ hn => hx fun h => hn (key k h)) hg⟩

theorem ItOK.after (h : ItOK glb T B0 We g s st ρ a W I Wl) (hln : noLn st.look st.dom = true) {g' : List α} {s' : Bool} {I' : Nat → Prop} (hj : s' = false → T.J g' I' W') (hjx : s' = true → T.Jx I' W')
    (hmore : ∀ k, nowI I Wl W k → I' k) (hnew : ∀ k, I' k → nowI I Wl W k ∨ (W.heap.size ≤ k ∧ k < W'.heap.size)) (hk : Kept T.X T.W0 (nowI I Wl W) W W') : ItOK glb T B0 We g' s' st ρ a W' I' W' := by
  have m := h.mt
  have hlow := h.nowLow
  have hlow' : ∀ k, I' k → T.W0.heap.size ≤ k ∧ k < W'.heap.size := by
    intro k hk'
    rcases hnew k hk' with h1 | h1
    · exact ⟨(hlow k h1).1, Nat.lt_of_lt_of_le (hlow k h1).2 hk.size⟩
    · exact ⟨Nat.le_trans h.nowSz h1.1, h1.2⟩
  have noln : ∀ {l he q}, st.hp l = some (he, q) → he.isLn = false := by
    intro l he q hl
    obtain ⟨v, hv, _⟩ := m.hps l he q hl
    exact noLn_spec hln l (memL_iff.1 (m.dom l v hv)) he (by show (st.hp l).map (·.1) = some he; rw [hl]; rfl)
  have hown : ∀ {l he q v k}, st.hp l = some (he, q) → ρ l = some v → OwnB ρ he v k → nowI I Wl W k ∧ ¬ B0 k := fun h1 h2 h3 => h.ownNow h1 h2 h3 (noln h1)

  have hWlW : Kept T.X T.W0 B0 Wl W := h.keptW
  have key : ∀ k, (∃ cs t fr, W.heap[k]? = some (.cells cs t fr)) → ¬ Xs st ρ (yX T I Wl) k → nowI I Wl W k ∨ (k < T.W0.heap.size ∧ ¬ T.X k) := by
    intro k hc hx
    by_cases hn : nowI I Wl W k
    · exact .inl hn
    · have hlt : k < W.heap.size := cells_lt hc
      have hkl : k < Wl.heap.size := by
        rcases Nat.lt_or_ge k Wl.heap.size with h1 | h1
        · exact h1
        · exact absurd (.inr ⟨h1, hlt⟩) hn
      have hno : ¬ (T.W0.heap.size ≤ k ∨ T.X k) := fun h2 => hx (.inl ⟨hkl, fun hi => hn (.inl hi), h2⟩)
      exact .inr ⟨Nat.lt_of_not_le fun h3 => hno (.inl h3), fun h3 => hno (.inr h3)⟩
  have ev : Evo (Xs st ρ (yX T I Wl)) W (Xs st ρ (yX T I' W')) W' := by
    refine ⟨hk.size, fun k hc hx => ?_, fun k hx hlt => ?_, ?_, fun mm xs hp hg => hk.memo mm xs (hp.mono fun k hx hc hno => hno (key k hc hx)) hg⟩
    · rcases key k hc hx with h1 | h1
      · exact hk.own k h1 (noMap_cells hc)
      · exact hk.old k hc h1.1 h1.2
    · rcases hx with ⟨h1, h2, h3⟩ | hx
      · have hn : ¬ nowI I Wl W k := fun hn => h2 (hmore k hn)
        have hkl : k < Wl.heap.size := by
          rcases Nat.lt_or_ge k Wl.heap.size with h1 | h1
          · exact h1
          · exact absurd (.inr ⟨h1, hlt⟩) hn
        exact .inl ⟨hkl, fun hi => hn (.inl hi), h3⟩
      · exact .inr hx
    · rintro k (hx | ⟨l, he, q, v, h1, h2, h3⟩)
      · exact hx.1
      · exact Nat.lt_of_lt_of_le (hlow k (hown h1 h2 h3).1).2 hk.size
  refine ⟨hj, hjx, fun k hb => hmore k (.inl (h.b0 k hb)), fun k hk' => ?_, hlow', Nat.le_trans h.nowSz hk.size, ?_, ?_⟩
  · rcases hnew k hk' with (h1 | h1) | h1
    · exact h.new k h1
    · exact .inr (Nat.le_trans h.kept.size h1.1)
    · exact .inr (Nat.le_trans (Nat.le_trans h.kept.size m.bel.size) h1.1)
  · exact (h.kept.trans hWlW fun _ h => h).trans hk fun k hb => .inl (h.b0 k hb)
  · refine ⟨m.size, ?_, fun t => (m.tms t).mono ρ.le_refl ev, fun l he q hl => ?_, m.dis, fun k hx => hx.1, fun k hb => hb.1, .refl _ _, fun l he q v k h1 h2 h3 => ⟨fun _ hb => ?_, fun hx => ?_⟩, m.glb.evo ev, m.dom, m.stamp⟩
    · obtain ⟨Ds, d1, d2, d3⟩ := m.dfr
      refine ⟨Ds, d1, d2, fun D hD => ?_⟩
      obtain ⟨g1, g2⟩ := d3 D hD
      have hlt := (Array.getElem?_eq_some_iff.1 g1).1
      have hn : nowI I Wl W D ∧ ¬ B0 D := by
        by_cases hkl : D < Wl.heap.size
        · exact ⟨.inl (Classical.byContradiction fun hi => g2 ⟨hkl, .inl hi⟩), fun hb => g2 ⟨hkl, .inr hb⟩⟩
        · exact ⟨.inr ⟨by omega, hlt⟩, fun hb => by have := (h.low D (h.b0 D hb)).2; omega⟩
      exact ⟨(hk.own D hn.1 (fun _ es c hc => by rw [g1] at hc; cases hc)).trans g1, fun hb => hb.2.elim (fun hi => hi (hmore D hn.1)) hn.2⟩
    · obtain ⟨v, hv, hok⟩ := m.hps l he q hl
      exact ⟨v, hv, hok.mono ρ.le_refl ev (fun k hk' => hk.own k (hown hl hv hk').1 (noMap_cells (hok.cells hk')))⟩
    · exact hb.2.elim (fun hi => hi (hmore k (hown h1 h2 h3).1)) (hown h1 h2 h3).2
    · exact hx.2.1 (hmore k (hown h1 h2 h3).1)
end

def YR (T : Yt P α) (I : Nat → Prop) (W : World) (k : List α → Prop) (e : Ending) (W' : World) : Prop :=
  ∃ b g' I', e = .returned (.bool b) ∧ k g' ∧ (b = true → T.J g' I' W') ∧ (b = false → T.Jx I' W') ∧ (∀ j, I j → I' j) ∧ (∀ j, I' j → I j ∨ (W.heap.size ≤ j ∧ j < W'.heap.size)) ∧ Kept T.X T.W0 I W W'

def YOut (P : Program) (o : Oper) (a : Act) (W : World) (R : Ending → World → Prop) : Prop :=
  (∃ l f tmps asg body, (execOp a.eval o).run P W = .ok (.round l f tmps asg body) W ∧ RoundIn Fence.wide 0 P l f tmps asg body W R) ∨ (∃ f args, (execOp a.eval o).run P W = .ok (.enter f args) W ∧ Calls P f args W R)

structure YopOK (glb : Nat → Option GV) (T : Yt P α) (B0 : Nat → Prop) (We : World) (Y : YS α) : Prop where
  ok : ∀ (st : St) (ρ : Lab) (a : Act) (W : World) (g : List α) (o : Oper) (k : List α → Prop) (I : Nat → Prop) (Wl : World), ItOK glb T B0 We g false st ρ a W I Wl → T.J g (nowI I Wl W) W → Y.yop st g o k →
    YOut P o a W (YR T (nowI I Wl W) W k) ∧ ∀ c, o.op ≠ .defer c

theorem round_any {m m' : Nat} {l : Nat} {f : FuncId} {tmps : Array Value} {assign body : Code} {w : World} {R : Ending → World → Prop} (h : RoundIn Fence.wide m P l f tmps assign body w R) : RoundIn Fence.wide m' P l f tmps assign body w R :=
  ⟨h.1, fun c cs _ => h.2 c cs (fun d h => by cases h)⟩

theorem YOut.wpIn {n : Nat} {o : Oper} {a : Act} {W : World} {R : Ending → World → Prop} {next : Act → World → Prop} {Q : Exit → Act → World → Prop} (hd : ∀ c, o.op ≠ .defer c)
    (h : YOut P o a W R) (hn : ∀ e w', R e w' → ∃ v, e = .returned v ∧ next (a.put o.dst v) w') : o.wpIn Fence.wide n P a W next Q := by
  refine ⟨fun f _ => trivial, ?_⟩
  rw [Oper.semAt_eq _ _ _ hd]
  rcases h with ⟨l, f, tmps, asg, body, h1, h2⟩ | ⟨f, args, h1, h2⟩
  · rw [h1]
    refine ⟨fun h => (by cases h), (round_any h2).mono ?_⟩
    intro e w' hr
    obtain ⟨v, rfl, h⟩ := hn e w' hr
    exact h
  · rw [h1]
    refine ⟨fun h => (by cases h), (callsIn_wide.2 h2).mono ?_⟩
    intro e w' hr
    obtain ⟨v, rfl, h⟩ := hn e w' hr
    exact h

section
variable {T : Yt P α} {B0 : Nat → Prop} {We : World} {Y : YS α}

def PostY (glb : Nat → Option GV) (T : Yt P α) (B0 : Nat → Prop) (We : World) (st : St) (ρ : Lab) (wr : List Nat) (K : Xt → St → List α → Bool → Prop) (e : Exit) (a : Act) (W : World) : Prop :=
  ∃ x st' ρ' g s I Wl, e = x.ex ∧ K x st' g s ∧ (Frm st st' wr ∧ ρ.le ρ') ∧ ItOK glb T B0 We g s st' ρ' a W I Wl

theorem yStep_ok {n : Nat} (hS : StatOK P Y.S) (hct : CtOK P glb Y.S) (hg : Y.S.glb = glb) (hy : YopOK glb T B0 We Y) {st : St} {ρ : Lab} {a : Act} {W : World} {g : List α} {s : Bool} {I : Nat → Prop} {Wl : World} {lab : Nat} {o : Oper} {k : SV → List (Nat × Option HE) → List α → Bool → Prop}
    {next : Act → World → Prop} {Q : Exit → Act → World → Prop} (hfr : freshL lab st.dom = true) (h : ItOK glb T B0 We g s st ρ a W I Wl) (hk : yStep Y st lab o g s k)
    (hn : ∀ sv u g' s' ρ' v W' I' Wl', k sv u g' s' → ρ.le ρ' → ItOK glb T B0 We g' s' (st.upds u) ρ' a W' I' Wl' → RepV P ρ' (Xs (st.upds u) ρ' (yX T I' Wl')) W' sv v → next (a.put o.dst v) W') : o.wpIn Fence.wide n P a W next Q := by
  unfold yStep at hk
  cases hi : Y.isY lab with
  | false =>
    rw [hi] at hk
    obtain ⟨h1, h2⟩ := sem_ok hS hct hg h.mt hfr hk
    refine h1.wpIn (Wide.wide P) h2 fun v w' hfit => ?_
    obtain ⟨sv, u, ρ', hk', hle, m', hv, _⟩ := hfit
    exact hn sv u g s ρ' v w' I Wl hk' hle (h.go m') hv
  | true =>
    rw [hi] at hk
    obtain ⟨hc, hk2⟩ := chk_iff.1 hk
    clear hk
    simp only [Bool.and_eq_true, Bool.not_eq_true'] at hc
    obtain ⟨hs, hln⟩ := hc
    subst hs
    obtain ⟨h1, h2⟩ := hy.ok st ρ a W g o _ I Wl h (T.jt _ _ _ _ _ (h.j rfl) h.turned) hk2
    refine h1.wpIn h2 fun e w' hr => ?_
    obtain ⟨b, g', I', rfl, ⟨k1, k2⟩, hj, hjx, hmore, hnew, hkept⟩ := hr
    refine ⟨_, rfl, ?_⟩
    cases b with
    | true => exact hn (boolSV true) [] g' false ρ (.bool true) w' I' w' k1 ρ.le_refl (h.after hln (fun _ => hj rfl) (fun h => by cases h) hmore hnew hkept) (rep_bool true)
    | false => exact hn (boolSV false) [] g' true ρ (.bool false) w' I' w' k2 ρ.le_refl (h.after hln (fun h => by cases h) (fun _ => hjx rfl) hmore hnew hkept) (rep_bool false)

def PostRY (glb : Nat → Option GV) (T : Yt P α) (B0 : Nat → Prop) (We : World) (st : St) (ρ : Lab) (wr : List Nat) (K : St → List α → Bool → Prop) (a : Act) (W : World) : Prop :=
  ∃ st' ρ' g s I Wl, K st' g s ∧ (Frm st st' wr ∧ ρ.le ρ') ∧ ItOK glb T B0 We g s st' ρ' a W I Wl

theorem yOps_ok {n : Nat} (hS : StatOK P Y.S) (hct : CtOK P glb Y.S) (hg : Y.S.glb = glb) (hy : YopOK glb T B0 We Y) (all : List Oper) (lab : Nat) (K : St → List α → Bool → Prop) (Q : Exit → Act → World → Prop) (st0 : St) (ρ0 : Lab) (wr : List Nat)
    (hwr : ∀ (j : Nat) o d, all[j]? = some o → o.dst = some d → d ∈ wr) (hQ : ∀ a W, PostRY glb T B0 We st0 ρ0 wr K a W → Q .normal a W) :
    ∀ (rest : List Oper) (i : Nat) (st : St) (ρ : Lab) (a : Act) (W : World) (g : List α) (s : Bool) (I : Nat → Prop) (Wl : World), (∀ j, rest[j]? = all[i + j]?) → Frm st0 st wr ∧ ρ0.le ρ → ItOK glb T B0 We g s st ρ a W I Wl → yOps Y all lab rest i st g s K → wpListIn Fence.wide n P all.toArray Q rest a W
  | [], i, st, ρ, a, W, g, s, I, Wl, hr, hf, m, h => hQ a W ⟨st, ρ, g, s, I, Wl, h, hf, m⟩
  | o :: rest, i, st, ρ, a, W, g, s, I, Wl, hr, hf, m, h => by
    have hr' : ∀ j, rest[j]? = all[i + 1 + j]? := fun j => by have := hr (j + 1); rw [List.getElem?_cons_succ] at this; rw [this]; congr 1; omega
    have ho : all[i]? = some o := by have := hr 0; simpa using this.symm
    have hod : ∀ d, o.dst = some d → d ∈ wr := fun d hd => hwr i o d ho hd
    simp only [yOps] at h
    obtain ⟨hb, h⟩ := chk_iff.1 h
    simp only [Bool.and_eq_true, Bool.not_eq_true'] at hb
    obtain ⟨hfr, hdst⟩ := hb
    have ih := fun st ρ a W g s I Wl hf m h => yOps_ok (n := n) hS hct hg hy all lab K Q st0 ρ0 wr hwr hQ rest (i + 1) st ρ a W g s I Wl hr' hf m h
    simp only [wpListIn]
    cases hgd : o.guard with
    | none =>
      rw [hgd] at h
      rw [wanted_none hgd]
      simp only [if_true]
      refine yStep_ok hS hct hg hy hfr m h fun sv u g' s' ρ' v w' I' Wl' hk hle m' hv => ?_
      refine ih _ ρ' _ w' g' s' I' Wl' ?_ (m'.go (m'.mt.put o.dst sv v ?_ hv)) hk
      · exact ⟨(hf.1.trans (upds_frm wr u st)).trans (put_frm _ _ _ _ hod), hf.2.trans hle⟩
      · rw [(upds_frm wr u st).n]; exact hdst
    | some p =>
      obtain ⟨j, want⟩ := p
      rw [hgd] at h
      simp only at h
      cases hu : undS st all j with
      | some d =>
        rw [hu] at h
        obtain ⟨ht, hlt, oj, hoj, hojd⟩ := undS_ok hu
        have hrep := m.mt.tms d
        rw [ht] at hrep
        obtain ⟨vs, hvs, hnil⟩ := hrep
        have hnil : vs = [] := hnil
        subst hnil
        have : Region.wanted o (yielded all.toArray a.tmps) = false := by simp [Region.wanted, hgd, yielded_und hoj hojd hvs]
        rw [this]
        simp only [Bool.false_eq_true, if_false]
        refine ⟨fun f _ => trivial, ?_⟩
        refine ih _ ρ _ W g s I Wl ?_ (m.go (m.mt.put o.dst (.tup []) undef hdst rep_und)) h
        exact ⟨hf.1.trans (put_frm _ _ _ _ hod), hf.2⟩
      | none =>
      rw [hu] at h
      simp only at h
      obtain ⟨d, b, hk, hval, hyd, oj, hoj, hojd⟩ := yieldS_ok m.mt h
      have hdw : d ∈ wr := hwr j oj d hoj hojd
      obtain ⟨k1, k2⟩ := gdS_iff.1 hk
      have hwant : Region.wanted o (yielded all.toArray a.tmps) = (some b == some want) := by simp [Region.wanted, hgd, hyd]
      have know : ∀ c : Bool, b = c → ItOK glb T B0 We g s (st.put (some d) (boolSV c)) ρ a W I Wl := fun c hc => m.go (m.mt.know d _ (by rw [hval, hc]; exact rep_bool c))
      have hfk : ∀ c : Bool, Frm st0 (st.put (some d) (boolSV c)) wr := fun c => hf.1.trans (put_frm _ _ _ _ (fun d' hd' => by cases hd'; exact hdw))
      by_cases hbw : b = want
      · have : Region.wanted o (yielded all.toArray a.tmps) = true := by rw [hwant, hbw]; simp
        rw [this]
        simp only [if_true]
        have m1 := know want hbw
        refine yStep_ok (st := st.put (some d) (boolSV want)) hS hct hg hy hfr m1 (k1 hbw) fun sv u g' s' ρ' v w' I' Wl' hk' hle m' hv => ?_
        refine ih _ ρ' _ w' g' s' I' Wl' ?_ (m'.go (m'.mt.put o.dst sv v ?_ hv)) hk'
        · exact ⟨((hfk want).trans (upds_frm wr u _)).trans (put_frm _ _ _ _ hod), hf.2.trans hle⟩
        · rw [(upds_frm wr u _).n]; exact hdst
      · have : Region.wanted o (yielded all.toArray a.tmps) = false := by
          rw [hwant]
          cases b <;> cases want <;> first | rfl | exact absurd rfl hbw
        rw [this]
        simp only [Bool.false_eq_true, if_false]
        refine ⟨fun f _ => trivial, ?_⟩
        have hbn : b = !want := by cases b <;> cases want <;> first | rfl | exact absurd rfl hbw
        have m2 := know (!want) hbn
        refine ih _ ρ _ W g s I Wl ?_ (m2.go (m2.mt.put o.dst (.tup []) undef hdst rep_und)) (k2 hbw)
        exact ⟨(hfk (!want)).trans (put_frm _ _ _ _ hod), hf.2⟩

def YcOK (glb : Nat → Option GV) (T : Yt P α) (B0 : Nat → Prop) (We : World) (n : Nat) (Y : YS α) (an : Nat → Items) (c : Code) : Prop :=
  ∀ (st : St) (ρ : Lab) (a : Act) (W : World) (g : List α) (s : Bool) (I : Nat → Prop) (Wl : World) (K : Xt → St → List α → Bool → Prop), ItOK glb T B0 We g s st ρ a W I Wl → vcY Y an c st g s K → c.wpIn Fence.wide n P (PostY glb T B0 We st ρ (codeWrites c) K) a W

theorem vcY_block (an : Nat → Items) (id : Nat) (c : Code) {st : St} {g : List α} {s : Bool} (K : Xt → St → List α → Bool → Prop) (hc : ∀ b, c ≠ .loop b) (hc2 : ∀ f ps x y, c ≠ .rangeFunc f ps x y) : vcY Y an (.block id c) st g s K = vcY Y an c st g s fun x st' g s => match x with
    | .norm => K .norm st' g s
    | .exit i => cond (Nat.beq i id) (K .norm st' g s) (K (.exit i) st' g s)
    | .ret => K .ret st' g s := by
  cases c <;> first | rfl | exact absurd rfl (hc _) | exact absurd rfl (hc2 _ _ _ _)

theorem loopY_ok {n : Nat} (hct : CtOK P glb Y.S) (an : Nat → Items) (id : Nat) (body : Code) (ih : YcOK glb T B0 We n Y an body) : YcOK glb T B0 We n Y an (.block id (.loop body)) := by
  intro st ρ a W g s I Wl K m h
  simp only [vcY] at h
  obtain ⟨hc, Iv, μ, h1, h2⟩ := chk_iff.1 h
  simp only [Bool.and_eq_true, Bool.not_eq_true'] at hc
  obtain ⟨⟨hs, hnd⟩, hok⟩ := hc
  subst hs
  have hA := m.mt.ahead (an id) (codeWrites body)
  refine wpIn_block ?_
  let Inv : (an id).G → Act → World → Prop := fun x a W => ∃ g ρ' I Wl, (an id).app (Iv g) x ∧ ItOK glb T B0 We g false ((an id).head st (codeWrites body) x) ρ' a W I Wl ∧ ρ.le ρ'
  refine wpIn_loop (fun a W => ∃ x, Inv x a W) (least Inv ((an id).app μ)) ?_ ?_
  · obtain ⟨x, ρh, hk, mh⟩ := m.mt.head hct (an id) (codeWrites body) hA hnd hok h1
    exact ⟨x, g, ρh, I, Wl, hk, m.go mh.1, fun l v hv => by rw [mh.2.1 l (m.mt.dom l v hv)]; exact hv⟩
  · rintro a1 W1 ⟨x0, hx0⟩
    obtain ⟨x, ⟨g1, ρg, I1, Wl1, hI, mg, hleg⟩, hμ⟩ := least_at (μ := (an id).app μ) hx0
    refine wpIn_mono (ih _ ρg a1 W1 g1 false I1 Wl1 _ mg (All_spec (h2 g1) x hI)) ?_
    rintro e a2 W2 ⟨xt, st2, ρ2, g2, s2, I2, Wl2, rfl, hk, hf, m2⟩
    have hfr : Frm st st2 (codeWrites body) ∧ ρ.le ρ2 := ⟨(head_frm x hok).trans hf.1, hleg.trans hf.2⟩
    cases xt with
    | norm =>
      obtain ⟨hkept, hget⟩ := chk_iff.1 hk
      simp only [Bool.and_eq_true, Bool.not_eq_true'] at hkept
      obtain ⟨hs2, hkept⟩ := hkept
      subst hs2
      obtain ⟨x', ρ', ⟨hI', hlt⟩, m0, hold', _⟩ := m2.mt.head hct (an id) (codeWrites body) (hA.next hok hf.1 hkept) hnd hok hget
      have hinv : Inv x' a2 W2 := ⟨g2, ρ', I2, Wl2, hI', m2.go m0, fun l v hv => by rw [hold' l (m.mt.dom l v hv)]; exact hfr.2 l v hv⟩
      refine ⟨⟨x', hinv⟩, ?_⟩
      rw [← hμ]
      exact Nat.lt_of_le_of_lt (least_le (I := Inv) hinv) hlt
    | ret => exact ⟨.ret, st2, ρ2, g2, s2, I2, Wl2, rfl, hk, hfr, m2⟩
    | exit i =>
      show if i = id then _ else _
      by_cases hi : i = id
      · subst hi
        rw [if_pos rfl]
        have hk' : cond (Nat.beq i i) (K .norm st2 g2 s2) (K (.exit i) st2 g2 s2) := hk
        rw [Nat.beq_refl, cond_true] at hk'
        exact ⟨.norm, st2, ρ2, g2, s2, I2, Wl2, rfl, hk', hfr, m2⟩
      · rw [if_neg hi]
        have hk' : cond (Nat.beq i id) (K .norm st2 g2 s2) (K (.exit i) st2 g2 s2) := hk
        rw [beq_ne hi, cond_false] at hk'
        exact ⟨.exit i, st2, ρ2, g2, s2, I2, Wl2, rfl, hk', hfr, m2⟩

theorem vcY_ok_all {n : Nat} (hS : StatOK P Y.S) (hct : CtOK P glb Y.S) (hg : Y.S.glb = glb) (hy : YopOK glb T B0 We Y) (an : Nat → Items) (c : Code) : YcOK glb T B0 We n Y an c ∧ ∀ b, c = .loop b → YcOK glb T B0 We n Y an b := by
  have no : ∀ {c : Code}, (∀ b, c ≠ .loop b) → YcOK glb T B0 We n Y an c → YcOK glb T B0 We n Y an c ∧ ∀ b, c = .loop b → YcOK glb T B0 We n Y an b :=
    fun h1 h => ⟨h, fun b hb => absurd hb (h1 b)⟩
  induction c with
  | skip => exact no (fun _ h => by cases h) (fun st ρ a W g s I Wl K m h => wpIn_skip ⟨.norm, st, ρ, g, s, I, Wl, rfl, h, ⟨Frm.refl _ _, ρ.le_refl⟩, m⟩)
  | exit id => exact no (fun _ h => by cases h) (fun st ρ a W g s I Wl K m h => wpIn_exit ⟨.exit id, st, ρ, g, s, I, Wl, rfl, h, ⟨Frm.refl _ _, ρ.le_refl⟩, m⟩)
  | ret => exact no (fun _ h => by cases h) (fun st ρ a W g s I Wl K m h => wpIn_ret ⟨.ret, st, ρ, g, s, I, Wl, rfl, h, ⟨Frm.refl _ _, ρ.le_refl⟩, m⟩)
  | region id ops draw =>
    refine no (fun _ h => by cases h) (fun st ρ a W g s I Wl K m h => ?_)
    cases draw with
    | false =>
      refine wpIn_region_list ?_
      have := yOps_ok (n := n) hS hct hg hy ops.toList (id * 100) (K .norm) (PostY glb T B0 We st ρ (codeWrites (.region id ops false)) K) st ρ (codeWrites (.region id ops false)) (fun j o d ho hd => mem_filterMap_dst ho hd)
        (fun a W hp => let ⟨st', ρ', g', s', I', Wl', h1, h2, h3⟩ := hp; ⟨.norm, st', ρ', g', s', I', Wl', rfl, h1, h2, h3⟩) ops.toList 0 st ρ a W g s I Wl (fun j => by rw [Nat.zero_add]) ⟨Frm.refl _ _, ρ.le_refl⟩ m h
      simpa using this
    | true =>
      simp only [vcY] at h
      obtain ⟨hc, h⟩ := chk_iff.1 h
      simp only [Bool.and_eq_true] at hc
      obtain ⟨hm, hfull⟩ := hc
      refine vcAny_then (Wide.wide P) hS hct hg id ops (id * 100) (Y.fst id) _ _ (codeWrites (.region id ops true)) (fun j o d ho hd => mem_filterMap_dst ho hd) m.mt (Nat.le_of_ble_eq_true hm) hfull h ?_
      rintro a1 W1 ⟨st1, ρ1, hk1, hf1, m1⟩
      have := yOps_ok (n := n) hS hct hg hy ops.toList (id * 100) (K .norm) (PostY glb T B0 We st ρ (codeWrites (.region id ops true)) K) st ρ (codeWrites (.region id ops true)) (fun j o d ho hd => mem_filterMap_dst ho hd)
        (fun a W hp => let ⟨st', ρ', g', s', I', Wl', h1, h2, h3⟩ := hp; ⟨.norm, st', ρ', g', s', I', Wl', rfl, h1, h2, h3⟩) (ops.toList.drop (Y.fst id)) (Y.fst id) st1 ρ1 a1 W1 g s I Wl (fun j => by rw [List.getElem?_drop]) hf1 (m.go m1) hk1
      simpa using this
  | seq x y ihx ihy =>
    refine no (fun _ h => by cases h) (fun st ρ a W g s I Wl K m h => ?_)
    refine wpIn_seq (wpIn_mono (ihx.1 st ρ a W g s I Wl _ m h) ?_)
    rintro e a1 W1 ⟨xt, st1, ρ1, g1, s1, I1, Wl1, rfl, hk, hf, m1⟩
    have hfx : Frm st st1 (codeWrites x ++ codeWrites y) ∧ ρ.le ρ1 := ⟨hf.1.sub (fun t ht => List.mem_append.2 (.inl ht)), hf.2⟩
    cases xt with
    | norm =>
      refine wpIn_mono (ihy.1 st1 ρ1 a1 W1 g1 s1 I1 Wl1 K m1 hk) ?_
      rintro e a2 W2 ⟨xt2, st2, ρ2, g2, s2, I2, Wl2, he, hk2, hf2, m2⟩
      exact ⟨xt2, st2, ρ2, g2, s2, I2, Wl2, he, hk2, ⟨hfx.1.trans (hf2.1.sub (fun t ht => List.mem_append.2 (.inr ht))), hfx.2.trans hf2.2⟩, m2⟩
    | exit i => exact ⟨.exit i, st1, ρ1, g1, s1, I1, Wl1, rfl, hk, hfx, m1⟩
    | ret => exact ⟨.ret, st1, ρ1, g1, s1, I1, Wl1, rfl, hk, hfx, m1⟩
  | cond c x y ihx ihy =>
    refine no (fun _ h => by cases h) (fun st ρ a W g s I Wl K m h => ?_)
    obtain ⟨b, he0, hk⟩ := oneB_get h
    obtain ⟨b', hbb, hv⟩ := oneB_ok (k := fun x => x = b) (by rw [he0]; exact rfl) (ev_ok hS hg m.mt 0 c)
    obtain ⟨k1, k2⟩ := cnd_iff.1 hk
    subst hbb
    replace k1 : b' = true → vcY Y an x st g s K := fun hb => by have := k1 hb; rwa [← hb, known_eq he0] at this
    replace k2 : b' = false → vcY Y an y st g s K := fun hb => by have := k2 hb; rwa [← hb, known_eq he0] at this
    refine wpIn_cond_split hv (fun hb => ?_) (fun hb => ?_)
    · refine wpIn_mono (ihx.1 st ρ a W g s I Wl K m (k1 hb)) ?_
      rintro e a1 W1 ⟨xt, st1, ρ1, g1, s1, I1, Wl1, he, hk, hf, m1⟩
      exact ⟨xt, st1, ρ1, g1, s1, I1, Wl1, he, hk, ⟨hf.1.sub (fun t ht => List.mem_append.2 (.inl ht)), hf.2⟩, m1⟩
    · refine wpIn_mono (ihy.1 st ρ a W g s I Wl K m (k2 hb)) ?_
      rintro e a1 W1 ⟨xt, st1, ρ1, g1, s1, I1, Wl1, he, hk, hf, m1⟩
      exact ⟨xt, st1, ρ1, g1, s1, I1, Wl1, he, hk, ⟨hf.1.sub (fun t ht => List.mem_append.2 (.inr ht)), hf.2⟩, m1⟩
  | block id c ih =>
    refine no (fun _ h => by cases h) ?_
    by_cases hc : ∃ b, c = .loop b
    · obtain ⟨b, rfl⟩ := hc
      exact loopY_ok hct an id b (ih.2 b rfl)
    by_cases hrf2 : ∃ f ps x y, c = .rangeFunc f ps x y
    · obtain ⟨f, ps, x, y, rfl⟩ := hrf2
      intro st ρ a W g s I Wl K m h
      have := vc_ok (F := Fence.wide) (n := n) (Wide.wide P) rfl hS hct hg an (.block id (.rangeFunc f ps x y)) st ρ a W _ m.mt h
      refine wpIn_mono this ?_
      rintro e a1 W1 ⟨xt, st1, ρ1, he, hk, hf, m1⟩
      exact ⟨xt, st1, ρ1, g, s, I, Wl, he, hk, hf, m.go m1⟩
    · intro st ρ a W g s I Wl K m h
      have hc2 : ∀ f ps x y, c ≠ .rangeFunc f ps x y := fun f ps x y hb => hrf2 ⟨f, ps, x, y, hb⟩
      have hc' : ∀ b, c ≠ .loop b := fun b hb => hc ⟨b, hb⟩
      rw [vcY_block an id c K hc' hc2] at h
      refine wpIn_block (wpIn_mono (ih.1 st ρ a W g s I Wl _ m h) ?_)
      rintro e a1 W1 ⟨xt, st1, ρ1, g1, s1, I1, Wl1, rfl, hk, hf, m1⟩
      cases xt with
      | norm => exact ⟨.norm, st1, ρ1, g1, s1, I1, Wl1, rfl, hk, hf, m1⟩
      | ret => exact ⟨.ret, st1, ρ1, g1, s1, I1, Wl1, rfl, hk, hf, m1⟩
      | exit i =>
        show if i = id then _ else _
        by_cases hi : i = id
        · subst hi
          rw [if_pos rfl]
          have hk' : cond (Nat.beq i i) (K .norm st1 g1 s1) (K (.exit i) st1 g1 s1) := hk
          rw [Nat.beq_refl, cond_true] at hk'
          exact ⟨.norm, st1, ρ1, g1, s1, I1, Wl1, rfl, hk', hf, m1⟩
        · rw [if_neg hi]
          have hk' : cond (Nat.beq i id) (K .norm st1 g1 s1) (K (.exit i) st1 g1 s1) := hk
          rw [beq_ne hi, cond_false] at hk'
          exact ⟨.exit i, st1, ρ1, g1, s1, I1, Wl1, rfl, hk', hf, m1⟩
  | loop c ih => exact ⟨fun st ρ a W g s I Wl K m h => h.elim, (fun b hb => by cases hb; exact ih.1)⟩
  | rangeFunc f ps x y ihx ihy => exact no (fun _ h => by cases h) (fun st ρ a W g s I Wl K m h => h.elim)
  | scope c ih => exact no (fun _ h => by cases h) (fun st ρ a W g s I Wl K m h => h.elim)
  | label l => exact no (fun _ h => by cases h) (fun st ρ a W g s I Wl K m h => h.elim)
  | goto l => exact no (fun _ h => by cases h) (fun st ρ a W g s I Wl K m h => h.elim)
  | refuse q => exact no (fun _ h => by cases h) (fun st ρ a W g s I Wl K m h => h.elim)
end
end
end Go.GX
set_option linter.unusedVariables false
namespace Go.GX
variable [Inhabited BaseD]
open Go.RowKit Go.Shelf Go.Proofs

def yEnd {α : Type} (S : Stat) (rs : List ResultVar) (k : Option Bool → List α → Bool → Prop) (st : St) (g : List α) (s : Bool) : Prop :=
  match rs with
  | [] => k none g s
  | [rv] => oneB (resSV S st rv) fun b => k (some b) g s
  | _ => False

def yFin {α : Type} (S : Stat) (rs : List ResultVar) (k : Option Bool → List α → Bool → Prop) (e : Xt) (st : St) (g : List α) (s : Bool) : Prop :=
  match e with
  | .exit _ => False
  | .norm => yEnd S rs k st g s
  | .ret => yEnd S rs k st g s

section
variable {P : Program} {glb : Nat → Option GV} {α : Type} {T : Yt P α} {B0 : Nat → Prop} {We : World} {Y : YS α}

def obVal : Option Bool → Value
  | some b => .bool b
  | none => .tuple #[]

def YE (T : Yt P α) (B0 : Nat → Prop) (We : World) (k : Option Bool → List α → Bool → Prop) (e : Ending) (W' : World) : Prop :=
  ∃ ob g s I', e = .returned (obVal ob) ∧ k ob g s ∧ (s = false → T.J g I' W') ∧ (s = true → T.Jx I' W') ∧ (∀ j, B0 j → I' j) ∧ (∀ j, I' j → B0 j ∨ (We.heap.size ≤ j ∧ j < W'.heap.size)) ∧ Kept T.X T.W0 B0 We W'

theorem ItOK.keptNow {I : Nat → Prop} {Wl W : World} {g : List α} {s : Bool} {st : St} {ρ : Lab} {a : Act} (h : ItOK glb T B0 We g s st ρ a W I Wl) : Kept T.X T.W0 B0 We W :=
  h.kept.trans h.keptW fun _ h => h

theorem ItOK.done {I : Nat → Prop} {Wl W : World} {g : List α} {s : Bool} {st : St} {ρ : Lab} {a : Act} (h : ItOK glb T B0 We g s st ρ a W I Wl) {k : Option Bool → List α → Bool → Prop} {ob : Option Bool} (hk : k ob g s) : YE T B0 We k (.returned (obVal ob)) W := by
  refine ⟨ob, g, s, nowI I Wl W, rfl, hk, fun hs => T.jt _ _ _ _ _ (h.j hs) h.turned, fun hs => T.jxt _ _ _ _ (h.jx hs) h.turned, fun j hj => .inl (h.b0 j hj), ?_, h.keptNow⟩
  rintro j (hj | hj)
  · rcases h.new j hj with h1 | h1
    · exact .inl h1
    · exact .inr ⟨h1, Nat.lt_of_lt_of_le (h.low j hj).2 h.mt.bel.size⟩
  · exact .inr ⟨Nat.le_trans h.kept.size hj.1, hj.2⟩

theorem y_run {n : Nat} (hS : StatOK P Y.S) (hct : CtOK P glb Y.S) (hg : Y.S.glb = glb) (hy : YopOK glb T B0 We Y) (an : Nat → Items) {f : FuncId} {fn : Func} {c : Code} (hf : P.funcs[f]? = some fn) (hb : fn.body = some c) {vs : List Value} {st0 : St} {ρ0 : Lab} {W : World} {g : List α} {I : Nat → Prop} {Wl : World}
    (h0 : ItOK glb T B0 We g false st0 ρ0 { tmps := vs.toArray ++ Array.replicate (fn.ntmps - vs.toArray.size) undef, defers := [] } W I Wl) (k : Option Bool → List α → Bool → Prop) (hvc : vcY Y an c st0 g false (yFin Y.S fn.results.toList k)) : CallsIn Fence.wide n P f vs.toArray W (YE T B0 We k) := by
  refine callsIn_of_wp_marks (F := Fence.wide) (n := n) hf hb trivial ?_
  refine wpIn_mono ((vcY_ok_all (n := n) hS hct hg hy an c).1 _ _ _ _ _ _ _ _ _ h0 hvc) ?_
  rintro e a' W' ⟨xt, st', ρ', g', s', I', Wl', rfl, hk, hf', m'⟩
  have fin : yEnd Y.S fn.results.toList k st' g' s' → LeavesInM Fence.wide n P fn a'.tmps (YE T B0 We k) a'.defers .returning W' := by
    intro hk
    obtain ⟨Ds, hDs, hnd, hDD⟩ := m'.mt.dfr
    rw [hDs]
    refine takeAll_leaves Ds W' hnd (fun D hD => (hDD D hD).1) ?_
    have m' := m'.go (m'.mt.taken hDD)
    revert m'
    generalize takeAll W' Ds = W'
    intro m'
    have run : ∀ us : List Value, (fn.results.toList.mapM (resOne a'.tmps)).run P W' = .ok us W' → (results fn a'.tmps).run P W' = .ok (if h : us.toArray.size = 1 then us.toArray[0] else .tuple us.toArray) W' := by
      intro us hr
      have hm : fn.results.mapM (resOne a'.tmps) = (do pure (← fn.results.toList.mapM (resOne a'.tmps)).toArray) := by
        rw [Array.mapM_eq_mapM_toList]
        simp
      have hres : results fn a'.tmps = (do
          let vs ← fn.results.mapM (resOne a'.tmps)
          pure (if h : vs.size = 1 then vs[0] else .tuple vs)) := by
        unfold results
        congr 1
      rw [hres, hm]
      simp only [Sem.run_bind, hr, Result.andThen_ok, Sem.run_pure]
    unfold yEnd at hk
    split at hk
    · rename_i hrs
      refine ⟨_, run [] (by rw [hrs]; rfl), ?_⟩
      exact m'.done (ob := none) hk
    · rename_i rv hrs
      obtain ⟨b0, hbe, _⟩ := oneB_get hk
      obtain ⟨v, hv, hrep⟩ := resSV_ok (W := W') hS m'.mt rv (by rw [hbe]; intro h; cases h)
      obtain ⟨b, hk2, hub⟩ := oneB_ok hk hrep
      subst hub
      refine ⟨_, run [.bool b] (by rw [hrs]; simp [List.mapM_cons, hv, Result.andThen_ok]), ?_⟩
      exact m'.done (ob := some b) hk2
    · exact hk.elim
  cases xt with
  | norm => exact fin hk
  | ret => exact fin hk
  | exit i => exact hk.elim

theorem mt_start {Bk X0 : Nat → Prop} {W : World} {fn : Func} {ss : List SV} {vs : List Value} {hp : Nat → Option (HE × Nat)} {ρ : Lab} {cnt : Nat} {dom : List Nat} (h1 : vs.length ≤ fn.ntmps) (h2 : ss.length = vs.length)
    (hrep : ∀ i v, vs[i]? = some v → RepV P ρ X0 W (tmOf ss i) v) (hps : ∀ l he q, hp l = some (he, q) → ∃ v, ρ l = some v ∧ HEok P 0 ρ X0 W he v ∧ ∀ k, ¬ OwnB ρ he v k)
    (hX : ∀ k, X0 k → k < W.heap.size) (hBk : ∀ k, Bk k → k < W.heap.size) (hglb : GlbOK P glb X0 W) (hdom : ∀ l v, ρ l = some v → memL l dom = true) (hst : ∀ l he q, hp l = some (he, q) → q ≤ cnt) :
    Mt P glb Bk X0 W ⟨fn.ntmps, tmOf ss, hp, cnt, dom⟩ ρ { tmps := vs.toArray ++ Array.replicate (fn.ntmps - vs.toArray.size) undef, defers := [] } W := by
  have noOwn : ∀ {l he q v k}, hp l = some (he, q) → ρ l = some v → ¬ OwnB ρ he v k := by
    intro l he q v k hl hv
    obtain ⟨v', hv', _, hn⟩ := hps l he q hl
    rw [hv] at hv'; cases hv'
    exact hn k
  have hXs : ∀ k, Xs ⟨fn.ntmps, tmOf ss, hp, cnt, dom⟩ ρ X0 k → X0 k := by
    rintro k (h | ⟨l, he, q, v, h1, h2, h3⟩)
    · exact h
    · exact absurd h3 (noOwn h1 h2)
  have ev : Evo X0 W (Xs ⟨fn.ntmps, tmOf ss, hp, cnt, dom⟩ ρ X0) W := Evo.mono (fun k hk => hX k (hXs k hk)) hXs
  refine ⟨?_, DefOK.nil, fun t => ?_, fun l he q h => ?_, fun l l' he he' q q' v v' k h h' h2 h2' h3 => absurd h3 (noOwn h h2), hX, hBk, .refl _ _, fun l he q v k h h2 h3 => absurd h3 (noOwn h h2), hglb.evo ev, hdom, hst⟩
  · simp only [Array.size_append, Array.size_replicate, List.size_toArray]; omega
  · refine RepV.mono (Lab.le_refl _) ev ?_
    show RepV P ρ X0 W (tmOf ss t) _
    by_cases ht : t < vs.length
    · have hget : (vs.toArray ++ Array.replicate (fn.ntmps - vs.toArray.size) undef).getD t undef = vs[t] := by
        rw [Array.getD_eq_getD_getElem?, Array.getElem?_append_left (by simpa using ht), List.getElem?_toArray, List.getElem?_eq_getElem ht]
        rfl
      rw [hget]
      exact hrep t _ (List.getElem?_eq_getElem ht)
    · rw [tmOf_past _ t (by omega)]
      trivial
  · obtain ⟨v, hv, hok, _⟩ := hps l he q h
    exact ⟨v, hv, hok.mono ρ.le_refl ev (fun _ _ => rfl)⟩
end

def yArg (S : Stat) (st : St) : (A : Kd) → List SV → Option A.T
  | .sl _ K, ss => match ss with
    | [.mk false [.own L]] => match st.look L with
      | some (.row _ _ K' xs) => cond (K'.flat && Nat.ble 1 K'.n) (if h : K' = K then some (castL h xs) else none) none
      | _ => none
    | [.mk false [.nl _ _]] => some []
    | _ => none
  | A, ss => cond A.flat ((decArgs (dec1 S st.look fuel) A ss).map (·.1)) none

def yv (l : Nat) : Value := .func (.yield l) #[] #[]

def scY (l : Nat) (sc : SC) (p : Prop) : Prop :=
  match sc with
  | .v u => u = yv l ∧ p
  | _ => False

def yopY (S : Stat) (A : Kd) (l : Nat) (xs : List A.T) (st : St) (g : List A.T) (o : Oper) (k : List A.T → Prop) : Prop :=
  match o.op with
  | .call c => match c.callee with
    | .value f => oneC (ev S st 0 f) fun sc => scY l sc (optK (yArg S st A (evAll S st c.argTypes.toList c.args.toList)) fun x => ∃ rest, xs = g ++ x :: rest ∧ k (g ++ [x]))
    | _ => False
  | _ => False

section
variable {P : Program} {glb : Nat → Option GV} {B0 : Nat → Prop} {We : World} {S : Stat}

theorem sl_re {W : World} {e e' : TypeId} {K : Kd} {xs : List K.T} {v : Value} {X X' : Nat → Prop} (hf : K.flat = true) (h : ((Kd.sl e K).sem P).val X W xs v) (hX : ∀ ad n c, v = .slice (some ad) n c → ¬ X' ad.block) : ((Kd.sl e' K).sem P).val X' W xs v := by
  obtain ⟨A, c, hv, h1, h2, h3⟩ := h
  refine ⟨A, c, hv, h1, h2, fun hne => ?_⟩
  obtain ⟨ad, hA, _, g1, g2⟩ := h3 hne
  refine ⟨ad, hA, hX ad _ c (by rw [hv, hA]), g1, fun j x hx => ?_⟩
  obtain ⟨ecs, k1, k2⟩ := g2 j x hx
  exact ⟨ecs, Kd.flat_cells P K hf k1, k2⟩

theorem yArg_ok {α : Type} {T : Yt P α} (hct : CtOK P glb S) {st : St} {ρ : Lab} {a : Act} {W : World} {g : List α} {s : Bool} {I : Nat → Prop} {Wl : World} (h : ItOK glb T B0 We g s st ρ a W I Wl) : ∀ (A : Kd) (ss : List SV) (x : A.T) (vs : List Value), yArg S st A ss = some x → RepVs P ρ (Xs st ρ (yX T I Wl)) W ss vs →
    (A.sem P).vals (fun k => ¬ nowI I Wl W k) W x vs := by
  have flat : ∀ (A : Kd) (ss : List SV) (x : A.T) (vs : List Value), cond A.flat ((decArgs (dec1 S st.look fuel) A ss).map (·.1)) none = some x → RepVs P ρ (Xs st ρ (yX T I Wl)) W ss vs → (A.sem P).vals (fun k => ¬ nowI I Wl W k) W x vs := by
    intro A ss x vs hx hv
    cases hf : A.flat with
    | false => rw [hf] at hx; cases hx
    | true =>
      rw [hf, cond_true] at hx
      cases hd : decArgs (dec1 S st.look fuel) A ss with
      | none => rw [hd] at hx; cases hx
      | some p =>
        rw [hd] at hx
        cases hx
        exact Kd.flat_vals P A hf (decArgs_ok (Z := fun _ => true) (dec1_ok h.mt hct fuel) A ss p.1 p.2 vs hd hv (fun _ _ => rfl))
  intro A ss x vs hx hv
  cases A with
  | sl e K =>
    simp only [yArg] at hx
    split at hx
    · rename_i L
      split at hx
      · rename_i nn e' K' xs hl
        obtain ⟨q, hq⟩ := look_some hl
        cases hc : (K'.flat && Nat.ble 1 K'.n) with
        | false => rw [hc] at hx; cases hx
        | true =>
          rw [hc, cond_true] at hx
          simp only [Bool.and_eq_true] at hc
          split at hx
          · rename_i hk
            subst hk
            cases hx
            obtain ⟨v, vs', rfl, ⟨sc, hsc, hown⟩, hnil⟩ := hv
            have hnil : vs' = [] := hnil
            subst hnil
            cases hsc
            obtain ⟨hρ, a1, n1, c1, hsl⟩ := hown
            have hval := (h.mt.rowVal (Z := fun _ => true) (e' := e') hq hρ rfl).1
            have hfin : ((Kd.sl e K').sem P).val (fun k => ¬ nowI I Wl W k) W xs v := sl_re hc.1 hval fun ad n c hv hno => hno (by
              refine (h.ownNow (k := ad.block) hq hρ (.inl ?_) rfl).1
              rw [hv]; rfl)
            exact ⟨v, rfl, hfin⟩
          · cases hx
      · cases hx
    · cases hx
      obtain ⟨v, vs', rfl, ⟨sc, hsc, hv⟩, hnil⟩ := hv
      have hnil : vs' = [] := hnil
      subst hnil
      cases hsc
      have hv : v = .slice none 0 0 := hv
      subst hv
      exact ⟨_, rfl, none, 0, rfl, Nat.le_refl _, by unfold maxLen; omega, fun h => absurd rfl h⟩
    · cases hx
  | _ => exact flat _ ss x vs hx hv

theorem scY_get {l : Nat} {sc : SC} {p : Prop} (h : scY l sc p) : sc = .v (yv l) ∧ p := by
  unfold scY at h
  split at h
  · exact ⟨by rw [h.1], h.2⟩
  · exact h.elim

theorem run_yieldCall {a : Act} {W : World} {o : Oper} (cl : Call) (hop : o.op = .call cl) (f : Operand) (hcal : cl.callee = .value f) {l : Nat} (hf : a.eval f = yv l) :
    (execOp a.eval o).run P W = (Instr.yield l (cl.args.toList.map a.eval).toArray).run P W := by
  have hm : (cl.args.toList.map a.eval).toArray = cl.args.map a.eval := by apply Array.ext'; simp
  unfold execOp; rw [hop]
  simp only [resolve, hcal, hf, yv, Deferred.ofValue, Sem.run_bind, Sem.run_pure, Result.andThen_ok, invoke]
  rw [hm]
  simp

theorem yopY_ok {A : Kd} {T : Yt P A.T} (hS : StatOK P S) (hct : CtOK P glb S) (hg : S.glb = glb) (hvals : T.vals = (A.sem P).vals) (isY : Nat → Bool) (fst : Nat → Nat) : YopOK glb T B0 We ⟨S, isY, yopY S A T.l T.xs, fst⟩ := by
  refine ⟨fun st ρ a W g o k I Wl h hj hy => ?_⟩
  have hy : yopY S A T.l T.xs st g o k := hy
  unfold yopY at hy
  split at hy
  · rename_i cl hop
    refine ⟨?_, fun c hc => by rw [hop] at hc; cases hc⟩
    split at hy
    · rename_i f hcal
      obtain ⟨sc, h1, hsc⟩ := oneC_ok hy (ev_ok hS hg h.mt 0 f)
      obtain ⟨rfl, h2⟩ := scY_get h1
      obtain ⟨x, hx, rest, hxs, hk⟩ := optK_ok h2
      have hfv : a.eval f = yv T.l := hsc.1
      have hv := yArg_ok hct h A _ x _ hx (evAll_from hS hg h.mt cl.argTypes.toList cl.args.toList 0)
      obtain ⟨fn, tmps, asg, body, hr, hround⟩ := T.yd g x rest (nowI I Wl W) W _ hxs hj h.nowLow h.nowSz (by rw [hvals]; exact hv)
      refine .inl ⟨T.l, fn, tmps, asg, body, (run_yieldCall cl hop f hcal hfv).trans hr, (round_any hround).mono ?_⟩
      rintro e W' (⟨rfl, hj', hk'⟩ | ⟨rfl, hjx', hk'⟩)
      · exact ⟨true, _, nowI I Wl W, rfl, hk, fun _ => hj', fun h => (by cases h), fun _ h => h, fun _ h => .inl h, hk'⟩
      · exact ⟨false, _, nowI I Wl W, rfl, hk, fun h => (by cases h), fun _ => hjx', fun _ h => h, fun _ h => .inl h, hk'⟩
    · exact hy.elim
  · exact hy.elim

def vcIter {α : Type} (Y : YS α) (an : Nat → Items) (fn : Func) (c : Code) (C : Kd) (y : C.T) (l : Nat) (xs : List α) : Prop :=
  chk (Nat.ble (1 + C.ar) fn.ntmps) (vcY Y an c ⟨fn.ntmps, tmOf (.mk false [.v (yv l)] :: argsSV C y), fun _ => none, 0, []⟩ [] false (yFin Y.S fn.results.toList fun ob g s => cnd s True (g = xs)))

theorem seq_of {A C : Kd} {f : FuncId} {fn : Func} {c : Code} (hf : P.funcs[f]? = some fn) (hname : (fn.name == "runtime.NumGoroutine") = false) (hb : fn.body = some c) (an : Nat → Items) (Yl : Nat → YS A.T) (hS : ∀ l, StatOK P (Yl l).S) (hct : ∀ l, CtOK P glb (Yl l).S) (hg : ∀ l, (Yl l).S.glb = glb)
    {xs : List A.T} {y : C.T} (hyop : ∀ (T : Yt P A.T), T.vals = (A.sem P).vals → T.xs = xs → ∀ B0 We, YopOK glb T B0 We (Yl T.l)) (hvc : ∀ l, vcIter (Yl l) an fn c C y l xs) {X : Nat → Prop} {W : World} {cs : List Value} (hX : ∀ k, X k → k < W.heap.size) (hglb : GlbOK P glb X W) (hcs : (C.sem P).vals X W y cs) :
    SeqRun P (A.sem P).vals X W xs (.func (.func f) #[] cs.toArray) := by
  refine ⟨f, #[], cs.toArray, rfl, enters_of hf hname hb, fun n l J Jx hJt hJx hY h0 => ?_⟩
  obtain ⟨hn, hvc⟩ := chk_iff.1 (hvc l)
  have hn := Nat.le_of_ble_eq_true hn
  let T : Yt P A.T := ⟨(A.sem P).vals, X, W, n, l, xs, J, Jx, hJt, hJx, hY⟩
  obtain ⟨l2, g2⟩ := RepV.of_vals (P := P) (ρ := fun _ => none) (X := X) (W := W) C hcs
  have hl2 : cs.length = C.ar := by rw [← l2, argsSV_length]
  have hxx : ∀ k, yX T (fun _ => False) W k → X k := fun k hk => hk.2.2.resolve_left (Nat.not_le_of_lt hk.1)
  have start : ItOK glb T (fun _ => False) W [] false ⟨fn.ntmps, tmOf (.mk false [.v (yv l)] :: argsSV C y), fun _ => none, 0, []⟩ (fun _ => none) { tmps := (yv l :: cs).toArray ++ Array.replicate (fn.ntmps - (yv l :: cs).toArray.size) undef, defers := [] } W (fun _ => False) W := by
    refine ⟨fun _ => h0, fun h => (by cases h), fun _ h => h, fun _ h => h.elim, fun _ h => h.elim, Nat.le_refl _, ⟨rfl, rfl, rfl, Nat.le_refl _, fun _ _ _ => rfl, fun _ _ _ _ => rfl, fun _ _ _ h => h⟩, ?_⟩
    refine mt_start (by simp; omega) (by simp [l2]) (fun i v hv => ?_) (fun l he q h => (by cases h)) (fun k hk => hk.1) (fun k hk => hk.1) (hglb.evo (Evo.mono (fun k hk => hk.1) hxx)) (fun l v h => (by cases h)) (fun l he q h => (by cases h))
    cases i with
    | zero => cases hv; exact ⟨_, rfl, rfl, rfl⟩
    | succ i => exact (g2 i v (by simpa using hv)).mono (Lab.le_refl _) (Evo.mono (fun k hk => hk.1) hxx)
  have key := y_run (n := n) (hS l) (hct l) (hg l) (hyop T rfl rfl _ W) an hf hb (vs := yv l :: cs) start _ hvc
  have e : (yv l :: cs).toArray = #[] ++ #[.func (.yield l) #[] #[]] ++ cs.toArray := by simp [yv]
  rw [e] at key
  refine key.mono ?_
  rintro en W' ⟨ob, g, s, I', rfl, hk, hj, hjx, _⟩
  refine ⟨⟨_, rfl⟩, I', ?_⟩
  cases s with
  | true => exact .inr (hjx rfl)
  | false =>
    have hk : g = xs := hk
    subst hk
    exact .inl (hj rfl)
end
end Go.GX
namespace Go.Proofs.Rz
open Go Go.GX
variable [Inhabited BaseD]
def S0 (ct : List (Nat × Ct)) (lits : List Nat) : GX.Stat := S1 ct [] [] lits
def f105_an : Nat → Items
  | 0 => [.t 7 k3]
  | _ => []
def y83_ct (l : Nat) (xs : List Stick) : YS Stick := ⟨S0 [] [], fun lab => Nat.beq lab 302, yopY (S0 [] []) k79 l xs, fun _ => 0⟩
def f105v_ct (l : Nat) (xs : List Stick) : Prop := vcIter (y83_ct l xs) f105_an Tryz.f105 (bodyOf Tryz.f105) (arg1 (.ptr 80 k80)) (xs, ()) l xs
end Go.Proofs.Rz
set_option linter.unusedVariables false
set_option maxRecDepth 100000
namespace Go.Proofs.Rz
open Go Go.GX Go.Proofs

def V105 (l : Nat) (xs : List Stick) : Prop :=
  List.length xs ≤ (9223372036854775807 : Nat) →
    ∃ (I : List Stick → Int → Prop),
      ∃ (μ : Int → Nat),
        I ([] : List Stick) (0 : Int) ∧
          ∀ (g : List Stick) (x : Int),
            I g x →
              cnd (decide (x < (↑(List.length xs) : Int)))
                ((0 : Int) ≤ x ∧
                  x < (↑(List.length xs) : Int) ∧
                    Value.func (Fn.yield l) (List.toArray ([] : List Value)) (List.toArray ([] : List Value)) =
                        Value.func (Fn.yield l) (List.toArray ([] : List Value)) (List.toArray ([] : List Value)) ∧
                      ∃ (rest : List ((Int × Int) × (Int × Int) × Int)),
                        xs =
                            g ++
                              ((Prod.fst (Prod.fst (List.getD xs (Int.toNat x) (((0 : Int), (0 : Int)), ((0 : Int), (0 : Int)), (0 : Int)))),
                                    Prod.snd (Prod.fst (List.getD xs (Int.toNat x) (((0 : Int), (0 : Int)), ((0 : Int), (0 : Int)), (0 : Int))))),
                                  (Prod.fst
                                      (Prod.fst (Prod.snd (List.getD xs (Int.toNat x) (((0 : Int), (0 : Int)), ((0 : Int), (0 : Int)), (0 : Int))))),
                                    Prod.snd
                                      (Prod.fst (Prod.snd (List.getD xs (Int.toNat x) (((0 : Int), (0 : Int)), ((0 : Int), (0 : Int)), (0 : Int)))))),
                                  Prod.snd (Prod.snd (List.getD xs (Int.toNat x) (((0 : Int), (0 : Int)), ((0 : Int), (0 : Int)), (0 : Int))))) ::
                                rest ∧
                          (I
                                (g ++
                                  ((Prod.fst (Prod.fst (List.getD xs (Int.toNat x) (((0 : Int), (0 : Int)), ((0 : Int), (0 : Int)), (0 : Int)))),
                                        Prod.snd (Prod.fst (List.getD xs (Int.toNat x) (((0 : Int), (0 : Int)), ((0 : Int), (0 : Int)), (0 : Int))))),
                                      (Prod.fst
                                          (Prod.fst
                                            (Prod.snd (List.getD xs (Int.toNat x) (((0 : Int), (0 : Int)), ((0 : Int), (0 : Int)), (0 : Int))))),
                                        Prod.snd
                                          (Prod.fst
                                            (Prod.snd (List.getD xs (Int.toNat x) (((0 : Int), (0 : Int)), ((0 : Int), (0 : Int)), (0 : Int)))))),
                                      Prod.snd (Prod.snd (List.getD xs (Int.toNat x) (((0 : Int), (0 : Int)), ((0 : Int), (0 : Int)), (0 : Int))))) ::
                                    ([] : List ((Int × Int) × (Int × Int) × Int)))
                                (IntKind.wrap IntKind.i64 (x + (1 : Int))) ∧
                              μ (IntKind.wrap IntKind.i64 (x + (1 : Int))) < μ x) ∧
                            True)
                (g = xs)
theorem V83E (l : Nat) (xs : List Stick) : V105 l xs = (f105v_ct l xs) := by kernel_rfl

end Go.Proofs.Rz
set_option linter.unusedVariables false
set_option maxRecDepth 100000
namespace Go.Proofs.Rz
open Go Go.GX Go.Proofs

def V89 (n : Int) (lo : Int) (hi : Int) (Q : Bool → Prop) : Prop :=
  cnd (decide (n < lo)) (Q true) (Q (decide (n > hi)))
theorem v89 (n : Int) (lo : Int) (hi : Int) (Q : Bool → Prop) : V89 n lo hi Q = vcFunc (S1 [] [] [] []) f89_ct.own f89_ct.fresh no_an Tryz.f89 (bodyOf Tryz.f89) f89_ct.A f89_ct.C f89_ct.R n (lo, hi, ()) Q := by kernel_rfl

def V95 (xs : List Int) (f : Int → (Bool → Prop) → Prop) (Q : Int → Prop) : Prop :=
  List.length xs ≤ (9223372036854775807 : Nat) →
    ∃ (I : Int → Prop),
      ∃ (μ : Int → Nat),
        I (0 : Int) ∧
          ∀ (x : Int),
            I x →
              cnd (decide (x < (↑(List.length xs) : Int)))
                ((0 : Int) ≤ x ∧
                  x < (↑(List.length xs) : Int) ∧
                    Prod.fst (f, ()) (List.getD xs (Int.toNat x) (0 : Int)) fun (r : Bool) ↦
                      cnd r (Q x) (I (IntKind.wrap IntKind.i64 (x + (1 : Int))) ∧ μ (IntKind.wrap IntKind.i64 (x + (1 : Int))) < μ x))
                (Q (-1 : Int))
theorem v95 (xs : List Int) (f : Int → (Bool → Prop) → Prop) (Q : Int → Prop) : V95 xs f Q = vcFunc (S1 [] [] [] []) f95_ct.own f95_ct.fresh idx_an Tryz.f95 (bodyOf Tryz.f95) f95_ct.A f95_ct.C f95_ct.R (xs, f, ()) () Q := by kernel_rfl

def V88 (xs : List Int) (f : Int → (Bool → Prop) → Prop) (Q : Bool → Prop) : Prop :=
  f95_wp (xs, f, ()) () fun (r : Int) ↦ Q (decide (r ≥ (0 : Int)))
theorem v88 (xs : List Int) (f : Int → (Bool → Prop) → Prop) (Q : Bool → Prop) : V88 xs f Q = vcFunc (S1 [(95, f95_ct)] [] [] []) f88_ct.own f88_ct.fresh no_an Tryz.f88 (bodyOf Tryz.f88) f88_ct.A f88_ct.C f88_ct.R (xs, f, ()) () Q := by kernel_rfl

def V111 (xs : List ((Int × Int) × (Int × Int) × Int)) (f : (Int × Int) × (Int × Int) × Int → (Bool → Prop) → Prop) (Q : Int → Prop) : Prop :=
  List.length xs ≤ (9223372036854775807 : Nat) →
    ∃ (I : Int → Prop),
      ∃ (μ : Int → Nat),
        I (0 : Int) ∧
          ∀ (x : Int),
            I x →
              cnd (decide (x < (↑(List.length xs) : Int)))
                ((0 : Int) ≤ x ∧
                  x < (↑(List.length xs) : Int) ∧
                    Prod.fst (f, ())
                      ((Prod.fst (Prod.fst (List.getD xs (Int.toNat x) (((0 : Int), (0 : Int)), ((0 : Int), (0 : Int)), (0 : Int)))),
                          Prod.snd (Prod.fst (List.getD xs (Int.toNat x) (((0 : Int), (0 : Int)), ((0 : Int), (0 : Int)), (0 : Int))))),
                        (Prod.fst (Prod.fst (Prod.snd (List.getD xs (Int.toNat x) (((0 : Int), (0 : Int)), ((0 : Int), (0 : Int)), (0 : Int))))),
                          Prod.snd (Prod.fst (Prod.snd (List.getD xs (Int.toNat x) (((0 : Int), (0 : Int)), ((0 : Int), (0 : Int)), (0 : Int)))))),
                        Prod.snd (Prod.snd (List.getD xs (Int.toNat x) (((0 : Int), (0 : Int)), ((0 : Int), (0 : Int)), (0 : Int)))))
                      fun (r : Bool) ↦ cnd r (Q x) (I (IntKind.wrap IntKind.i64 (x + (1 : Int))) ∧ μ (IntKind.wrap IntKind.i64 (x + (1 : Int))) < μ x))
                (Q (-1 : Int))
theorem v111 (xs : List ((Int × Int) × (Int × Int) × Int)) (f : (Int × Int) × (Int × Int) × Int → (Bool → Prop) → Prop) (Q : Int → Prop) : V111 xs f Q = vcFunc (S1 [] [] [] []) f111_ct.own f111_ct.fresh idx_an Tryz.f111 (bodyOf Tryz.f111) f111_ct.A f111_ct.C f111_ct.R (xs, f, ()) () Q := by kernel_rfl

def V99 (xs : List ((Int × Int) × (Int × Int) × Int)) (f : (Int × Int) × (Int × Int) × Int → (Bool → Prop) → Prop) (Q : Bool → Prop) : Prop :=
  f111_wp (xs, f, ()) () fun (r : Int) ↦ Q (decide (r ≥ (0 : Int)))
theorem v99 (xs : List ((Int × Int) × (Int × Int) × Int)) (f : (Int × Int) × (Int × Int) × Int → (Bool → Prop) → Prop) (Q : Bool → Prop) : V99 xs f Q = vcFunc (S1 [(111, f111_ct)] [] [] []) f99_ct.own f99_ct.fresh no_an Tryz.f99 (bodyOf Tryz.f99) f99_ct.A f99_ct.C f99_ct.R (xs, f, ()) () Q := by kernel_rfl

def V85 (xs : List ((Int × Int) × Int × Int)) (f : (Int × Int) × Int × Int → (Bool → Prop) → Prop) (Q : Int → Prop) : Prop :=
  List.length xs ≤ (9223372036854775807 : Nat) →
    ∃ (I : Int → Prop),
      ∃ (μ : Int → Nat),
        I (0 : Int) ∧
          ∀ (x : Int),
            I x →
              cnd (decide (x < (↑(List.length xs) : Int)))
                ((0 : Int) ≤ x ∧
                  x < (↑(List.length xs) : Int) ∧
                    Prod.fst (f, ())
                      ((Prod.fst (Prod.fst (List.getD xs (Int.toNat x) (((0 : Int), (0 : Int)), (0 : Int), (0 : Int)))),
                          Prod.snd (Prod.fst (List.getD xs (Int.toNat x) (((0 : Int), (0 : Int)), (0 : Int), (0 : Int))))),
                        Prod.fst (Prod.snd (List.getD xs (Int.toNat x) (((0 : Int), (0 : Int)), (0 : Int), (0 : Int)))),
                        Prod.snd (Prod.snd (List.getD xs (Int.toNat x) (((0 : Int), (0 : Int)), (0 : Int), (0 : Int)))))
                      fun (r : Bool) ↦ cnd r (Q x) (I (IntKind.wrap IntKind.i64 (x + (1 : Int))) ∧ μ (IntKind.wrap IntKind.i64 (x + (1 : Int))) < μ x))
                (Q (-1 : Int))
theorem v85 (xs : List ((Int × Int) × Int × Int)) (f : (Int × Int) × Int × Int → (Bool → Prop) → Prop) (Q : Int → Prop) : V85 xs f Q = vcFunc (S1 [] [] [] []) f85_ct.own f85_ct.fresh idx_an Tryz.f85 (bodyOf Tryz.f85) f85_ct.A f85_ct.C f85_ct.R (xs, f, ()) () Q := by kernel_rfl

def V44 (xs : List ((Int × Int) × Int × Int)) (f : (Int × Int) × Int × Int → (Bool → Prop) → Prop) (Q : Bool → Prop) : Prop :=
  f85_wp (xs, f, ()) () fun (r : Int) ↦ Q (decide (r ≥ (0 : Int)))
theorem v44 (xs : List ((Int × Int) × Int × Int)) (f : (Int × Int) × Int × Int → (Bool → Prop) → Prop) (Q : Bool → Prop) : V44 xs f Q = vcFunc (S1 [(85, f85_ct)] [] [] []) f44_ct.own f44_ct.fresh no_an Tryz.f44 (bodyOf Tryz.f44) f44_ct.A f44_ct.C f44_ct.R (xs, f, ()) () Q := by kernel_rfl

def V94 (xs : List Int) (v : Int) (Q : Int → Prop) : Prop :=
  List.length xs ≤ (9223372036854775807 : Nat) →
    ∃ (I : Int → Prop),
      ∃ (μ : Int → Nat),
        I (0 : Int) ∧
          ∀ (x : Int),
            I x →
              cnd (decide (x < (↑(List.length xs) : Int)))
                ((0 : Int) ≤ x ∧
                  x < (↑(List.length xs) : Int) ∧
                    cnd (v == List.getD xs (Int.toNat x) (0 : Int)) (Q x)
                      (I (IntKind.wrap IntKind.i64 (x + (1 : Int))) ∧ μ (IntKind.wrap IntKind.i64 (x + (1 : Int))) < μ x))
                (Q (-1 : Int))
theorem v94 (xs : List Int) (v : Int) (Q : Int → Prop) : V94 xs v Q = vcFunc (S1 [] [] [] []) f94_ct.own f94_ct.fresh idx_an Tryz.f94 (bodyOf Tryz.f94) f94_ct.A f94_ct.C f94_ct.R (xs, v, ()) () Q := by kernel_rfl

def V63 (xs : List Int) (v : Int) (Q : Bool → Prop) : Prop :=
  f94_wp (xs, v, ()) () fun (r : Int) ↦ Q (decide (r ≥ (0 : Int)))
theorem v63 (xs : List Int) (v : Int) (Q : Bool → Prop) : V63 xs v Q = vcFunc (S1 [(94, f94_ct)] [] [] []) f63_ct.own f63_ct.fresh no_an Tryz.f63 (bodyOf Tryz.f63) f63_ct.A f63_ct.C f63_ct.R (xs, v, ()) () Q := by kernel_rfl

def V65 (xs : List Int) (Q : List Int → Prop) : Prop :=
  ∀ (b : Bool),
    (b = true → xs = ([] : List Int)) →
      cnd b (Q ([] : List Int)) ((List.length ([] : List Int) + List.length xs) * (8 : Nat) ≤ (140737488355328 : Nat) ∧ Q (([] : List Int) ++ xs))
theorem v65 (xs : List Int) (Q : List Int → Prop) : V65 xs Q = vcFunc (S1 [] [] [] [300]) f65_ct.own f65_ct.fresh no_an Tryz.f65 (bodyOf Tryz.f65) f65_ct.A f65_ct.C f65_ct.R xs () Q := by kernel_rfl

def V51 (xs : List ((Int × Int) × Int × Int)) (Q : List ((Int × Int) × Int × Int) → Prop) : Prop :=
  ∀ (b : Bool),
    (b = true → xs = ([] : List ((Int × Int) × Int × Int))) →
      cnd b (Q ([] : List ((Int × Int) × Int × Int)))
        ((List.length ([] : List ((Int × Int) × Int × Int)) + List.length xs) * (32 : Nat) ≤ (140737488355328 : Nat) ∧
          Q (([] : List ((Int × Int) × Int × Int)) ++ xs))
theorem v51 (xs : List ((Int × Int) × Int × Int)) (Q : List ((Int × Int) × Int × Int) → Prop) : V51 xs Q = vcFunc (S1 [] [] [] [300]) f51_ct.own f51_ct.fresh no_an Tryz.f51 (bodyOf Tryz.f51) f51_ct.A f51_ct.C f51_ct.R xs () Q := by kernel_rfl

def V108 (n : Int) (Q : Bool → Prop) : Prop :=
  Q (n != n)
theorem v108 (n : Int) (Q : Bool → Prop) : V108 n Q = vcFunc (S1 [] [] [] []) f108_ct.own f108_ct.fresh no_an Tryz.f108 (bodyOf Tryz.f108) f108_ct.A f108_ct.C f108_ct.R n () Q := by kernel_rfl

def V93 (a : Int) (b : Int) (Q : Int → Prop) : Prop :=
  f108_wp a () fun (r : Bool) ↦
    f108_wp b () fun (r_1 : Bool) ↦
      cnd r (cnd r_1 (Q (0 : Int)) (Q (-1 : Int)))
        (cnd r_1 (Q (1 : Int)) (cnd (decide (a < b)) (Q (-1 : Int)) (cnd (decide (a > b)) (Q (1 : Int)) (Q (0 : Int)))))
theorem v93 (a : Int) (b : Int) (Q : Int → Prop) : V93 a b Q = vcFunc (S1 [(108, f108_ct)] [] [] []) f93_ct.own f93_ct.fresh no_an Tryz.f93 (bodyOf Tryz.f93) f93_ct.A f93_ct.C f93_ct.R (a, b, ()) () Q := by kernel_rfl

def V110 (a : Int) (b : Int) (Q : Int × Int × Unit → Prop) : Prop :=
  (0 : Int) ≤ (32 : Int) ∧
    (0 : Int) ≤ (32 : Int) ∧
      (0 : Int) ≤ (32 : Int) ∧
        (0 : Int) ≤ (32 : Int) ∧
          (0 : Int) ≤ (32 : Int) ∧
            Q
              (IntKind.wrap IntKind.u64
                  (IntKind.wrap IntKind.u64
                      (IntKind.wrap IntKind.u64
                          (Int.fdiv a ((2 : Int) ^ min (Int.toNat (32 : Int)) (IntKind.bits IntKind.u64)) *
                            Int.fdiv b ((2 : Int) ^ min (Int.toNat (32 : Int)) (IntKind.bits IntKind.u64))) +
                        Int.fdiv
                          (IntKind.wrap IntKind.u64
                            (IntKind.wrap IntKind.u64
                                (Int.fdiv a ((2 : Int) ^ min (Int.toNat (32 : Int)) (IntKind.bits IntKind.u64)) *
                                  IntKind.wrap IntKind.u64
                                    (↑(BitVec.toNat
                                          (BitVec.ofInt (IntKind.bits IntKind.u64) b &&& BitVec.ofInt (IntKind.bits IntKind.u64) (4294967295 : Int))) :
                                      Int)) +
                              Int.fdiv
                                (IntKind.wrap IntKind.u64
                                  (IntKind.wrap IntKind.u64
                                      (↑(BitVec.toNat
                                            (BitVec.ofInt (IntKind.bits IntKind.u64) a &&&
                                              BitVec.ofInt (IntKind.bits IntKind.u64) (4294967295 : Int))) :
                                        Int) *
                                    IntKind.wrap IntKind.u64
                                      (↑(BitVec.toNat
                                            (BitVec.ofInt (IntKind.bits IntKind.u64) b &&&
                                              BitVec.ofInt (IntKind.bits IntKind.u64) (4294967295 : Int))) :
                                        Int)))
                                ((2 : Int) ^ min (Int.toNat (32 : Int)) (IntKind.bits IntKind.u64))))
                          ((2 : Int) ^ min (Int.toNat (32 : Int)) (IntKind.bits IntKind.u64))) +
                    Int.fdiv
                      (IntKind.wrap IntKind.u64
                        (IntKind.wrap IntKind.u64
                            (↑(BitVec.toNat
                                  (BitVec.ofInt (IntKind.bits IntKind.u64)
                                      (IntKind.wrap IntKind.u64
                                        (IntKind.wrap IntKind.u64
                                            (Int.fdiv a ((2 : Int) ^ min (Int.toNat (32 : Int)) (IntKind.bits IntKind.u64)) *
                                              IntKind.wrap IntKind.u64
                                                (↑(BitVec.toNat
                                                      (BitVec.ofInt (IntKind.bits IntKind.u64) b &&&
                                                        BitVec.ofInt (IntKind.bits IntKind.u64) (4294967295 : Int))) :
                                                  Int)) +
                                          Int.fdiv
                                            (IntKind.wrap IntKind.u64
                                              (IntKind.wrap IntKind.u64
                                                  (↑(BitVec.toNat
                                                        (BitVec.ofInt (IntKind.bits IntKind.u64) a &&&
                                                          BitVec.ofInt (IntKind.bits IntKind.u64) (4294967295 : Int))) :
                                                    Int) *
                                                IntKind.wrap IntKind.u64
                                                  (↑(BitVec.toNat
                                                        (BitVec.ofInt (IntKind.bits IntKind.u64) b &&&
                                                          BitVec.ofInt (IntKind.bits IntKind.u64) (4294967295 : Int))) :
                                                    Int)))
                                            ((2 : Int) ^ min (Int.toNat (32 : Int)) (IntKind.bits IntKind.u64)))) &&&
                                    BitVec.ofInt (IntKind.bits IntKind.u64) (4294967295 : Int))) :
                              Int) +
                          IntKind.wrap IntKind.u64
                            (IntKind.wrap IntKind.u64
                                (↑(BitVec.toNat
                                      (BitVec.ofInt (IntKind.bits IntKind.u64) a &&& BitVec.ofInt (IntKind.bits IntKind.u64) (4294967295 : Int))) :
                                  Int) *
                              Int.fdiv b ((2 : Int) ^ min (Int.toNat (32 : Int)) (IntKind.bits IntKind.u64)))))
                      ((2 : Int) ^ min (Int.toNat (32 : Int)) (IntKind.bits IntKind.u64))),
                IntKind.wrap IntKind.u64 (a * b), ())
theorem v110 (a : Int) (b : Int) (Q : Int × Int × Unit → Prop) : V110 a b Q = vcFunc (S1 [] [] [] []) f110_ct.own f110_ct.fresh no_an Tryz.f110 (bodyOf Tryz.f110) f110_ct.A f110_ct.C f110_ct.R (a, b, ()) () Q := by kernel_rfl

def V98 (a : Int) (b : Int) (Q : Int × Int × Unit → Prop) : Prop :=
  f110_wp (a, b, ()) () fun (r : Int × Int × Unit) ↦ Q (Prod.fst r, Prod.fst (Prod.snd r), ())
theorem v98 (a : Int) (b : Int) (Q : Int × Int × Unit → Prop) : V98 a b Q = vcFunc (S1 [(110, f110_ct)] [] [] []) f98_ct.own f98_ct.fresh no_an Tryz.f98 (bodyOf Tryz.f98) f98_ct.A f98_ct.C f98_ct.R (a, b, ()) () Q := by kernel_rfl

def V70 (xs : List ((Int × Int) × Int × Int)) (n : Int) (Q : List ((Int × Int) × Int × Int) → Prop) : Prop :=
  cnd (decide (n < (0 : Int))) False
    (List.length xs ≤ (9223372036854775807 : Nat) →
      f98_wp (IntKind.wrap IntKind.u64 (↑(List.length xs) : Int), IntKind.wrap IntKind.u64 n, ()) () fun (r : Int × Int × Unit) ↦
        cnd (decide (Prod.fst r > (0 : Int))) False
          (cnd (decide (Prod.fst (Prod.snd r) > (9223372036854775807 : Int))) False
            (IntKind.wrap IntKind.i64 (Prod.fst (Prod.snd r)) = IntKind.wrap IntKind.i64 (Prod.fst (Prod.snd r)) ∧
              (0 : Int) ≤ IntKind.wrap IntKind.i64 (Prod.fst (Prod.snd r)) ∧
                IntKind.wrap IntKind.i64 (Prod.fst (Prod.snd r)) * (↑(32 : Nat) : Int) ≤ (140737488355328 : Int) ∧
                  ∃ (I : Int → List ((Int × Int) × Int × Int) → Prop),
                    ∃ (μ : Int → List ((Int × Int) × Int × Int) → Nat),
                      I
                          (↑(min
                                (List.length
                                    (List.replicate (Int.toNat (IntKind.wrap IntKind.i64 (Prod.fst (Prod.snd r))))
                                      (((0 : Int), (0 : Int)), (0 : Int), (0 : Int))) -
                                  (0 : Nat))
                                (List.length xs)) :
                            Int)
                          (List.take (0 : Nat)
                                (List.replicate (Int.toNat (IntKind.wrap IntKind.i64 (Prod.fst (Prod.snd r))))
                                  (((0 : Int), (0 : Int)), (0 : Int), (0 : Int))) ++
                              List.take
                                (min
                                  (List.length
                                      (List.replicate (Int.toNat (IntKind.wrap IntKind.i64 (Prod.fst (Prod.snd r))))
                                        (((0 : Int), (0 : Int)), (0 : Int), (0 : Int))) -
                                    (0 : Nat))
                                  (List.length xs))
                                xs ++
                            List.drop
                              ((0 : Nat) +
                                min
                                  (List.length
                                      (List.replicate (Int.toNat (IntKind.wrap IntKind.i64 (Prod.fst (Prod.snd r))))
                                        (((0 : Int), (0 : Int)), (0 : Int), (0 : Int))) -
                                    (0 : Nat))
                                  (List.length xs))
                              (List.replicate (Int.toNat (IntKind.wrap IntKind.i64 (Prod.fst (Prod.snd r))))
                                (((0 : Int), (0 : Int)), (0 : Int), (0 : Int)))) ∧
                        ∀ (x : Int) (x_1 : List ((Int × Int) × Int × Int)),
                          I x x_1 →
                            List.length x_1 ≤ (9223372036854775807 : Nat) →
                              cnd (decide (x < (↑(List.length x_1) : Int)))
                                ((0 : Int) ≤ x ∧
                                  x ≤ (↑(List.length x_1) : Int) ∧
                                    (↑(List.length x_1) : Int) ≤ (↑(List.length x_1) : Int) ∧
                                      (0 : Int) ≤ (0 : Int) ∧
                                        (0 : Int) ≤ x ∧
                                          x ≤ (↑(List.length x_1) : Int) ∧
                                            I
                                                (IntKind.wrap IntKind.i64
                                                  (x +
                                                    (↑(min (Int.toNat (↑(List.length x_1) : Int) - Int.toNat x)
                                                          (List.length (List.drop (Int.toNat (0 : Int)) (List.take (Int.toNat x) x_1)))) :
                                                      Int)))
                                                (List.take (Int.toNat x) x_1 ++
                                                    List.take
                                                      (min (Int.toNat (↑(List.length x_1) : Int) - Int.toNat x)
                                                        (List.length (List.drop (Int.toNat (0 : Int)) (List.take (Int.toNat x) x_1))))
                                                      (List.drop (Int.toNat (0 : Int)) (List.take (Int.toNat x) x_1)) ++
                                                  List.drop
                                                    (Int.toNat x +
                                                      min (Int.toNat (↑(List.length x_1) : Int) - Int.toNat x)
                                                        (List.length (List.drop (Int.toNat (0 : Int)) (List.take (Int.toNat x) x_1))))
                                                    x_1) ∧
                                              μ
                                                  (IntKind.wrap IntKind.i64
                                                    (x +
                                                      (↑(min (Int.toNat (↑(List.length x_1) : Int) - Int.toNat x)
                                                            (List.length (List.drop (Int.toNat (0 : Int)) (List.take (Int.toNat x) x_1)))) :
                                                        Int)))
                                                  (List.take (Int.toNat x) x_1 ++
                                                      List.take
                                                        (min (Int.toNat (↑(List.length x_1) : Int) - Int.toNat x)
                                                          (List.length (List.drop (Int.toNat (0 : Int)) (List.take (Int.toNat x) x_1))))
                                                        (List.drop (Int.toNat (0 : Int)) (List.take (Int.toNat x) x_1)) ++
                                                    List.drop
                                                      (Int.toNat x +
                                                        min (Int.toNat (↑(List.length x_1) : Int) - Int.toNat x)
                                                          (List.length (List.drop (Int.toNat (0 : Int)) (List.take (Int.toNat x) x_1))))
                                                      x_1) <
                                                μ x x_1)
                                (Q x_1))))
theorem v70 (xs : List ((Int × Int) × Int × Int)) (n : Int) (Q : List ((Int × Int) × Int × Int) → Prop) : V70 xs n Q = vcFunc (S1 [(98, f98_ct)] [] [] [903,906]) f70_ct.own f70_ct.fresh f70_an Tryz.f70 (bodyOf Tryz.f70) f70_ct.A f70_ct.C f70_ct.R (xs, n, ()) () Q := by kernel_rfl

def V125 (n : Int) (Q : Int → Prop) : Prop :=
  ∃ (I : Int → Int → Prop), cnd (decide (n ≥ (4294967296 : Int))) ((0 : Int) ≤ (32 : Int) ∧ I (Int.fdiv n ((2 : Int) ^ min (Int.toNat (32 : Int)) (IntKind.bits
  IntKind.u64))) (32 : Int)) (I n (0 : Int)) ∧ ∀ (x x_1 : Int), I x x_1 → ∃ (I : Int → Int → Prop), cnd (decide (x ≥ (65536 : Int))) ((0 : Int) ≤ (16 : Int) ∧ I (Int.fdiv x
  ((2 : Int) ^ min (Int.toNat (16 : Int)) (IntKind.bits IntKind.u64))) (IntKind.wrap IntKind.i64 (x_1 + (16 : Int)))) (I x x_1) ∧ ∀ (x x_2 : Int), I x x_2 → ∃ (I : Int →
  Int → Prop), cnd (decide (x ≥ (256 : Int))) ((0 : Int) ≤ (8 : Int) ∧ I (Int.fdiv x ((2 : Int) ^ min (Int.toNat (8 : Int)) (IntKind.bits IntKind.u64))) (IntKind.wrap
  IntKind.i64 (x_2 + (8 : Int)))) (I x x_2) ∧ ∀ (x x_3 : Int), I x x_3 → (0 : Int) ≤ IntKind.wrap IntKind.u8 x ∧ IntKind.wrap IntKind.u8 x < (↑(ByteArray.size (ByteArray.mk (List.toArray (List.append (List.append ((0 : UInt8) :: (1 : UInt8) :: (2 : UInt8) :: (2 : UInt8) :: (3 : UInt8) :: (3 : UInt8) :: (3 : UInt8) :: (3 : UInt8) :: (4 :
  UInt8) :: (4 : UInt8) :: (4 : UInt8) :: (4 : UInt8) :: (4 : UInt8) :: (4 : UInt8) :: (4 : UInt8) :: (4 : UInt8) :: (5 : UInt8) :: (5 : UInt8) :: (5 : UInt8) :: (5 :
  UInt8) :: (5 : UInt8) :: (5 : UInt8) :: (5 : UInt8) :: (5 : UInt8) :: (5 : UInt8) :: (5 : UInt8) :: (5 : UInt8) :: (5 : UInt8) :: (5 : UInt8) :: (5 : UInt8) :: (5 :
  UInt8) :: (5 : UInt8) :: (6 : UInt8) :: (6 : UInt8) :: (6 : UInt8) :: (6 : UInt8) :: (6 : UInt8) :: (6 : UInt8) :: (6 : UInt8) :: (6 : UInt8) :: (6 : UInt8) :: (6 :
  UInt8) :: (6 : UInt8) :: (6 : UInt8) :: (6 : UInt8) :: (6 : UInt8) :: (6 : UInt8) :: (6 : UInt8) :: (6 : UInt8) :: (6 : UInt8) :: (6 : UInt8) :: (6 : UInt8) :: (6 :
  UInt8) :: (6 : UInt8) :: (6 : UInt8) :: (6 : UInt8) :: (6 : UInt8) :: (6 : UInt8) :: (6 : UInt8) :: (6 : UInt8) :: (6 : UInt8) :: (6 : UInt8) :: (6 : UInt8) :: (6 :
  UInt8) :: ([] : List UInt8)) ((7 : UInt8) :: (7 : UInt8) :: (7 : UInt8) :: (7 : UInt8) :: (7 : UInt8) :: (7 : UInt8) :: (7 : UInt8) :: (7 : UInt8) :: (7 : UInt8) :: (7 :
  UInt8) :: (7 : UInt8) :: (7 : UInt8) :: (7 : UInt8) :: (7 : UInt8) :: (7 : UInt8) :: (7 : UInt8) :: (7 : UInt8) :: (7 : UInt8) :: (7 : UInt8) :: (7 : UInt8) :: (7 :
  UInt8) :: (7 : UInt8) :: (7 : UInt8) :: (7 : UInt8) :: (7 : UInt8) :: (7 : UInt8) :: (7 : UInt8) :: (7 : UInt8) :: (7 : UInt8) :: (7 : UInt8) :: (7 : UInt8) :: (7 :
  UInt8) :: (7 : UInt8) :: (7 : UInt8) :: (7 : UInt8) :: (7 : UInt8) :: (7 : UInt8) :: (7 : UInt8) :: (7 : UInt8) :: (7 : UInt8) :: (7 : UInt8) :: (7 : UInt8) :: (7 :
  UInt8) :: (7 : UInt8) :: (7 : UInt8) :: (7 : UInt8) :: (7 : UInt8) :: (7 : UInt8) :: (7 : UInt8) :: (7 : UInt8) :: (7 : UInt8) :: (7 : UInt8) :: (7 : UInt8) :: (7 :
  UInt8) :: (7 : UInt8) :: (7 : UInt8) :: (7 : UInt8) :: (7 : UInt8) :: (7 : UInt8) :: (7 : UInt8) :: (7 : UInt8) :: (7 : UInt8) :: (7 : UInt8) :: (7 : UInt8) :: ([] : List
  UInt8))) (List.append ((8 : UInt8) :: (8 : UInt8) :: (8 : UInt8) :: (8 : UInt8) :: (8 : UInt8) :: (8 : UInt8) :: (8 : UInt8) :: (8 : UInt8) :: (8 : UInt8) :: (8 : UInt8)
  :: (8 : UInt8) :: (8 : UInt8) :: (8 : UInt8) :: (8 : UInt8) :: (8 : UInt8) :: (8 : UInt8) :: (8 : UInt8) :: (8 : UInt8) :: (8 : UInt8) :: (8 : UInt8) :: (8 : UInt8) :: (8
  : UInt8) :: (8 : UInt8) :: (8 : UInt8) :: (8 : UInt8) :: (8 : UInt8) :: (8 : UInt8) :: (8 : UInt8) :: (8 : UInt8) :: (8 : UInt8) :: (8 : UInt8) :: (8 : UInt8) :: (8 :
  UInt8) :: (8 : UInt8) :: (8 : UInt8) :: (8 : UInt8) :: (8 : UInt8) :: (8 : UInt8) :: (8 : UInt8) :: (8 : UInt8) :: (8 : UInt8) :: (8 : UInt8) :: (8 : UInt8) :: (8 :
  UInt8) :: (8 : UInt8) :: (8 : UInt8) :: (8 : UInt8) :: (8 : UInt8) :: (8 : UInt8) :: (8 : UInt8) :: (8 : UInt8) :: (8 : UInt8) :: (8 : UInt8) :: (8 : UInt8) :: (8 :
  UInt8) :: (8 : UInt8) :: (8 : UInt8) :: (8 : UInt8) :: (8 : UInt8) :: (8 : UInt8) :: (8 : UInt8) :: (8 : UInt8) :: (8 : UInt8) :: (8 : UInt8) :: ([] : List UInt8)) ((8 :
  UInt8) :: (8 : UInt8) :: (8 : UInt8) :: (8 : UInt8) :: (8 : UInt8) :: (8 : UInt8) :: (8 : UInt8) :: (8 : UInt8) :: (8 : UInt8) :: (8 : UInt8) :: (8 : UInt8) :: (8 :
  UInt8) :: (8 : UInt8) :: (8 : UInt8) :: (8 : UInt8) :: (8 : UInt8) :: (8 : UInt8) :: (8 : UInt8) :: (8 : UInt8) :: (8 : UInt8) :: (8 : UInt8) :: (8 : UInt8) :: (8 :
  UInt8) :: (8 : UInt8) :: (8 : UInt8) :: (8 : UInt8) :: (8 : UInt8) :: (8 : UInt8) :: (8 : UInt8) :: (8 : UInt8) :: (8 : UInt8) :: (8 : UInt8) :: (8 : UInt8) :: (8 :
  UInt8) :: (8 : UInt8) :: (8 : UInt8) :: (8 : UInt8) :: (8 : UInt8) :: (8 : UInt8) :: (8 : UInt8) :: (8 : UInt8) :: (8 : UInt8) :: (8 : UInt8) :: (8 : UInt8) :: (8 :
  UInt8) :: (8 : UInt8) :: (8 : UInt8) :: (8 : UInt8) :: (8 : UInt8) :: (8 : UInt8) :: (8 : UInt8) :: (8 : UInt8) :: (8 : UInt8) :: (8 : UInt8) :: (8 : UInt8) :: (8 :
  UInt8) :: (8 : UInt8) :: (8 : UInt8) :: (8 : UInt8) :: (8 : UInt8) :: (8 : UInt8) :: (8 : UInt8) :: (8 : UInt8) :: (8 : UInt8) :: ([] : List UInt8))))))) : Int) ∧ Q
  (IntKind.wrap IntKind.i64 (x_3 + IntKind.wrap IntKind.i64 (↑(UInt8.toNat (Array.getD (ByteArray.data (ByteArray.mk (List.toArray (List.append (List.append ((0 : UInt8) :: (1 :
  UInt8) :: (2 : UInt8) :: (2 : UInt8) :: (3 : UInt8) :: (3 : UInt8) :: (3 : UInt8) :: (3 : UInt8) :: (4 : UInt8) :: (4 : UInt8) :: (4 : UInt8) :: (4 : UInt8) :: (4 :
  UInt8) :: (4 : UInt8) :: (4 : UInt8) :: (4 : UInt8) :: (5 : UInt8) :: (5 : UInt8) :: (5 : UInt8) :: (5 : UInt8) :: (5 : UInt8) :: (5 : UInt8) :: (5 : UInt8) :: (5 :
  UInt8) :: (5 : UInt8) :: (5 : UInt8) :: (5 : UInt8) :: (5 : UInt8) :: (5 : UInt8) :: (5 : UInt8) :: (5 : UInt8) :: (5 : UInt8) :: (6 : UInt8) :: (6 : UInt8) :: (6 :
  UInt8) :: (6 : UInt8) :: (6 : UInt8) :: (6 : UInt8) :: (6 : UInt8) :: (6 : UInt8) :: (6 : UInt8) :: (6 : UInt8) :: (6 : UInt8) :: (6 : UInt8) :: (6 : UInt8) :: (6 :
  UInt8) :: (6 : UInt8) :: (6 : UInt8) :: (6 : UInt8) :: (6 : UInt8) :: (6 : UInt8) :: (6 : UInt8) :: (6 : UInt8) :: (6 : UInt8) :: (6 : UInt8) :: (6 : UInt8) :: (6 :
  UInt8) :: (6 : UInt8) :: (6 : UInt8) :: (6 : UInt8) :: (6 : UInt8) :: (6 : UInt8) :: (6 : UInt8) :: (6 : UInt8) :: ([] : List UInt8)) ((7 : UInt8) :: (7 : UInt8) :: (7 :
  UInt8) :: (7 : UInt8) :: (7 : UInt8) :: (7 : UInt8) :: (7 : UInt8) :: (7 : UInt8) :: (7 : UInt8) :: (7 : UInt8) :: (7 : UInt8) :: (7 : UInt8) :: (7 : UInt8) :: (7 :
  UInt8) :: (7 : UInt8) :: (7 : UInt8) :: (7 : UInt8) :: (7 : UInt8) :: (7 : UInt8) :: (7 : UInt8) :: (7 : UInt8) :: (7 : UInt8) :: (7 : UInt8) :: (7 : UInt8) :: (7 :
  UInt8) :: (7 : UInt8) :: (7 : UInt8) :: (7 : UInt8) :: (7 : UInt8) :: (7 : UInt8) :: (7 : UInt8) :: (7 : UInt8) :: (7 : UInt8) :: (7 : UInt8) :: (7 : UInt8) :: (7 :
  UInt8) :: (7 : UInt8) :: (7 : UInt8) :: (7 : UInt8) :: (7 : UInt8) :: (7 : UInt8) :: (7 : UInt8) :: (7 : UInt8) :: (7 : UInt8) :: (7 : UInt8) :: (7 : UInt8) :: (7 :
  UInt8) :: (7 : UInt8) :: (7 : UInt8) :: (7 : UInt8) :: (7 : UInt8) :: (7 : UInt8) :: (7 : UInt8) :: (7 : UInt8) :: (7 : UInt8) :: (7 : UInt8) :: (7 : UInt8) :: (7 :
  UInt8) :: (7 : UInt8) :: (7 : UInt8) :: (7 : UInt8) :: (7 : UInt8) :: (7 : UInt8) :: (7 : UInt8) :: ([] : List UInt8))) (List.append ((8 : UInt8) :: (8 : UInt8) :: (8 :
  UInt8) :: (8 : UInt8) :: (8 : UInt8) :: (8 : UInt8) :: (8 : UInt8) :: (8 : UInt8) :: (8 : UInt8) :: (8 : UInt8) :: (8 : UInt8) :: (8 : UInt8) :: (8 : UInt8) :: (8 :
  UInt8) :: (8 : UInt8) :: (8 : UInt8) :: (8 : UInt8) :: (8 : UInt8) :: (8 : UInt8) :: (8 : UInt8) :: (8 : UInt8) :: (8 : UInt8) :: (8 : UInt8) :: (8 : UInt8) :: (8 :
  UInt8) :: (8 : UInt8) :: (8 : UInt8) :: (8 : UInt8) :: (8 : UInt8) :: (8 : UInt8) :: (8 : UInt8) :: (8 : UInt8) :: (8 : UInt8) :: (8 : UInt8) :: (8 : UInt8) :: (8 :
  UInt8) :: (8 : UInt8) :: (8 : UInt8) :: (8 : UInt8) :: (8 : UInt8) :: (8 : UInt8) :: (8 : UInt8) :: (8 : UInt8) :: (8 : UInt8) :: (8 : UInt8) :: (8 : UInt8) :: (8 :
  UInt8) :: (8 : UInt8) :: (8 : UInt8) :: (8 : UInt8) :: (8 : UInt8) :: (8 : UInt8) :: (8 : UInt8) :: (8 : UInt8) :: (8 : UInt8) :: (8 : UInt8) :: (8 : UInt8) :: (8 :
  UInt8) :: (8 : UInt8) :: (8 : UInt8) :: (8 : UInt8) :: (8 : UInt8) :: (8 : UInt8) :: (8 : UInt8) :: ([] : List UInt8)) ((8 : UInt8) :: (8 : UInt8) :: (8 : UInt8) :: (8 :
  UInt8) :: (8 : UInt8) :: (8 : UInt8) :: (8 : UInt8) :: (8 : UInt8) :: (8 : UInt8) :: (8 : UInt8) :: (8 : UInt8) :: (8 : UInt8) :: (8 : UInt8) :: (8 : UInt8) :: (8 :
  UInt8) :: (8 : UInt8) :: (8 : UInt8) :: (8 : UInt8) :: (8 : UInt8) :: (8 : UInt8) :: (8 : UInt8) :: (8 : UInt8) :: (8 : UInt8) :: (8 : UInt8) :: (8 : UInt8) :: (8 :
  UInt8) :: (8 : UInt8) :: (8 : UInt8) :: (8 : UInt8) :: (8 : UInt8) :: (8 : UInt8) :: (8 : UInt8) :: (8 : UInt8) :: (8 : UInt8) :: (8 : UInt8) :: (8 : UInt8) :: (8 :
  UInt8) :: (8 : UInt8) :: (8 : UInt8) :: (8 : UInt8) :: (8 : UInt8) :: (8 : UInt8) :: (8 : UInt8) :: (8 : UInt8) :: (8 : UInt8) :: (8 : UInt8) :: (8 : UInt8) :: (8 :
  UInt8) :: (8 : UInt8) :: (8 : UInt8) :: (8 : UInt8) :: (8 : UInt8) :: (8 : UInt8) :: (8 : UInt8) :: (8 : UInt8) :: (8 : UInt8) :: (8 : UInt8) :: (8 : UInt8) :: (8 :
  UInt8) :: (8 : UInt8) :: (8 : UInt8) :: (8 : UInt8) :: (8 : UInt8) :: (8 : UInt8) :: ([] : List UInt8))))))) (Int.toNat (IntKind.wrap IntKind.u8 x)) (0 : UInt8))) :
  Int)))
theorem v125 (n : Int) (Q : Int → Prop) : V125 n Q = vcFunc (S1 [] [] [] []) f125_ct.own f125_ct.fresh f125_an Tryz.f125 (bodyOf Tryz.f125) f125_ct.A f125_ct.C f125_ct.R n () Q := by kernel_rfl

def V114 (n : Int) (Q : Int → Prop) : Prop :=
  f125_wp n () fun (r : Int) ↦ Q r
theorem v114 (n : Int) (Q : Int → Prop) : V114 n Q = vcFunc (S1 [(125, f125_ct)] [] [] []) f114_ct.own f114_ct.fresh no_an Tryz.f114 (bodyOf Tryz.f114) f114_ct.A f114_ct.C f114_ct.R n () Q := by kernel_rfl

def V67 (xs : List (List Int)) (Q : List Int → Prop) : Prop :=
  List.length xs ≤ (9223372036854775807 : Nat) →
    ∃ (I : Int → Int → Prop),
      ∃ (μ : Int → Int → Nat),
        I (0 : Int) (0 : Int) ∧
          ∀ (x x_1 : Int),
            I x x_1 →
              cnd (decide (x < (↑(List.length xs) : Int)))
                ((0 : Int) ≤ x ∧
                  x < (↑(List.length xs) : Int) ∧
                    (List.length (List.getD xs (Int.toNat x) ([] : List Int)) ≤ (9223372036854775807 : Nat) →
                      cnd (decide (IntKind.wrap IntKind.i64 (x_1 + (↑(List.length (List.getD xs (Int.toNat x) ([] : List Int))) : Int)) < (0 : Int)))
                        False
                        (I (IntKind.wrap IntKind.i64 (x + (1 : Int)))
                            (IntKind.wrap IntKind.i64 (x_1 + (↑(List.length (List.getD xs (Int.toNat x) ([] : List Int))) : Int))) ∧
                          μ (IntKind.wrap IntKind.i64 (x + (1 : Int)))
                              (IntKind.wrap IntKind.i64 (x_1 + (↑(List.length (List.getD xs (Int.toNat x) ([] : List Int))) : Int))) <
                            μ x x_1)))
                (f96_wp (none, x_1, ()) () fun (r : List Int) ↦
                  List.length xs ≤ (9223372036854775807 : Nat) →
                    ∃ (I : Int → List Int → Prop),
                      ∃ (μ : Int → List Int → Nat),
                        I (0 : Int) r ∧
                          ∀ (x : Int) (x_2 : List Int),
                            I x x_2 →
                              cnd (decide (x < (↑(List.length xs) : Int)))
                                ((0 : Int) ≤ x ∧
                                  x < (↑(List.length xs) : Int) ∧
                                    (List.length x_2 + List.length (List.getD xs (Int.toNat x) ([] : List Int))) * (8 : Nat) ≤ (140737488355328 : Nat) ∧
                                      I (IntKind.wrap IntKind.i64 (x + (1 : Int))) (x_2 ++ List.getD xs (Int.toNat x) ([] : List Int)) ∧
                                        μ (IntKind.wrap IntKind.i64 (x + (1 : Int))) (x_2 ++ List.getD xs (Int.toNat x) ([] : List Int)) < μ x x_2)
                                (Q x_2))
theorem v67 (xs : List (List Int)) (Q : List Int → Prop) : V67 xs Q = vcFunc (S1 [(96, f96_ct)] [] [] []) f67_ct.own f67_ct.fresh f67_an Tryz.f67 (bodyOf Tryz.f67) f67_ct.A f67_ct.C f67_ct.R xs () Q := by kernel_rfl

def V106 (ys : List Int) (a : Int) (b : Int) (f : Int × Int → (Int → Prop) → Prop) (Q : Unit → List Int → Prop) : Prop :=
  ∃ (I : Int → List Int → Prop),
    ∃ (μ : Int → List Int → Nat),
      I (IntKind.wrap IntKind.i64 (a + (1 : Int))) ys ∧
        ∀ (x : Int) (x_1 : List Int),
          I x x_1 →
            cnd (decide (x < b))
              (∃ (I_1 : Int → List Int → Prop),
                ∃ (μ_1 : Int → List Int → Nat),
                  I_1 x x_1 ∧
                    ∀ (x_2 : Int) (x_3 : List Int),
                      I_1 x_2 x_3 →
                        cnd (decide (x_2 > a))
                          ((0 : Int) ≤ x_2 ∧
                            x_2 < (↑(List.length x_3) : Int) ∧
                              (0 : Int) ≤ IntKind.wrap IntKind.i64 (x_2 - (1 : Int)) ∧
                                IntKind.wrap IntKind.i64 (x_2 - (1 : Int)) < (↑(List.length x_3) : Int) ∧
                                  ∃ (r : Int),
                                    (Prod.fst (f, ())
                                        (List.getD x_3 (Int.toNat x_2) (0 : Int),
                                          List.getD x_3 (Int.toNat (IntKind.wrap IntKind.i64 (x_2 - (1 : Int)))) (0 : Int))
                                        fun (r' : Int) ↦ r' = r) ∧
                                      cnd (decide (r < (0 : Int)))
                                        ((0 : Int) ≤ IntKind.wrap IntKind.i64 (x_2 - (1 : Int)) ∧
                                          IntKind.wrap IntKind.i64 (x_2 - (1 : Int)) < (↑(List.length x_3) : Int) ∧
                                            (0 : Int) ≤ x_2 ∧
                                              x_2 < (↑(List.length x_3) : Int) ∧
                                                (0 : Int) ≤ x_2 ∧
                                                  x_2 < (↑(List.length x_3) : Int) ∧
                                                    (0 : Int) ≤ IntKind.wrap IntKind.i64 (x_2 - (1 : Int)) ∧
                                                      IntKind.wrap IntKind.i64 (x_2 - (1 : Int)) <
                                                          (↑(List.length
                                                                (List.set x_3 (Int.toNat x_2)
                                                                  (List.getD x_3 (Int.toNat (IntKind.wrap IntKind.i64 (x_2 - (1 : Int)))) (0 : Int)))) :
                                                            Int) ∧
                                                        I_1 (IntKind.wrap IntKind.i64 (x_2 - (1 : Int)))
                                                            (List.set
                                                              (List.set x_3 (Int.toNat x_2)
                                                                (List.getD x_3 (Int.toNat (IntKind.wrap IntKind.i64 (x_2 - (1 : Int)))) (0 : Int)))
                                                              (Int.toNat (IntKind.wrap IntKind.i64 (x_2 - (1 : Int))))
                                                              (List.getD x_3 (Int.toNat x_2) (0 : Int))) ∧
                                                          μ_1 (IntKind.wrap IntKind.i64 (x_2 - (1 : Int)))
                                                              (List.set
                                                                (List.set x_3 (Int.toNat x_2)
                                                                  (List.getD x_3 (Int.toNat (IntKind.wrap IntKind.i64 (x_2 - (1 : Int)))) (0 : Int)))
                                                                (Int.toNat (IntKind.wrap IntKind.i64 (x_2 - (1 : Int))))
                                                                (List.getD x_3 (Int.toNat x_2) (0 : Int))) <
                                                            μ_1 x_2 x_3)
                                        (I (IntKind.wrap IntKind.i64 (x + (1 : Int))) x_3 ∧ μ (IntKind.wrap IntKind.i64 (x + (1 : Int))) x_3 < μ x x_1))
                          (I (IntKind.wrap IntKind.i64 (x + (1 : Int))) x_3 ∧ μ (IntKind.wrap IntKind.i64 (x + (1 : Int))) x_3 < μ x x_1))
              (Q () x_1)
theorem v106 (ys : List Int) (a : Int) (b : Int) (f : Int × Int → (Int → Prop) → Prop) (Q : Unit → List Int → Prop) : V106 ys a b f Q = vcFuncW (S1 [] [] [] []) ins3_an Tryz.f106 (bodyOf Tryz.f106) f106_ct ys (a, b, f, ()) () Q := by kernel_rfl

def V91 (ys : List Int) (n : Int) (f : Int × Int → (Int → Prop) → Prop) (Q : Unit → List Int → Prop) : Prop :=
  ∃ (I : Int → Int → List Int → Prop),
    ∃ (μ : Int → Int → List Int → Nat),
      I (0 : Int) (20 : Int) ys ∧
        ∀ (x x_1 : Int) (x_2 : List Int),
          I x x_1 x_2 →
            cnd (decide (x_1 ≤ n))
              (f106_wp x_2 (x, x_1, f, ()) () fun (r : Unit) (zs : List Int) ↦
                I x_1 (IntKind.wrap IntKind.i64 (x_1 + (20 : Int))) zs ∧ μ x_1 (IntKind.wrap IntKind.i64 (x_1 + (20 : Int))) zs < μ x x_1 x_2)
              (f106_wp x_2 (x, n, f, ()) () fun (r : Unit) (zs : List Int) ↦
                ∃ (I : Int → Prop),
                  ∃ (μ : Int → Nat), I (20 : Int) ∧ ∀ (x : Int), I x → cnd (decide (x < n)) (∃ (I : Prop), ∃ (μ : Nat), I ∧ (I → False)) (Q () zs))
theorem v91 (ys : List Int) (n : Int) (f : Int × Int → (Int → Prop) → Prop) (Q : Unit → List Int → Prop) : V91 ys n f Q = vcFuncW (S1 [] [(106, f106_ct)] [] []) f91_an Tryz.f91 (bodyOf Tryz.f91) f91_ct ys (n, f, ()) () Q := by kernel_rfl

def V57 (ys : List Int) (f : Int × Int → (Int → Prop) → Prop) (Q : Unit → List Int → Prop) : Prop :=
  List.length ys ≤ (9223372036854775807 : Nat) → f91_wp ys ((↑(List.length ys) : Int), f, ()) () fun (r : Unit) (zs : List Int) ↦ Q () zs
theorem v57 (ys : List Int) (f : Int × Int → (Int → Prop) → Prop) (Q : Unit → List Int → Prop) : V57 ys f Q = vcFuncW (S1 [] [(91, f91_ct)] [] []) no_an Tryz.f57 (bodyOf Tryz.f57) f57_ct ys (f, ()) () Q := by kernel_rfl

def V116 (ys : List ((Int × Int) × (Int × Int) × Int)) (a : Int) (b : Int) (f : ((Int × Int) × (Int × Int) × Int) × (Int × Int) × (Int × Int) × Int → (Int → Prop) → Prop) (Q : Unit → List ((Int × Int) × (Int × Int) × Int) → Prop) : Prop :=
  ∃ (I : Int → List ((Int × Int) × (Int × Int) × Int) → Prop),
    ∃ (μ : Int → List ((Int × Int) × (Int × Int) × Int) → Nat),
      I (IntKind.wrap IntKind.i64 (a + (1 : Int))) ys ∧
        ∀ (x : Int) (x_1 : List ((Int × Int) × (Int × Int) × Int)),
          I x x_1 →
            cnd (decide (x < b))
              (∃ (I_1 : Int → List ((Int × Int) × (Int × Int) × Int) → Prop),
                ∃ (μ_1 : Int → List ((Int × Int) × (Int × Int) × Int) → Nat),
                  I_1 x x_1 ∧
                    ∀ (x_2 : Int) (x_3 : List ((Int × Int) × (Int × Int) × Int)),
                      I_1 x_2 x_3 →
                        cnd (decide (x_2 > a))
                          ((0 : Int) ≤ x_2 ∧
                            x_2 < (↑(List.length x_3) : Int) ∧
                              (0 : Int) ≤ IntKind.wrap IntKind.i64 (x_2 - (1 : Int)) ∧
                                IntKind.wrap IntKind.i64 (x_2 - (1 : Int)) < (↑(List.length x_3) : Int) ∧
                                  ∃ (r : Int),
                                    (Prod.fst (f, ())
                                        (((Prod.fst
                                                (Prod.fst (List.getD x_3 (Int.toNat x_2) (((0 : Int), (0 : Int)), ((0 : Int), (0 : Int)), (0 : Int)))),
                                              Prod.snd
                                                (Prod.fst (List.getD x_3 (Int.toNat x_2) (((0 : Int), (0 : Int)), ((0 : Int), (0 : Int)), (0 : Int))))),
                                            (Prod.fst
                                                (Prod.fst
                                                  (Prod.snd
                                                    (List.getD x_3 (Int.toNat x_2) (((0 : Int), (0 : Int)), ((0 : Int), (0 : Int)), (0 : Int))))),
                                              Prod.snd
                                                (Prod.fst
                                                  (Prod.snd
                                                    (List.getD x_3 (Int.toNat x_2) (((0 : Int), (0 : Int)), ((0 : Int), (0 : Int)), (0 : Int)))))),
                                            Prod.snd
                                              (Prod.snd (List.getD x_3 (Int.toNat x_2) (((0 : Int), (0 : Int)), ((0 : Int), (0 : Int)), (0 : Int))))),
                                          (Prod.fst
                                              (Prod.fst
                                                (List.getD x_3 (Int.toNat (IntKind.wrap IntKind.i64 (x_2 - (1 : Int))))
                                                  (((0 : Int), (0 : Int)), ((0 : Int), (0 : Int)), (0 : Int)))),
                                            Prod.snd
                                              (Prod.fst
                                                (List.getD x_3 (Int.toNat (IntKind.wrap IntKind.i64 (x_2 - (1 : Int))))
                                                  (((0 : Int), (0 : Int)), ((0 : Int), (0 : Int)), (0 : Int))))),
                                          (Prod.fst
                                              (Prod.fst
                                                (Prod.snd
                                                  (List.getD x_3 (Int.toNat (IntKind.wrap IntKind.i64 (x_2 - (1 : Int))))
                                                    (((0 : Int), (0 : Int)), ((0 : Int), (0 : Int)), (0 : Int))))),
                                            Prod.snd
                                              (Prod.fst
                                                (Prod.snd
                                                  (List.getD x_3 (Int.toNat (IntKind.wrap IntKind.i64 (x_2 - (1 : Int))))
                                                    (((0 : Int), (0 : Int)), ((0 : Int), (0 : Int)), (0 : Int)))))),
                                          Prod.snd
                                            (Prod.snd
                                              (List.getD x_3 (Int.toNat (IntKind.wrap IntKind.i64 (x_2 - (1 : Int))))
                                                (((0 : Int), (0 : Int)), ((0 : Int), (0 : Int)), (0 : Int)))))
                                        fun (r' : Int) ↦ r' = r) ∧
                                      cnd (decide (r < (0 : Int)))
                                        ((0 : Int) ≤ IntKind.wrap IntKind.i64 (x_2 - (1 : Int)) ∧
                                          IntKind.wrap IntKind.i64 (x_2 - (1 : Int)) < (↑(List.length x_3) : Int) ∧
                                            (0 : Int) ≤ x_2 ∧
                                              x_2 < (↑(List.length x_3) : Int) ∧
                                                (0 : Int) ≤ x_2 ∧
                                                  x_2 < (↑(List.length x_3) : Int) ∧
                                                    (0 : Int) ≤ IntKind.wrap IntKind.i64 (x_2 - (1 : Int)) ∧
                                                      IntKind.wrap IntKind.i64 (x_2 - (1 : Int)) <
                                                          (↑(List.length
                                                                (List.set x_3 (Int.toNat x_2)
                                                                  ((Prod.fst
                                                                        (Prod.fst
                                                                          (List.getD x_3 (Int.toNat (IntKind.wrap IntKind.i64 (x_2 - (1 : Int))))
                                                                            (((0 : Int), (0 : Int)), ((0 : Int), (0 : Int)), (0 : Int)))),
                                                                      Prod.snd
                                                                        (Prod.fst
                                                                          (List.getD x_3 (Int.toNat (IntKind.wrap IntKind.i64 (x_2 - (1 : Int))))
                                                                            (((0 : Int), (0 : Int)), ((0 : Int), (0 : Int)), (0 : Int))))),
                                                                    (Prod.fst
                                                                        (Prod.fst
                                                                          (Prod.snd
                                                                            (List.getD x_3 (Int.toNat (IntKind.wrap IntKind.i64 (x_2 - (1 : Int))))
                                                                              (((0 : Int), (0 : Int)), ((0 : Int), (0 : Int)), (0 : Int))))),
                                                                      Prod.snd
                                                                        (Prod.fst
                                                                          (Prod.snd
                                                                            (List.getD x_3 (Int.toNat (IntKind.wrap IntKind.i64 (x_2 - (1 : Int))))
                                                                              (((0 : Int), (0 : Int)), ((0 : Int), (0 : Int)), (0 : Int)))))),
                                                                    Prod.snd
                                                                      (Prod.snd
                                                                        (List.getD x_3 (Int.toNat (IntKind.wrap IntKind.i64 (x_2 - (1 : Int))))
                                                                          (((0 : Int), (0 : Int)), ((0 : Int), (0 : Int)), (0 : Int))))))) :
                                                            Int) ∧
                                                        I_1 (IntKind.wrap IntKind.i64 (x_2 - (1 : Int)))
                                                            (List.set
                                                              (List.set x_3 (Int.toNat x_2)
                                                                ((Prod.fst
                                                                      (Prod.fst
                                                                        (List.getD x_3 (Int.toNat (IntKind.wrap IntKind.i64 (x_2 - (1 : Int))))
                                                                          (((0 : Int), (0 : Int)), ((0 : Int), (0 : Int)), (0 : Int)))),
                                                                    Prod.snd
                                                                      (Prod.fst
                                                                        (List.getD x_3 (Int.toNat (IntKind.wrap IntKind.i64 (x_2 - (1 : Int))))
                                                                          (((0 : Int), (0 : Int)), ((0 : Int), (0 : Int)), (0 : Int))))),
                                                                  (Prod.fst
                                                                      (Prod.fst
                                                                        (Prod.snd
                                                                          (List.getD x_3 (Int.toNat (IntKind.wrap IntKind.i64 (x_2 - (1 : Int))))
                                                                            (((0 : Int), (0 : Int)), ((0 : Int), (0 : Int)), (0 : Int))))),
                                                                    Prod.snd
                                                                      (Prod.fst
                                                                        (Prod.snd
                                                                          (List.getD x_3 (Int.toNat (IntKind.wrap IntKind.i64 (x_2 - (1 : Int))))
                                                                            (((0 : Int), (0 : Int)), ((0 : Int), (0 : Int)), (0 : Int)))))),
                                                                  Prod.snd
                                                                    (Prod.snd
                                                                      (List.getD x_3 (Int.toNat (IntKind.wrap IntKind.i64 (x_2 - (1 : Int))))
                                                                        (((0 : Int), (0 : Int)), ((0 : Int), (0 : Int)), (0 : Int))))))
                                                              (Int.toNat (IntKind.wrap IntKind.i64 (x_2 - (1 : Int))))
                                                              ((Prod.fst
                                                                    (Prod.fst
                                                                      (List.getD x_3 (Int.toNat x_2)
                                                                        (((0 : Int), (0 : Int)), ((0 : Int), (0 : Int)), (0 : Int)))),
                                                                  Prod.snd
                                                                    (Prod.fst
                                                                      (List.getD x_3 (Int.toNat x_2)
                                                                        (((0 : Int), (0 : Int)), ((0 : Int), (0 : Int)), (0 : Int))))),
                                                                (Prod.fst
                                                                    (Prod.fst
                                                                      (Prod.snd
                                                                        (List.getD x_3 (Int.toNat x_2)
                                                                          (((0 : Int), (0 : Int)), ((0 : Int), (0 : Int)), (0 : Int))))),
                                                                  Prod.snd
                                                                    (Prod.fst
                                                                      (Prod.snd
                                                                        (List.getD x_3 (Int.toNat x_2)
                                                                          (((0 : Int), (0 : Int)), ((0 : Int), (0 : Int)), (0 : Int)))))),
                                                                Prod.snd
                                                                  (Prod.snd
                                                                    (List.getD x_3 (Int.toNat x_2)
                                                                      (((0 : Int), (0 : Int)), ((0 : Int), (0 : Int)), (0 : Int)))))) ∧
                                                          μ_1 (IntKind.wrap IntKind.i64 (x_2 - (1 : Int)))
                                                              (List.set
                                                                (List.set x_3 (Int.toNat x_2)
                                                                  ((Prod.fst
                                                                        (Prod.fst
                                                                          (List.getD x_3 (Int.toNat (IntKind.wrap IntKind.i64 (x_2 - (1 : Int))))
                                                                            (((0 : Int), (0 : Int)), ((0 : Int), (0 : Int)), (0 : Int)))),
                                                                      Prod.snd
                                                                        (Prod.fst
                                                                          (List.getD x_3 (Int.toNat (IntKind.wrap IntKind.i64 (x_2 - (1 : Int))))
                                                                            (((0 : Int), (0 : Int)), ((0 : Int), (0 : Int)), (0 : Int))))),
                                                                    (Prod.fst
                                                                        (Prod.fst
                                                                          (Prod.snd
                                                                            (List.getD x_3 (Int.toNat (IntKind.wrap IntKind.i64 (x_2 - (1 : Int))))
                                                                              (((0 : Int), (0 : Int)), ((0 : Int), (0 : Int)), (0 : Int))))),
                                                                      Prod.snd
                                                                        (Prod.fst
                                                                          (Prod.snd
                                                                            (List.getD x_3 (Int.toNat (IntKind.wrap IntKind.i64 (x_2 - (1 : Int))))
                                                                              (((0 : Int), (0 : Int)), ((0 : Int), (0 : Int)), (0 : Int)))))),
                                                                    Prod.snd
                                                                      (Prod.snd
                                                                        (List.getD x_3 (Int.toNat (IntKind.wrap IntKind.i64 (x_2 - (1 : Int))))
                                                                          (((0 : Int), (0 : Int)), ((0 : Int), (0 : Int)), (0 : Int))))))
                                                                (Int.toNat (IntKind.wrap IntKind.i64 (x_2 - (1 : Int))))
                                                                ((Prod.fst
                                                                      (Prod.fst
                                                                        (List.getD x_3 (Int.toNat x_2)
                                                                          (((0 : Int), (0 : Int)), ((0 : Int), (0 : Int)), (0 : Int)))),
                                                                    Prod.snd
                                                                      (Prod.fst
                                                                        (List.getD x_3 (Int.toNat x_2)
                                                                          (((0 : Int), (0 : Int)), ((0 : Int), (0 : Int)), (0 : Int))))),
                                                                  (Prod.fst
                                                                      (Prod.fst
                                                                        (Prod.snd
                                                                          (List.getD x_3 (Int.toNat x_2)
                                                                            (((0 : Int), (0 : Int)), ((0 : Int), (0 : Int)), (0 : Int))))),
                                                                    Prod.snd
                                                                      (Prod.fst
                                                                        (Prod.snd
                                                                          (List.getD x_3 (Int.toNat x_2)
                                                                            (((0 : Int), (0 : Int)), ((0 : Int), (0 : Int)), (0 : Int)))))),
                                                                  Prod.snd
                                                                    (Prod.snd
                                                                      (List.getD x_3 (Int.toNat x_2)
                                                                        (((0 : Int), (0 : Int)), ((0 : Int), (0 : Int)), (0 : Int)))))) <
                                                            μ_1 x_2 x_3)
                                        (I (IntKind.wrap IntKind.i64 (x + (1 : Int))) x_3 ∧ μ (IntKind.wrap IntKind.i64 (x + (1 : Int))) x_3 < μ x x_1))
                          (I (IntKind.wrap IntKind.i64 (x + (1 : Int))) x_3 ∧ μ (IntKind.wrap IntKind.i64 (x + (1 : Int))) x_3 < μ x x_1))
              (Q () x_1)
theorem v116 (ys : List ((Int × Int) × (Int × Int) × Int)) (a : Int) (b : Int) (f : ((Int × Int) × (Int × Int) × Int) × (Int × Int) × (Int × Int) × Int → (Int → Prop) → Prop) (Q : Unit → List ((Int × Int) × (Int × Int) × Int) → Prop) : V116 ys a b f Q = vcFuncW (S1 [] [] [] []) ins89_an Tryz.f116 (bodyOf Tryz.f116) f116_ct ys (a, b, f, ()) () Q := by kernel_rfl

def V113 (ys : List ((Int × Int) × (Int × Int) × Int)) (a : Int) (b : Int) (l : Int) (f : ((Int × Int) × (Int × Int) × Int) × (Int × Int) × (Int × Int) × Int → (Int → Prop) → Prop) (Q : Unit → List ((Int × Int) × (Int × Int) × Int) → Prop) : Prop :=
  ∃ (I : Int → Int → Int → Prop),
    ∃ (μ : Int → Int → Int → Nat),
      I a b l ∧
        ∀ (x x_1 x_2 : Int),
          I x x_1 x_2 →
            cnd (decide (IntKind.wrap IntKind.i64 (x_1 - x) ≤ (12 : Int)))
              (f116_wp ys (x, x_1, f, ()) () fun (r : Unit) (zs : List ((Int × Int) × (Int × Int) × Int)) ↦ Q () zs)
              (cnd (x_2 == (0 : Int)) False False)
theorem v113 (ys : List ((Int × Int) × (Int × Int) × Int)) (a : Int) (b : Int) (l : Int) (f : ((Int × Int) × (Int × Int) × Int) × (Int × Int) × (Int × Int) × Int → (Int → Prop) → Prop) (Q : Unit → List ((Int × Int) × (Int × Int) × Int) → Prop) : V113 ys a b l f Q = vcFuncW (S1 [] [(116, f116_ct)] [] []) f113_an Tryz.f113 (bodyOf Tryz.f113) f113_ct ys (a, b, l, f, ()) () Q := by kernel_rfl

def V104 (ys : List ((Int × Int) × (Int × Int) × Int)) (f : ((Int × Int) × (Int × Int) × Int) × (Int × Int) × (Int × Int) × Int → (Int → Prop) → Prop) (Q : Unit → List ((Int × Int) × (Int × Int) × Int) → Prop) : Prop :=
  List.length ys ≤ (9223372036854775807 : Nat) →
    f114_wp (IntKind.wrap IntKind.u64 (↑(List.length ys) : Int)) () fun (r : Int) ↦
      f113_wp ys ((0 : Int), (↑(List.length ys) : Int), r, f, ()) () fun (r : Unit) (zs : List ((Int × Int) × (Int × Int) × Int)) ↦ Q () zs
theorem v104 (ys : List ((Int × Int) × (Int × Int) × Int)) (f : ((Int × Int) × (Int × Int) × Int) × (Int × Int) × (Int × Int) × Int → (Int → Prop) → Prop) (Q : Unit → List ((Int × Int) × (Int × Int) × Int) → Prop) : V104 ys f Q = vcFuncW (S1 [(114, f114_ct)] [(113, f113_ct)] [] []) no_an Tryz.f104 (bodyOf Tryz.f104) f104_ct ys (f, ()) () Q := by kernel_rfl

def V64 (ys : List Int) (f : Int → (Bool → Prop) → Prop) (Q : List Int → Prop) : Prop :=
  f95_wp (ys, f, ()) () fun (r : Int) ↦
    cnd (r == (-1 : Int)) (Q ys)
      (∃ (I : Int → Int → List Int → Prop),
        ∃ (μ : Int → Int → List Int → Nat),
          I r (IntKind.wrap IntKind.i64 (r + (1 : Int))) ys ∧
            ∀ (x x_1 : Int) (x_2 : List Int),
              I x x_1 x_2 →
                List.length x_2 ≤ (9223372036854775807 : Nat) →
                  cnd (decide (x_1 < (↑(List.length x_2) : Int)))
                    ((0 : Int) ≤ x_1 ∧
                      x_1 < (↑(List.length x_2) : Int) ∧
                        Prod.fst (f, ()) (List.getD x_2 (Int.toNat x_1) (0 : Int)) fun (r : Bool) ↦
                          cnd (!r)
                            ((0 : Int) ≤ x ∧
                              x < (↑(List.length x_2) : Int) ∧
                                I (IntKind.wrap IntKind.i64 (x + (1 : Int))) (IntKind.wrap IntKind.i64 (x_1 + (1 : Int)))
                                    (List.set x_2 (Int.toNat x) (List.getD x_2 (Int.toNat x_1) (0 : Int))) ∧
                                  μ (IntKind.wrap IntKind.i64 (x + (1 : Int))) (IntKind.wrap IntKind.i64 (x_1 + (1 : Int)))
                                      (List.set x_2 (Int.toNat x) (List.getD x_2 (Int.toNat x_1) (0 : Int))) <
                                    μ x x_1 x_2)
                            (I x (IntKind.wrap IntKind.i64 (x_1 + (1 : Int))) x_2 ∧ μ x (IntKind.wrap IntKind.i64 (x_1 + (1 : Int))) x_2 < μ x x_1 x_2))
                    ((0 : Int) ≤ x ∧
                      x ≤ (↑(List.length x_2) : Int) ∧
                        (↑(List.length x_2) : Int) ≤ (↑(List.length x_2) : Int) ∧
                          (0 : Int) ≤ (0 : Int) ∧
                            (0 : Int) ≤ x ∧
                              x ≤
                                  (↑(List.length
                                        (List.take (Int.toNat x) x_2 ++ List.replicate (Int.toNat (↑(List.length x_2) : Int) - Int.toNat x) (0 : Int) ++
                                          List.drop (Int.toNat (↑(List.length x_2) : Int)) x_2)) :
                                    Int) ∧
                                Q
                                  (List.take (Int.toNat x)
                                    (List.take (Int.toNat x) x_2 ++ List.replicate (Int.toNat (↑(List.length x_2) : Int) - Int.toNat x) (0 : Int) ++
                                      List.drop (Int.toNat (↑(List.length x_2) : Int)) x_2))))
theorem v64 (ys : List Int) (f : Int → (Bool → Prop) → Prop) (Q : List Int → Prop) : V64 ys f Q = vcFuncH (S1 [(95, f95_ct)] [] [] [1102,1202]) f64_an Tryz.f64 (bodyOf Tryz.f64) f64_ct ys (f, ()) () Q := by kernel_rfl

def V112 (ys : List ((Int × Int) × (Int × Int) × Int)) (sq : Kd.T (kdL (CtH.A f112_ct))) (Q : List ((Int × Int) × (Int × Int) × Int) → Prop) : Prop :=
  ∃ (I : List ((Int × Int) × (Int × Int) × Int) → List ((Int × Int) × (Int × Int) × Int) × Unit → Prop),
    I ([] : List ((Int × Int) × (Int × Int) × Int)) (ys, ()) ∧
      (∀ (pre : List ((Int × Int) × (Int × Int) × Int)) (x : (Int × Int) × (Int × Int) × Int) (rest : List ((Int × Int) × (Int × Int) × Int)),
          sq = pre ++ x :: rest →
            ∀ (x_1 : List ((Int × Int) × (Int × Int) × Int) × Unit),
              I pre x_1 →
                (List.length (Prod.fst x_1) +
                        List.length
                          (((Prod.fst (Prod.fst x), Prod.snd (Prod.fst x)), (Prod.fst (Prod.fst (Prod.snd x)), Prod.snd (Prod.fst (Prod.snd x))),
                              Prod.snd (Prod.snd x)) ::
                            ([] : List ((Int × Int) × (Int × Int) × Int)))) *
                      (40 : Nat) ≤
                    (140737488355328 : Nat) ∧
                  I (pre ++ x :: ([] : List ((Int × Int) × (Int × Int) × Int)))
                    (Prod.fst x_1 ++
                        ((Prod.fst (Prod.fst x), Prod.snd (Prod.fst x)), (Prod.fst (Prod.fst (Prod.snd x)), Prod.snd (Prod.fst (Prod.snd x))),
                            Prod.snd (Prod.snd x)) ::
                          ([] : List ((Int × Int) × (Int × Int) × Int)),
                      ())) ∧
        ∀ (x : List ((Int × Int) × (Int × Int) × Int) × Unit), I sq x → Q (Prod.fst x)
theorem v112 (ys : List ((Int × Int) × (Int × Int) × Int)) (sq : Kd.T (kdL (CtH.A f112_ct))) (Q : List ((Int × Int) × (Int × Int) × Int) → Prop) : V112 ys sq Q = vcFuncH (S1 [] [] [] []) f112_an Tryz.f112 (bodyOf Tryz.f112) f112_ct ys (sq, ()) () Q := by kernel_rfl

def V103 (sq : Kd.T (Ct.A f103_ct)) (Q : List ((Int × Int) × (Int × Int) × Int) → Prop) : Prop :=
  f112_wp ([] : List ((Int × Int) × (Int × Int) × Int)) (sq, ()) () fun (zs : List ((Int × Int) × (Int × Int) × Int)) ↦ Q zs
theorem v103 (sq : Kd.T (Ct.A f103_ct)) (Q : List ((Int × Int) × (Int × Int) × Int) → Prop) : V103 sq Q = vcFunc (S1 [] [] [(112, f112_ct)] []) f103_ct.own f103_ct.fresh no_an Tryz.f103 (bodyOf Tryz.f103) f103_ct.A f103_ct.C f103_ct.R sq () Q := by kernel_rfl

def V78 (sq : Kd.T (kdL (Ct.A f78_ct))) (f : ((Int × Int) × (Int × Int) × Int) × (Int × Int) × (Int × Int) × Int → (Int → Prop) → Prop) (Q : List ((Int × Int) × (Int × Int) × Int) → Prop) : Prop :=
  f103_wp sq () fun (r : List ((Int × Int) × (Int × Int) × Int)) ↦
    f104_wp r (f, ()) () fun (r : Unit) (zs : List ((Int × Int) × (Int × Int) × Int)) ↦ Q zs
theorem v78 (sq : Kd.T (kdL (Ct.A f78_ct))) (f : ((Int × Int) × (Int × Int) × Int) × (Int × Int) × (Int × Int) × Int → (Int → Prop) → Prop) (Q : List ((Int × Int) × (Int × Int) × Int) → Prop) : V78 sq f Q = vcFunc (S1 [(103, f103_ct)] [(104, f104_ct)] [] []) f78_ct.own f78_ct.fresh no_an Tryz.f78 (bodyOf Tryz.f78) f78_ct.A f78_ct.C f78_ct.R (sq, f, ()) () Q := by kernel_rfl

end Go.Proofs.Rz
namespace Go.Proofs.Rz
open Go Go.GX
theorem wrapS {x : Int} (h1 : -9223372036854775808 ≤ x) (h2 : x ≤ 9223372036854775807) : IntKind.wrap .i64 x = x := by
  have hb : (2 : Int) ^ IntKind.i64.bits = 18446744073709551616 := rfl
  have hb' : (2 : Int) ^ (IntKind.i64.bits - 1) = 9223372036854775808 := rfl
  have hs : IntKind.i64.signed = true := rfl
  unfold IntKind.wrap
  simp only [hb, hb', hs, Bool.true_and, decide_eq_true_eq]
  split <;> omega
theorem cndT {p q : Prop} (h : p) : cnd true p q := h
theorem cndF {p q : Prop} (h : q) : cnd false p q := h

theorem forUp {σ : Type} {n : Nat} (hn : n ≤ 9223372036854775807) (F : Nat → σ) {s0 : σ} (h0 : s0 = F 0) {body : (Int → σ → Prop) → (Int → σ → Nat) → Int → σ → Prop}
    (hb : ∀ k : Nat, k < n → ∀ (I : Int → σ → Prop) (μ : Int → σ → Nat), (I (k + 1 : Int) (F (k + 1)) ∧ μ (k + 1 : Int) (F (k + 1)) < μ k (F k)) → IntKind.wrap .i64 ((k : Int) + 1) = k + 1 → body I μ k (F k))
    {e : Int → σ → Prop} (he : e n (F n)) :
    ∃ (I : Int → σ → Prop) (μ : Int → σ → Nat), I 0 s0 ∧ ∀ x s, I x s → cnd (decide (x < (n : Int))) (body I μ x s) (e x s) := by
  refine ⟨fun x s => ∃ k : Nat, k ≤ n ∧ x = k ∧ s = F k, fun x _ => (n - x).toNat, ⟨0, Nat.zero_le _, rfl, h0⟩, ?_⟩
  rintro x s ⟨k, hk, rfl, rfl⟩
  refine cnd_iff.2 ⟨fun h => ?_, fun h => ?_⟩
  · have h : (k : Int) < n := of_decide_eq_true h
    refine hb k (by omega) _ _ ⟨⟨k + 1, by omega, by push_cast; rfl, rfl⟩, by omega⟩ (wrapS (by omega) (by omega))
  · have h : ¬ (k : Int) < n := of_decide_eq_false h
    have : k = n := by omega
    subst this
    exact he

theorem forUpG {n : Nat} (hn : n ≤ 9223372036854775807) (go : Nat → Prop) (h0 : go 0) {body : (Int → Prop) → (Int → Nat) → Int → Prop}
    (hb : ∀ k : Nat, k < n → go k → ∀ (I : Int → Prop) (μ : Int → Nat), (go (k + 1) → I (k + 1 : Int) ∧ μ (k + 1 : Int) < μ k) → IntKind.wrap .i64 ((k : Int) + 1) = k + 1 → body I μ k)
    {e : Int → Prop} (he : go n → e n) :
    ∃ (I : Int → Prop) (μ : Int → Nat), I 0 ∧ ∀ x, I x → cnd (decide (x < (n : Int))) (body I μ x) (e x) := by
  refine ⟨fun x => ∃ k : Nat, k ≤ n ∧ x = k ∧ go k, fun x => (n - x).toNat, ⟨0, Nat.zero_le _, rfl, h0⟩, ?_⟩
  rintro x ⟨k, hk, rfl, hg⟩
  refine cnd_iff.2 ⟨fun h => ?_, fun h => ?_⟩
  · have h : (k : Int) < n := of_decide_eq_true h
    refine hb k (by omega) hg _ _ (fun hg' => ⟨⟨k + 1, by omega, by push_cast; rfl, hg'⟩, by omega⟩) (wrapS (by omega) (by omega))
  · have h : ¬ (k : Int) < n := of_decide_eq_false h
    have : k = n := by omega
    subst this
    exact he hg

theorem forUp2 {σ τ : Type} {n : Nat} (hn : n ≤ 9223372036854775807) (F : Nat → σ) (G : Nat → τ) {s0 : σ} {t0 : τ} (h0 : s0 = F 0) (h0' : t0 = G 0) {body : (Int → σ → τ → Prop) → (Int → σ → τ → Nat) → Int → σ → τ → Prop}
    (hb : ∀ k : Nat, k < n → ∀ (I : Int → σ → τ → Prop) (μ : Int → σ → τ → Nat), (I (k + 1 : Int) (F (k + 1)) (G (k + 1)) ∧ μ (k + 1 : Int) (F (k + 1)) (G (k + 1)) < μ k (F k) (G k)) → IntKind.wrap .i64 ((k : Int) + 1) = k + 1 → body I μ k (F k) (G k))
    {e : Int → σ → τ → Prop} (he : e n (F n) (G n)) :
    ∃ (I : Int → σ → τ → Prop) (μ : Int → σ → τ → Nat), I 0 s0 t0 ∧ ∀ x s t, I x s t → cnd (decide (x < (n : Int))) (body I μ x s t) (e x s t) := by
  refine ⟨fun x s t => ∃ k : Nat, k ≤ n ∧ x = k ∧ s = F k ∧ t = G k, fun x _ _ => (n - x).toNat, ⟨0, Nat.zero_le _, rfl, h0, h0'⟩, ?_⟩
  rintro x s t ⟨k, hk, rfl, rfl, rfl⟩
  refine cnd_iff.2 ⟨fun h => ?_, fun h => ?_⟩
  · have h : (k : Int) < n := of_decide_eq_true h
    refine hb k (by omega) _ _ ⟨⟨k + 1, by omega, by push_cast; rfl, rfl, rfl⟩, by omega⟩ (wrapS (by omega) (by omega))
  · have h : ¬ (k : Int) < n := of_decide_eq_false h
    have : k = n := by omega
    subst this
    exact he

theorem forUpGL {n : Nat} (go : Nat → Prop) (h0 : go 0) {body : (Int → Prop) → (Int → Nat) → Int → Prop}
    (hb : ∀ k : Nat, k < n → go k → n ≤ 9223372036854775807 → ∀ (I : Int → Prop) (μ : Int → Nat), (go (k + 1) → I (k + 1 : Int) ∧ μ (k + 1 : Int) < μ k) → IntKind.wrap .i64 ((k : Int) + 1) = k + 1 → body I μ k)
    {e : Int → Prop} (he : go n → e n) :
    ∃ (I : Int → Prop) (μ : Int → Nat), I 0 ∧ ∀ x, I x → n ≤ 9223372036854775807 → cnd (decide (x < (n : Int))) (body I μ x) (e x) := by
  refine ⟨fun x => ∃ k : Nat, k ≤ n ∧ x = k ∧ go k, fun x => (n - x).toNat, ⟨0, Nat.zero_le _, rfl, h0⟩, ?_⟩
  rintro x ⟨k, hk, rfl, hg⟩ hn
  refine cnd_iff.2 ⟨fun h => ?_, fun h => ?_⟩
  · have h : (k : Int) < n := of_decide_eq_true h
    refine hb k (by omega) hg hn _ _ (fun hg' => ⟨⟨k + 1, by omega, by push_cast; rfl, hg'⟩, by omega⟩) (wrapS (by omega) (by omega))
  · have h : ¬ (k : Int) < n := of_decide_eq_false h
    have : k = n := by omega
    subst this
    exact he hg
theorem forUpL {σ : Type} {n : Nat} (F : Nat → σ) {s0 : σ} (h0 : s0 = F 0) {body : (Int → σ → Prop) → (Int → σ → Nat) → Int → σ → Prop}
    (hb : ∀ k : Nat, k < n → ∀ (I : Int → σ → Prop) (μ : Int → σ → Nat), (I (k + 1 : Int) (F (k + 1)) ∧ μ (k + 1 : Int) (F (k + 1)) < μ k (F k)) → IntKind.wrap .i64 ((k : Int) + 1) = k + 1 → body I μ k (F k))
    {e : Int → σ → Prop} (he : e n (F n)) :
    ∃ (I : Int → σ → Prop) (μ : Int → σ → Nat), I 0 s0 ∧ ∀ x s, I x s → n ≤ 9223372036854775807 → cnd (decide (x < (n : Int))) (body I μ x s) (e x s) := by
  refine ⟨fun x s => ∃ k : Nat, k ≤ n ∧ x = k ∧ s = F k, fun x _ => (n - x).toNat, ⟨0, Nat.zero_le _, rfl, h0⟩, ?_⟩
  rintro x s ⟨k, hk, rfl, rfl⟩ hn
  refine cnd_iff.2 ⟨fun h => ?_, fun h => ?_⟩
  · have h : (k : Int) < n := of_decide_eq_true h
    refine hb k (by omega) _ _ ⟨⟨k + 1, by omega, by push_cast; rfl, rfl⟩, by omega⟩ (wrapS (by omega) (by omega))
  · have h : ¬ (k : Int) < n := of_decide_eq_false h
    have : k = n := by omega
    subst this
    exact he
theorem foldl_succ {α : Type} (f : α → Nat → α) (a : α) (k : Nat) : (List.range (k + 1)).foldl f a = f ((List.range k).foldl f a) k := by simp [List.range_succ]
theorem getD_lt {α : Type} {l : List α} {k : Nat} {d : α} (h : k < l.length) : l.getD k d = l[k] := by simp [List.getD, h]
theorem getD_mem {α : Type} {l : List α} {k : Nat} {d : α} (h : k < l.length) : l.getD k d ∈ l := by
  rw [getD_lt h]; exact List.getElem_mem h
theorem idxF_at {α : Type} {p : α → Bool} {xs : List α} {d : α} {k : Nat} (hk : k < xs.length) (h1 : ∀ j, j < k → p (xs.getD j d) = false) (h2 : p (xs.getD k d) = true) : idxF p xs = k := by
  have : xs.findIdx? p = some k := by
    rw [List.findIdx?_eq_some_iff_getElem]
    refine ⟨hk, by rwa [getD_lt hk] at h2, fun j hj => ?_⟩
    have := h1 j hj
    rw [getD_lt (by omega)] at this
    simp [this]
  simp [idxF, this]
theorem idxF_none {α : Type} {p : α → Bool} {xs : List α} {d : α} (h1 : ∀ j, j < xs.length → p (xs.getD j d) = false) : idxF p xs = -1 := by
  have : xs.findIdx? p = none := by
    rw [List.findIdx?_eq_none_iff]
    intro x hx
    obtain ⟨j, hj, rfl⟩ := List.mem_iff_getElem.1 hx
    have := h1 j hj
    rwa [getD_lt hj] at this
  simp [idxF, this]
theorem idxF_ge {α : Type} (p : α → Bool) (xs : List α) : decide (idxF p xs ≥ 0) = xs.any p := by
  cases h : xs.findIdx? p with
  | some i =>
    have h2 := List.findIdx?_isSome (xs := xs) (p := p)
    rw [h] at h2
    simp only [idxF, h]
    rw [← h2]
    simp
  | none =>
    have h2 := List.findIdx?_isSome (xs := xs) (p := p)
    rw [h] at h2
    simp only [idxF, h]
    rw [← h2]
    rfl
theorem idx_loop {α : Type} {xs : List α} {d : α} {f : α → (Bool → Prop) → Prop} {p : α → Bool} (hs : Says f p xs) {Q : Int → Prop} (h : Q (idxF p xs)) (hl : xs.length ≤ 9223372036854775807) :
    ∃ (I : Int → Prop) (μ : Int → Nat), I 0 ∧ ∀ x, I x → cnd (decide (x < (xs.length : Int))) (0 ≤ x ∧ x < (xs.length : Int) ∧ f (xs.getD x.toNat d) fun r => cnd r (Q x) (I (IntKind.wrap .i64 (x + 1)) ∧ μ (IntKind.wrap .i64 (x + 1)) < μ x)) (Q (-1)) := by
  refine forUpG hl (fun k => ∀ j, j < k → p (xs.getD j d) = false) (fun j hj => absurd hj (Nat.not_lt_zero _)) (body := fun I μ x => 0 ≤ x ∧ x < (xs.length : Int) ∧ f (xs.getD x.toNat d) fun r => cnd r (Q x) (I (IntKind.wrap .i64 (x + 1)) ∧ μ (IntKind.wrap .i64 (x + 1)) < μ x)) ?_ (e := fun _ => Q (-1)) ?_
  · intro k hk hg I μ hI hw
    refine ⟨by omega, by omega, ?_⟩
    show f (xs.getD k d) _
    refine hs _ (getD_mem hk) _ (cnd_iff.2 ⟨fun h1 => ?_, fun h1 => ?_⟩)
    · rw [idxF_at hk hg h1] at h; exact h
    · rw [hw]
      refine hI fun j hj => ?_
      rcases Nat.lt_succ_iff_lt_or_eq.1 hj with h2 | rfl
      · exact hg j h2
      · exact h1
  · intro hg
    rw [idxF_none hg] at h; exact h
end Go.Proofs.Rz
set_option linter.unusedVariables false
set_option maxRecDepth 100000
namespace Go.Proofs.Rz
open Go Go.GX Go.Proofs

theorem p89 {n lo hi : Int} {Q : Bool → Prop} (h : f89_wp n (lo, hi, ()) Q) : V89 n lo hi Q := by
  have h : Q (!inB lo hi n) := h
  refine cnd_iff.2 ⟨fun h1 => ?_, fun h1 => ?_⟩
  · have : (!inB lo hi n) = true := by have := of_decide_eq_true h1; simp [inB]; omega
    rwa [this] at h
  · have : (!inB lo hi n) = decide (n > hi) := by
      have := of_decide_eq_false h1
      have h3 : lo ≤ n := by omega
      by_cases h2 : n > hi
      · simp [inB, h2, h3]; try omega
      · simp [inB, h2, h3]; try omega
    rwa [this] at h
theorem p95 {xs : List Int} {f : Int → (Bool → Prop) → Prop} {Q : Int → Prop} (h : f95_wp (xs, f, ()) () Q) : V95 xs f Q := by
  obtain ⟨p, hs, hq⟩ := h
  intro hl
  exact idx_loop hs hq hl
theorem p111 {xs : List Stick} {f : Stick → (Bool → Prop) → Prop} {Q : Int → Prop} (h : f111_wp (xs, f, ()) () Q) : V111 xs f Q := by
  obtain ⟨p, hs, hq⟩ := h
  intro hl
  exact idx_loop hs hq hl
theorem p85 {xs : List Gap} {f : Gap → (Bool → Prop) → Prop} {Q : Int → Prop} (h : f85_wp (xs, f, ()) () Q) : V85 xs f Q := by
  obtain ⟨p, hs, hq⟩ := h
  intro hl
  exact idx_loop hs hq hl
theorem p88 {xs : List Int} {f : Int → (Bool → Prop) → Prop} {Q : Bool → Prop} (h : f88_wp (xs, f, ()) () Q) : V88 xs f Q := by
  obtain ⟨p, hs, hq⟩ := h
  refine ⟨p, hs, ?_⟩
  show Q (decide (idxF p xs ≥ 0))
  rw [idxF_ge]; exact hq
theorem p99 {xs : List Stick} {f : Stick → (Bool → Prop) → Prop} {Q : Bool → Prop} (h : f99_wp (xs, f, ()) () Q) : V99 xs f Q := by
  obtain ⟨p, hs, hq⟩ := h
  refine ⟨p, hs, ?_⟩
  show Q (decide (idxF p xs ≥ 0))
  rw [idxF_ge]; exact hq
theorem p44 {xs : List Gap} {f : Gap → (Bool → Prop) → Prop} {Q : Bool → Prop} (h : f44_wp (xs, f, ()) () Q) : V44 xs f Q := by
  obtain ⟨p, hs, hq⟩ := h
  refine ⟨p, hs, ?_⟩
  show Q (decide (idxF p xs ≥ 0))
  rw [idxF_ge]; exact hq
theorem p94 {xs : List Int} {v : Int} {Q : Int → Prop} (h : f94_wp (xs, v, ()) () Q) : V94 xs v Q := by
  intro hl
  exact idx_loop (f := fun y R => R (v == y)) (p := fun y => v == y) (fun x _ R hR => hR) h hl
theorem p63 {xs : List Int} {v : Int} {Q : Bool → Prop} (h : f63_wp (xs, v, ()) () Q) : V63 xs v Q := by
  show Q (decide (idxF (fun y => v == y) xs ≥ 0))
  rw [idxF_ge]; exact h
theorem p65 {xs : List Int} {Q : List Int → Prop} (h : f65_wp xs () Q) : V65 xs Q := by
  obtain ⟨hl, h⟩ := h
  intro b hb
  refine cnd_iff.2 ⟨fun h1 => ?_, fun h1 => ⟨?_, h⟩⟩
  · rw [hb h1] at h; exact h
  · simp only [List.length_nil, Nat.zero_add]; omega
theorem p51 {xs : List Gap} {Q : List Gap → Prop} (h : f51_wp xs () Q) : V51 xs Q := by
  obtain ⟨hl, h⟩ := h
  intro b hb
  refine cnd_iff.2 ⟨fun h1 => ?_, fun h1 => ⟨?_, h⟩⟩
  · rw [hb h1] at h; exact h
  · simp only [List.length_nil, Nat.zero_add]; omega
theorem p108 {n : Int} {Q : Bool → Prop} (h : f108_wp n () Q) : V108 n Q := by
  show Q (n != n)
  rw [show (n != n) = false by simp]; exact h
theorem p93 {a b : Int} {Q : Int → Prop} (h : f93_wp (a, b, ()) () Q) : V93 a b Q := by
  have h : Q (cmpI3 a b) := h
  unfold cmpI3 at h
  show cnd (decide (a < b)) (Q (-1)) (cnd (decide (a > b)) (Q 1) (Q 0))
  refine cnd_iff.2 ⟨fun h1 => ?_, fun h1 => cnd_iff.2 ⟨fun h2 => ?_, fun h2 => ?_⟩⟩
  · rw [if_pos (of_decide_eq_true h1)] at h; exact h
  · rw [if_neg (of_decide_eq_false h1), if_pos (of_decide_eq_true h2)] at h; exact h
  · rw [if_neg (of_decide_eq_false h1), if_neg (of_decide_eq_false h2)] at h; exact h
theorem and32 {a : Int} (h1 : 0 ≤ a) (h2 : a ≤ 4294967295) : (((BitVec.ofInt (IntKind.bits IntKind.u64) a &&& BitVec.ofInt (IntKind.bits IntKind.u64) (4294967295 : Int)).toNat : Nat) : Int) = a := by
  obtain ⟨k, rfl⟩ := Int.eq_ofNat_of_zero_le h1
  rw [BitVec.toNat_and]
  have e1 : (BitVec.ofInt (IntKind.bits IntKind.u64) (k : Int)).toNat = k := by
    rw [BitVec.ofInt_natCast, BitVec.toNat_ofNat]
    exact Nat.mod_eq_of_lt (by show k < 2 ^ 64; omega)
  have e2 : (BitVec.ofInt (IntKind.bits IntKind.u64) (4294967295 : Int)).toNat = 2 ^ 32 - 1 := by decide
  rw [e1, e2, Nat.and_two_pow_sub_one_eq_mod, Nat.mod_eq_of_lt (by omega)]
theorem wrapU {x : Int} (h1 : 0 ≤ x) (h2 : x ≤ 18446744073709551615) : IntKind.wrap .u64 x = x := by
  have hb : (2 : Int) ^ IntKind.u64.bits = 18446744073709551616 := rfl
  have hs : IntKind.u64.signed = false := rfl
  unfold IntKind.wrap
  simp only [hb, hs, Bool.false_and, Bool.false_eq_true, if_false]
  omega
theorem fdiv32 {a : Int} (h1 : 0 ≤ a) (h2 : a ≤ 4294967295) : Int.fdiv a ((2 : Int) ^ min (Int.toNat (32 : Int)) (IntKind.bits IntKind.u64)) = 0 := by
  have e : (2 : Int) ^ min (Int.toNat (32 : Int)) (IntKind.bits IntKind.u64) = 4294967296 := by decide
  rw [e, Int.fdiv_eq_ediv_of_nonneg _ (by omega)]
  omega
theorem p110 {a b : Int} {Q : Int × Int × Unit → Prop} (h : f110_wp (a, b, ()) () Q) : V110 a b Q := by
  obtain ⟨⟨h1, h2, h3, h4⟩, h⟩ := h
  have h1 : 0 ≤ a := h1
  have h2 : a ≤ 1000 := h2
  have h3 : 0 ≤ b := h3
  have h4 : b ≤ 1000 := h4
  have h : Q (0, a * b, ()) := h
  have hab : 0 ≤ a * b := Int.mul_nonneg h1 h3
  have hab2 : a * b ≤ 1000 * 1000 := Int.mul_le_mul h2 h4 h3 (by omega)
  refine ⟨by decide, by decide, by decide, by decide, by decide, ?_⟩
  have w0 : IntKind.wrap .u64 0 = 0 := wrapU (by omega) (by omega)
  have fd : Int.fdiv (a * b) ((2 : Int) ^ min (Int.toNat (32 : Int)) (IntKind.bits IntKind.u64)) = 0 := fdiv32 hab (by omega)
  have fd0 : Int.fdiv 0 ((2 : Int) ^ min (Int.toNat (32 : Int)) (IntKind.bits IntKind.u64)) = 0 := fdiv32 (by omega) (by omega)
  have an0 : (((BitVec.ofInt (IntKind.bits IntKind.u64) 0 &&& BitVec.ofInt (IntKind.bits IntKind.u64) (4294967295 : Int)).toNat : Nat) : Int) = 0 := and32 (by omega) (by omega)
  simp only [and32 h1 (by omega), and32 h3 (by omega), fdiv32 h1 (by omega), fdiv32 h3 (by omega), wrapU h1 (by omega), wrapU h3 (by omega), wrapU hab (by omega), fd, Int.zero_mul, Int.mul_zero, Int.add_zero, w0, fd0, an0]
  exact h
theorem p98 {a b : Int} {Q : Int × Int × Unit → Prop} (h : f98_wp (a, b, ()) () Q) : V98 a b Q := h
theorem rep_step {α : Type} (c d : α) (N k m : Nat) (hk : k ≤ N) (hm : m = min (N - k) k) : (List.replicate k c ++ List.replicate (N - k) d).take k ++ ((List.replicate k c ++ List.replicate (N - k) d).take k).take m ++ (List.replicate k c ++ List.replicate (N - k) d).drop (k + m) = List.replicate (k + m) c ++ List.replicate (N - (k + m)) d := by
  have h1 : (List.replicate k c ++ List.replicate (N - k) d).take k = List.replicate k c := by
    rw [List.take_append_of_le_length (by simp)]; simp
  have h2 : (List.replicate k c).take m = List.replicate m c := by simp; omega
  have h3 : (List.replicate k c ++ List.replicate (N - k) d).drop (k + m) = List.replicate (N - (k + m)) d := by
    rw [List.drop_append, List.length_replicate]
    simp; omega
  rw [h1, h2, h3, List.replicate_append_replicate]
theorem p70 {xs : List Gap} {n : Int} {Q : List Gap → Prop} (h : f70_wp (xs, n, ()) () Q) : V70 xs n Q := by
  obtain ⟨⟨h1, h2, h3⟩, h⟩ := h
  have h1 : xs.length = 1 := h1
  have h2 : 0 ≤ n := h2
  have h3 : n ≤ 1000 := h3
  have h : Q (List.replicate n.toNat (xs.getD 0 ((0, 0), (0, 0)))) := h
  obtain ⟨c, rfl⟩ : ∃ c, xs = [c] := by
    match xs, h1 with
    | [c], _ => exact ⟨c, rfl⟩
  obtain ⟨N, rfl⟩ := Int.eq_ofNat_of_zero_le h2
  have hN : N ≤ 1000 := by omega
  rw [Int.toNat_natCast] at h
  have h : Q (List.replicate N c) := h
  have hw : IntKind.wrap .u64 (N : Int) = N := wrapU (by omega) (by omega)
  have hw1 : IntKind.wrap .u64 (([c].length : Nat) : Int) = 1 := wrapU (by simp) (by simp)
  refine cnd_iff.2 ⟨fun hc => ?_, fun _ _ => ?_⟩
  · have := of_decide_eq_true hc; omega
  refine ⟨⟨by simp only [hw1]; omega, by simp only [hw1]; omega, by simp only [hw]; omega, by simp only [hw]; omega⟩, ?_⟩
  simp only [hw, hw1, Int.one_mul]
  refine cnd_iff.2 ⟨fun hc => ?_, fun _ => cnd_iff.2 ⟨fun hc => ?_, fun _ => ?_⟩⟩
  · have := of_decide_eq_true hc; omega
  · have := of_decide_eq_true hc; omega
  have hw2 : IntKind.wrap .i64 (N : Int) = N := wrapS (by omega) (by omega)
  simp only [hw2, Int.toNat_natCast]
  refine ⟨trivial, by omega, by omega, ?_⟩
  refine ⟨fun x l => ∃ k : Nat, k ≤ N ∧ (N ≠ 0 → 1 ≤ k) ∧ x = k ∧ l = List.replicate k c ++ List.replicate (N - k) ((0, 0), (0, 0)), fun x _ => (N - x).toNat, ?_, ?_⟩
  · refine ⟨min N 1, by omega, by omega, ?_, ?_⟩
    · simp
    · cases N with
      | zero => rfl
      | succ N => simp [List.replicate_succ]
  · rintro x l ⟨k, hk, hk1, rfl, rfl⟩ _
    have hl : (List.replicate k c ++ List.replicate (N - k) ((0, 0), (0, 0))).length = N := by simp; omega
    refine cnd_iff.2 ⟨fun hc => ?_, fun hc => ?_⟩
    · have hc : (k : Int) < _ := of_decide_eq_true hc
      rw [hl] at hc
      have hkN : k < N := by omega
      have hk0 : 1 ≤ k := hk1 (by omega)
      simp only [Int.toNat_natCast, Int.toNat_zero, List.drop_zero, hl]
      have ht : ((List.replicate k c ++ List.replicate (N - k) ((0, 0), (0, 0))).take k).length = k := by rw [List.length_take, hl]; omega
      rw [ht]
      obtain ⟨m, hm⟩ : ∃ m, m = min (N - k) k := ⟨_, rfl⟩
      rw [← hm, rep_step c _ N k m hk hm]
      have hwk : IntKind.wrap .i64 ((k : Int) + (m : Nat)) = ((k + m : Nat) : Int) := by rw [wrapS (by omega) (by omega)]; push_cast; rfl
      rw [hwk]
      refine ⟨by omega, by omega, Int.le_refl _, Int.le_refl _, by omega, by omega, ⟨k + m, by omega, by omega, rfl, rfl⟩, by omega⟩
    · have hc : ¬ (k : Int) < _ := of_decide_eq_false hc
      rw [hl] at hc
      have : k = N := by omega
      subst this
      simpa using h
theorem wrap8 (x : Int) : 0 ≤ IntKind.wrap .u8 x ∧ IntKind.wrap .u8 x < 256 := by
  have hb : (2 : Int) ^ IntKind.u8.bits = 256 := rfl
  have hs : IntKind.u8.signed = false := rfl
  unfold IntKind.wrap
  simp only [hb, hs, Bool.false_and, Bool.false_eq_true, if_false]
  omega
theorem p125 {n : Int} {Q : Int → Prop} (h : f125_wp n () Q) : V125 n Q := by
  have h : ∀ r, Q r := h
  refine ⟨fun _ _ => True, cnd_iff.2 ⟨fun _ => ⟨by decide, trivial⟩, fun _ => trivial⟩, fun x y _ => ⟨fun _ _ => True, cnd_iff.2 ⟨fun _ => ⟨by decide, trivial⟩, fun _ => trivial⟩, fun x y _ => ⟨fun _ _ => True, cnd_iff.2 ⟨fun _ => ⟨by decide, trivial⟩, fun _ => trivial⟩, fun x y _ => ⟨(wrap8 x).1, (wrap8 x).2, h _⟩⟩⟩⟩
theorem p114 {n : Int} {Q : Int → Prop} (h : f114_wp n () Q) : V114 n Q := h

theorem getD_drop {α : Type} {xs : List α} {d : α} {k : Nat} (hk : k < xs.length) : xs.drop k = xs.getD k d :: xs.drop (k + 1) := by
  rw [List.drop_eq_getElem_cons hk, getD_lt hk]
theorem take_succ_getD {α : Type} {xs : List α} {d : α} {k : Nat} (hk : k < xs.length) : xs.take (k + 1) = xs.take k ++ [xs.getD k d] := by
  rw [List.take_succ_eq_append_getElem hk, getD_lt hk]
theorem sum_le {xs : List (List Int)} {n : Nat} (h : ∀ x, x ∈ xs → x.length ≤ n) : xs.flatten.length ≤ xs.length * n := by
  induction xs with
  | nil => simp
  | cons x r ih =>
    have h1 := h x (by simp)
    have h2 := ih fun y hy => h y (by simp [hy])
    simp only [List.flatten_cons, List.length_append, List.length_cons, Nat.succ_mul]
    omega
theorem p67 {xs : List (List Int)} {Q : List Int → Prop} (h : f67_wp xs () Q) : V67 xs Q := by
  obtain ⟨⟨n, hn, hx⟩, hl, h⟩ := h
  have hle : ∀ k, (xs.take k).flatten.length ≤ 100000 := by
    intro k
    have h1 := sum_le (n := n) (xs := xs.take k) fun x hxm => hx x (List.mem_of_mem_take hxm)
    have h2 : (xs.take k).length ≤ 100 := by simp; omega
    have h3 : (xs.take k).length * n ≤ 100 * 1000 := Nat.mul_le_mul h2 hn
    omega
  have hstep : ∀ k, k < xs.length → (xs.take (k + 1)).flatten = (xs.take k).flatten ++ xs.getD k [] := by
    intro k hk
    rw [take_succ_getD (d := []) hk]; simp
  intro hl2
  refine forUp hl2 (fun k => (((xs.take k).flatten.length : Nat) : Int)) rfl (fun k hk I μ hI hw => ?_) ?_
  · simp only [Int.toNat_natCast]
    refine ⟨by omega, by omega, fun _ => ?_⟩
    show cnd (decide (IntKind.wrap .i64 ((((xs.take k).flatten.length : Nat) : Int) + (((xs.getD k []).length : Nat) : Int)) < 0)) False _
    have h1 := hle k
    have h2 := hle (k + 1)
    rw [hstep k hk, List.length_append] at h2
    rw [wrapS (by omega) (by omega), hw]
    refine cnd_iff.2 ⟨fun hc => ?_, fun _ => ?_⟩
    · have := of_decide_eq_true hc; omega
    · have e : (((xs.take k).flatten.length : Nat) : Int) + (((xs.getD k []).length : Nat) : Int) = (((xs.take (k + 1)).flatten.length : Nat) : Int) := by
        rw [hstep k hk, List.length_append]; push_cast; rfl
      rw [e]; exact hI
  · refine ⟨rfl, (by show (0 : Int) ≤ (((xs.take xs.length).flatten.length : Nat) : Int); omega), (by show (((xs.take xs.length).flatten.length : Nat) : Int) ≤ 1000000; have := hle xs.length; omega), fun _ => ?_⟩
    refine forUp hl2 (fun k => (xs.take k).flatten) rfl (fun k hk I μ hI hw => ?_) (by show Q (xs.take xs.length).flatten; rw [List.take_length]; exact h)
    refine ⟨by omega, by omega, ?_⟩
    show (_ + (xs.getD k []).length) * 8 ≤ _ ∧ _
    have h2 := hle (k + 1)
    rw [hstep k hk, List.length_append] at h2
    rw [hw]
    refine ⟨by show ((xs.take k).flatten.length + (xs.getD k []).length) * 8 ≤ _; omega, ?_⟩
    have := hstep k hk
    rw [this] at hI
    exact hI

def accF {α : Type} (c : α → α → Int) (ys : List α) (k : Nat) : List α := (ys.take k).foldl (fun acc x => insRev c x acc) []
theorem accF_succ {α : Type} (c : α → α → Int) (ys : List α) (d : α) {k : Nat} (hk : k < ys.length) : accF c ys (k + 1) = insRev c (ys.getD k d) (accF c ys k) := by
  unfold accF
  rw [take_succ_getD hk, List.foldl_append]; rfl
theorem insRev_length {α : Type} (c : α → α → Int) (x : α) : ∀ l : List α, (insRev c x l).length = l.length + 1
  | [] => rfl
  | y :: r => by
    unfold insRev
    split
    · simp [insRev_length c x r]
    · simp
theorem accF_length {α : Type} (c : α → α → Int) (ys : List α) : ∀ k, k ≤ ys.length → (accF c ys k).length = k
  | 0, _ => rfl
  | k + 1, h => by
    have hk : k < ys.length := h
    rw [accF_succ c ys ys[k] hk, insRev_length, accF_length c ys k (by omega)]
theorem insRev_mem {α : Type} (c : α → α → Int) (x z : α) : ∀ l : List α, z ∈ insRev c x l ↔ z = x ∨ z ∈ l
  | [] => by simp [insRev]
  | y :: r => by
    unfold insRev
    split
    · simp only [List.mem_cons, insRev_mem c x z r]
      constructor
      · rintro (h | h | h) <;> simp [h]
      · rintro (h | h | h) <;> simp [h]
    · simp
theorem accF_mem {α : Type} (c : α → α → Int) (ys : List α) (z : α) : ∀ k, k ≤ ys.length → z ∈ accF c ys k → z ∈ ys
  | 0, _, h => by simp [accF] at h
  | k + 1, hk, h => by
    have hk' : k < ys.length := hk
    rw [accF_succ c ys ys[k] hk', insRev_mem] at h
    rcases h with h | h
    · rw [h, getD_lt hk']; exact List.getElem_mem hk'
    · exact accF_mem c ys z k (by omega) h
theorem swap_at {α : Type} {d : α} (A : List α) (y v : α) (R : List α) : ((A ++ y :: v :: R).set (A.length + 1) ((A ++ y :: v :: R).getD A.length d)).set A.length ((A ++ y :: v :: R).getD (A.length + 1) d) = A ++ v :: y :: R := by
  have h1 : (A ++ y :: v :: R).getD A.length d = y := by simp [List.getD]
  have h2 : (A ++ y :: v :: R).getD (A.length + 1) d = v := by simp [List.getD]
  rw [h1, h2, List.set_append_right _ _ (by omega), List.set_append_right _ _ (by omega)]
  simp
theorem ins_loop {α : Type} {d : α} {f : CmpT α} {c : α → α → Int} {ys : List α} (hs : Says2 f c ys) {Q : Unit → List α → Prop} (h : Q () (insSort c ys)) (hn : ys.length ≤ 9223372036854775000) :
    ∃ (I : Int → List α → Prop) (μ : Int → List α → Nat), I (IntKind.wrap .i64 (0 + 1)) ys ∧ ∀ (x : Int) (x_1 : List α), I x x_1 →
      cnd (decide (x < (ys.length : Int))) (∃ (I_1 : Int → List α → Prop) (μ_1 : Int → List α → Nat), I_1 x x_1 ∧ ∀ (x_2 : Int) (x_3 : List α), I_1 x_2 x_3 →
        cnd (decide (x_2 > 0)) (0 ≤ x_2 ∧ x_2 < (x_3.length : Int) ∧ 0 ≤ IntKind.wrap .i64 (x_2 - 1) ∧ IntKind.wrap .i64 (x_2 - 1) < (x_3.length : Int) ∧
          ∃ r : Int, (f (x_3.getD x_2.toNat d, x_3.getD (IntKind.wrap .i64 (x_2 - 1)).toNat d) fun r' => r' = r) ∧
            cnd (decide (r < 0)) (0 ≤ IntKind.wrap .i64 (x_2 - 1) ∧ IntKind.wrap .i64 (x_2 - 1) < (x_3.length : Int) ∧ 0 ≤ x_2 ∧ x_2 < (x_3.length : Int) ∧ 0 ≤ x_2 ∧ x_2 < (x_3.length : Int) ∧ 0 ≤ IntKind.wrap .i64 (x_2 - 1) ∧
                IntKind.wrap .i64 (x_2 - 1) < ((x_3.set x_2.toNat (x_3.getD (IntKind.wrap .i64 (x_2 - 1)).toNat d)).length : Int) ∧
                I_1 (IntKind.wrap .i64 (x_2 - 1)) ((x_3.set x_2.toNat (x_3.getD (IntKind.wrap .i64 (x_2 - 1)).toNat d)).set (IntKind.wrap .i64 (x_2 - 1)).toNat (x_3.getD x_2.toNat d)) ∧
                μ_1 (IntKind.wrap .i64 (x_2 - 1)) ((x_3.set x_2.toNat (x_3.getD (IntKind.wrap .i64 (x_2 - 1)).toNat d)).set (IntKind.wrap .i64 (x_2 - 1)).toNat (x_3.getD x_2.toNat d)) < μ_1 x_2 x_3)
              (I (IntKind.wrap .i64 (x + 1)) x_3 ∧ μ (IntKind.wrap .i64 (x + 1)) x_3 < μ x x_1))
          (I (IntKind.wrap .i64 (x + 1)) x_3 ∧ μ (IntKind.wrap .i64 (x + 1)) x_3 < μ x x_1)) (Q () x_1) := by
  have hone : IntKind.wrap .i64 ((0 : Int) + 1) = 1 := wrapS (by omega) (by omega)
  have key : ∀ k : Nat, k ≤ 1 → accF c ys k = ys.take k := by
    intro k hk
    cases k with
    | zero => rfl
    | succ k =>
      have : k = 0 := by omega
      subst this
      cases ys with
      | nil => rfl
      | cons y r => rfl
  refine ⟨fun x l => ∃ k : Nat, 1 ≤ k ∧ (k ≤ ys.length ∨ k = 1) ∧ x = k ∧ l = (accF c ys k).reverse ++ ys.drop k, fun x _ => (ys.length - x).toNat, ⟨1, Nat.le_refl _, .inr rfl, hone, ?_⟩, ?_⟩
  · rw [key 1 (Nat.le_refl _)]
    cases ys with
    | nil => rfl
    | cons y r => simp
  rintro x l ⟨k, hk1, hkn, rfl, rfl⟩
  refine cnd_iff.2 ⟨fun hc => ?_, fun hc => ?_⟩
  · have hc : (k : Int) < ys.length := of_decide_eq_true hc
    have hk : k < ys.length := by omega
    have hal := accF_length c ys k (by omega)
    obtain ⟨v, hv⟩ : ∃ v, v = ys.getD k d := ⟨_, rfl⟩
    have hvm : v ∈ ys := by rw [hv]; exact getD_mem hk
    have hwk : IntKind.wrap .i64 ((k : Int) + 1) = k + 1 := wrapS (by omega) (by omega)
    refine ⟨fun j l => ∃ A B : List α, (accF c ys k).reverse = A ++ B ∧ j = A.length ∧ l = A ++ v :: (B ++ ys.drop (k + 1)) ∧ accF c ys (k + 1) = B.reverse ++ insRev c v A.reverse, fun j _ => j.toNat, ?_, ?_⟩
    · refine ⟨(accF c ys k).reverse, [], by simp, by simp [hal], ?_, ?_⟩
      · rw [getD_drop (d := d) hk, ← hv]; rfl
      · rw [accF_succ c ys d hk, ← hv]; simp
    · rintro j l ⟨A, B, h1, rfl, rfl, h4⟩
      have hmem : ∀ z, z ∈ A → z ∈ ys := by
        intro z hz
        refine accF_mem c ys z k (by omega) ?_
        rw [← List.mem_reverse, h1]; simp [hz]
      have hAl : A.length ≤ k := by
        have := congrArg List.length h1
        simp [hal] at this; omega
      have hlen : (A ++ v :: (B ++ ys.drop (k + 1))).length = ys.length := by
        have := congrArg List.length h1
        simp [hal] at this
        simp; omega
      have done : accF c ys (k + 1) = B.reverse ++ (v :: A.reverse) → A ++ v :: (B ++ ys.drop (k + 1)) = (accF c ys (k + 1)).reverse ++ ys.drop (k + 1) := by
        intro e
        rw [e]; simp
      have next : accF c ys (k + 1) = B.reverse ++ (v :: A.reverse) → (∃ k_1 : Nat, 1 ≤ k_1 ∧ (k_1 ≤ ys.length ∨ k_1 = 1) ∧ IntKind.wrap .i64 ((k : Int) + 1) = k_1 ∧ A ++ v :: (B ++ ys.drop (k + 1)) = (accF c ys k_1).reverse ++ ys.drop k_1) ∧ ((ys.length : Int) - IntKind.wrap .i64 ((k : Int) + 1)).toNat < ((ys.length : Int) - k).toNat := by
        intro e
        rw [hwk]
        exact ⟨⟨k + 1, by omega, .inl hk, by push_cast; rfl, done e⟩, by omega⟩
      refine cnd_iff.2 ⟨fun hj => ?_, fun hj => ?_⟩
      · have hj : (A.length : Int) > 0 := of_decide_eq_true hj
        obtain ⟨A', y, rfl⟩ : ∃ A' y, A = A' ++ [y] := by
          rcases List.eq_nil_or_concat A with h | ⟨A', y, h⟩
          · subst h; simp at hj
          · exact ⟨A', y, by simpa using h⟩
        have hL : (A' ++ [y]).length = A'.length + 1 := by simp
        have hw1 : IntKind.wrap .i64 (((A' ++ [y]).length : Int) - 1) = (A'.length : Int) := by
          rw [hL, wrapS (by omega) (by omega)]; omega
        rw [hw1]
        have hl2 : A' ++ [y] ++ v :: (B ++ ys.drop (k + 1)) = A' ++ y :: v :: (B ++ ys.drop (k + 1)) := by simp
        rw [hl2] at hlen ⊢
        rw [hL] at hAl ⊢
        simp only [Int.toNat_natCast, hlen, List.length_set]
        have g1 : (A' ++ y :: v :: (B ++ ys.drop (k + 1))).getD (A'.length + 1) d = v := by simp [List.getD]
        have g2 : (A' ++ y :: v :: (B ++ ys.drop (k + 1))).getD A'.length d = y := by simp [List.getD]
        refine ⟨by omega, by omega, by omega, by omega, c v y, ?_, ?_⟩
        · rw [g1, g2]
          exact hs v hvm y (hmem y (by simp)) _ rfl
        · have h4' : accF c ys (k + 1) = B.reverse ++ insRev c v (y :: A'.reverse) := by
            rw [h4]; simp
          refine cnd_iff.2 ⟨fun hr => ?_, fun hr => ?_⟩
          · have hr : c v y < 0 := of_decide_eq_true hr
            refine ⟨by omega, by omega, by omega, by omega, by omega, by omega, by omega, by omega, ⟨A', y :: B, by rw [h1]; simp, rfl, ?_, ?_⟩, by omega⟩
            · rw [swap_at]; simp
            · rw [h4', insRev, if_pos hr]; simp
          · have hr : ¬ c v y < 0 := of_decide_eq_false hr
            have := next (by rw [h4', insRev, if_neg hr]; simp)
            rw [hl2] at this
            exact this
      · have hj : ¬ (A.length : Int) > 0 := of_decide_eq_false hj
        have : A = [] := List.eq_nil_of_length_eq_zero (by omega)
        subst this
        exact next (by rw [h4]; rfl)
  · have hc : ¬ (k : Int) < ys.length := of_decide_eq_false hc
    have e : insSort c ys = (accF c ys k).reverse ++ ys.drop k := by
      have hd : ys.drop k = [] := List.drop_eq_nil_of_le (by omega)
      have ht : ys.take k = ys := List.take_of_length_le (by omega)
      rw [hd, List.append_nil]
      unfold accF insSort
      rw [ht]
    rw [← e]; exact h
theorem p106 {ys : List Int} {a b : Int} {f : CmpT Int} {Q : Unit → List Int → Prop} (h : f106_wp ys (a, b, f, ()) () Q) : V106 ys a b f Q := by
  obtain ⟨c, hs, ha, hb, hl, h⟩ := h
  have ha : a = 0 := ha
  have hb : b = ys.length := hb
  subst ha; subst hb
  exact ins_loop hs h (by omega)
theorem p116 {ys : List Stick} {a b : Int} {f : CmpT Stick} {Q : Unit → List Stick → Prop} (h : f116_wp ys (a, b, f, ()) () Q) : V116 ys a b f Q := by
  obtain ⟨c, hs, ha, hb, hl, h⟩ := h
  have ha : a = 0 := ha
  have hb : b = ys.length := hb
  subst ha; subst hb
  exact ins_loop hs h (by omega)
theorem p91 {ys : List Int} {n : Int} {f : CmpT Int} {Q : Unit → List Int → Prop} (h : f91_wp ys (n, f, ()) () Q) : V91 ys n f Q := by
  obtain ⟨c, hs, hn, hl, h⟩ := h
  have hn : n = ys.length := hn
  subst hn
  refine ⟨fun x y l => x = 0 ∧ y = 20 ∧ l = ys, fun _ _ _ => 0, ⟨rfl, rfl, rfl⟩, ?_⟩
  rintro x y l ⟨rfl, rfl, rfl⟩
  refine cnd_iff.2 ⟨fun hc => ?_, fun _ => ⟨c, hs, rfl, rfl, by omega, fun x => x = 20, fun _ => 0, rfl, ?_⟩⟩
  · have := of_decide_eq_true hc; omega
  · rintro x rfl
    refine cnd_iff.2 ⟨fun hc => ?_, fun _ => h⟩
    have := of_decide_eq_true hc; omega
theorem p57 {ys : List Int} {f : CmpT Int} {Q : Unit → List Int → Prop} (h : f57_wp ys (f, ()) () Q) : V57 ys f Q := by
  obtain ⟨c, hs, hl, h⟩ := h
  intro _
  exact ⟨c, hs, rfl, hl, h⟩
theorem p113 {ys : List Stick} {a b l : Int} {f : CmpT Stick} {Q : Unit → List Stick → Prop} (h : f113_wp ys (a, b, l, f, ()) () Q) : V113 ys a b l f Q := by
  obtain ⟨c, hs, ha, hb, hl, h⟩ := h
  have ha : a = 0 := ha
  have hb : b = ys.length := hb
  subst ha; subst hb
  refine ⟨fun x y _ => x = 0 ∧ y = ys.length, fun _ _ _ => 0, ⟨rfl, rfl⟩, ?_⟩
  rintro x y z ⟨rfl, rfl⟩
  have hw : IntKind.wrap .i64 ((ys.length : Int) - 0) = ys.length := by rw [wrapS (by omega) (by omega)]; omega
  refine cnd_iff.2 ⟨fun _ => ⟨c, hs, rfl, rfl, by omega, h⟩, fun hc => ?_⟩
  rw [hw] at hc
  have := of_decide_eq_false hc; omega
theorem p104 {ys : List Stick} {f : CmpT Stick} {Q : Unit → List Stick → Prop} (h : f104_wp ys (f, ()) () Q) : V104 ys f Q := by
  obtain ⟨c, hs, hl, h⟩ := h
  intro _ r
  exact ⟨c, hs, rfl, rfl, hl, h⟩
theorem p112 {ys sq : List Stick} {Q : List Stick → Prop} (h : f112_wp ys (sq, ()) () Q) : V112 ys sq Q := by
  obtain ⟨hl, h⟩ := h
  refine ⟨fun pre x => x.1 = ys ++ pre, by show ys = ys ++ []; simp, ?_, ?_⟩
  · rintro pre x rest hsq ⟨l, u⟩ hx
    have hx : l = ys ++ pre := hx
    subst hx
    have hl : ys.length + sq.length ≤ 1000000 := hl
    have hsq : sq = pre ++ x :: rest := hsq
    refine ⟨?_, by show ys ++ pre ++ [x] = ys ++ (pre ++ [x]); simp⟩
    subst hsq
    simp at hl ⊢; omega
  · rintro ⟨l, u⟩ hx
    have hx : l = ys ++ sq := hx
    subst hx
    exact h
theorem p103 {sq : List Stick} {Q : List Stick → Prop} (h : f103_wp sq () Q) : V103 sq Q := by
  obtain ⟨hl, h⟩ := h
  refine ⟨by show 0 + sq.length ≤ _; omega, by show Q ([] ++ sq); simpa using h⟩
theorem p78 {sq : List Stick} {f : CmpT Stick} {Q : List Stick → Prop} (h : f78_wp (sq, f, ()) () Q) : V78 sq f Q := by
  obtain ⟨c, hs, hl, h⟩ := h
  exact ⟨by have hl : sq.length ≤ 12 := hl; omega, c, hs, hl, h⟩

theorem idxF_spec {α : Type} (p : α → Bool) (xs : List α) (d : α) : (idxF p xs = -1 ∧ ∀ x, x ∈ xs → p x = false) ∨ ∃ i : Nat, idxF p xs = i ∧ i < xs.length ∧ p (xs.getD i d) = true ∧ ∀ x, x ∈ xs.take i → p x = false := by
  unfold idxF
  cases h : xs.findIdx? p with
  | none =>
    exact .inl ⟨rfl, List.findIdx?_eq_none_iff.1 h⟩
  | some i =>
    obtain ⟨hi, h1, h2⟩ := List.findIdx?_eq_some_iff_getElem.1 h
    refine .inr ⟨i, rfl, hi, by rw [getD_lt hi]; exact h1, fun x hx => ?_⟩
    obtain ⟨j, hj, rfl⟩ := List.mem_iff_getElem.1 hx
    rw [List.length_take] at hj
    rw [List.getElem_take]
    simpa using h2 j (by omega)
theorem filter_one_t {p : Int → Bool} {x : Int} (h : p x = true) : [x].filter (fun y => !p y) = [] := by simp [h]
theorem filter_one_f {p : Int → Bool} {x : Int} (h : p x = false) : [x].filter (fun y => !p y) = [x] := by simp [h]
theorem p64 {ys : List Int} {f : Int → (Bool → Prop) → Prop} {Q : List Int → Prop} (h : f64_wp ys (f, ()) () Q) : V64 ys f Q := by
  obtain ⟨p, hs, hl, h⟩ := h
  have hs : Says f p ys := hs
  refine ⟨p, hs, ?_⟩
  rcases idxF_spec p ys 0 with ⟨h1, h2⟩ | ⟨i, h1, hi, h3, h2⟩
  · rw [show idxF p (ys, f, ()).1 = idxF p ys from rfl, h1]
    show cnd true _ _
    have : ys.filter (fun y => !p y) = ys := List.filter_eq_self.2 fun y hy => by rw [h2 y hy]; rfl
    rw [this] at h
    exact h
  · rw [show idxF p (ys, f, ()).1 = idxF p ys from rfl, h1]
    have hne : ((i : Int) == -1) = false := by
      have : (i : Int) ≠ -1 := by omega
      exact beq_eq_false_iff_ne.2 this
    rw [hne]
    have hwi : IntKind.wrap .i64 ((i : Int) + 1) = i + 1 := wrapS (by omega) (by omega)
    show ∃ _, _
    rw [hwi]

    refine ⟨fun x y l => ∃ k j : Nat, x = k ∧ y = j ∧ k < j ∧ j ≤ ys.length ∧ l.length = ys.length ∧ l.take k = (ys.take j).filter (fun y => !p y) ∧ l.drop j = ys.drop j, fun x y _ => (ys.length - y).toNat, ⟨i, i + 1, rfl, by push_cast; rfl, by omega, by omega, rfl, ?_, rfl⟩, ?_⟩
    · rw [take_succ_getD (d := 0) hi, List.filter_append]
      have : (ys.take i).filter (fun y => !p y) = ys.take i := List.filter_eq_self.2 fun y hy => by rw [h2 y hy]; rfl
      rw [this, filter_one_t h3, List.append_nil]
    · rintro x y l ⟨k, j, rfl, rfl, hkj, hj, hll, hlt, hld⟩ _
      rw [hll]
      refine cnd_iff.2 ⟨fun hc => ?_, fun hc => ?_⟩
      · have hc : (j : Int) < ys.length := of_decide_eq_true hc
        have hjl : j < ys.length := by omega
        have hwj : IntKind.wrap .i64 ((j : Int) + 1) = j + 1 := wrapS (by omega) (by omega)
        have hwk : IntKind.wrap .i64 ((k : Int) + 1) = k + 1 := wrapS (by omega) (by omega)
        have hg : l.getD j 0 = ys.getD j 0 := by
          have e1 := getD_drop (d := 0) (xs := l) (k := j) (by omega)
          have e2 := getD_drop (d := 0) (xs := ys) (k := j) hjl
          rw [hld, e2] at e1
          exact (List.cons.inj e1).1.symm
        have hd1 : l.drop (j + 1) = ys.drop (j + 1) := by
          have e1 : l.drop (j + 1) = (l.drop j).drop 1 := by rw [List.drop_drop]
          have e2 : ys.drop (j + 1) = (ys.drop j).drop 1 := by rw [List.drop_drop]
          rw [e1, e2, hld]
        simp only [Int.toNat_natCast, hg, hwj, hwk]
        refine ⟨by omega, by omega, hs _ (getD_mem hjl) _ (cnd_iff.2 ⟨fun hp => ?_, fun hp => ?_⟩)⟩
        · have hp : p (ys.getD j 0) = false := by simpa using hp
          refine ⟨by omega, by omega, ⟨k + 1, j + 1, by push_cast; rfl, by push_cast; rfl, by omega, by omega, by simp [hll], ?_, ?_⟩, by omega⟩
          · rw [take_succ_getD (d := 0) hjl, List.filter_append, ← hlt]
            have hk : k < (l.set k (ys.getD j 0)).length := by simp; omega
            rw [take_succ_getD (d := 0) hk, List.take_set_of_le (Nat.le_refl _)]
            have : (l.set k (ys.getD j 0)).getD k 0 = ys.getD j 0 := by
              rw [getD_lt hk]; simp
            rw [this, filter_one_f hp]
          · rw [List.drop_set_of_lt (by omega), hd1]
        · have hp : p (ys.getD j 0) = true := by simpa using hp
          refine ⟨⟨k, j + 1, rfl, by push_cast; rfl, by omega, by omega, hll, ?_, hd1⟩, by omega⟩
          rw [take_succ_getD (d := 0) hjl, List.filter_append, ← hlt, filter_one_t hp, List.append_nil]
      · have hc : ¬ (j : Int) < ys.length := of_decide_eq_false hc
        have hjl : j = ys.length := by omega
        subst hjl
        simp only [Int.toNat_natCast]
        have hk : k ≤ l.length := by omega
        refine ⟨by omega, by omega, Int.le_refl _, Int.le_refl _, by omega, by simp; omega, ?_⟩
        have e : (l.take k ++ List.replicate (ys.length - k) (0 : Int) ++ l.drop ys.length).take k = l.take k := by
          rw [List.append_assoc, List.take_append_of_le_length (by rw [List.length_take]; omega), List.take_take, Nat.min_self]
        rw [e, hlt, List.take_length]
        exact h
end Go.Proofs.Rz
set_option linter.unusedVariables false
set_option maxRecDepth 100000
namespace Go.Proofs.Rz
open Go Go.GX Go.Proofs Go.RowKit Go.Shelf
variable [Inhabited BaseD]
theorem p105 {l : Nat} {xs : List Stick} : V105 l xs := by
  intro hl
  refine ⟨fun g x => ∃ k : Nat, k ≤ xs.length ∧ x = k ∧ g = xs.take k, fun x => (xs.length - x).toNat, ⟨0, Nat.zero_le _, rfl, rfl⟩, ?_⟩
  rintro g x ⟨k, hk, rfl, rfl⟩
  refine cnd_iff.2 ⟨fun h => ?_, fun h => ?_⟩
  · have h : (k : Int) < xs.length := of_decide_eq_true h
    have hk' : k < xs.length := by omega
    have hw : IntKind.wrap .i64 ((k : Int) + 1) = k + 1 := wrapS (by omega) (by omega)
    refine ⟨by omega, by omega, rfl, xs.drop (k + 1), ?_, ⟨⟨k + 1, hk', by rw [hw]; push_cast; rfl, (take_succ_getD hk').symm⟩, by rw [hw]; show ((xs.length : Int) - (k + 1)).toNat < ((xs.length : Int) - k).toNat; omega⟩, trivial⟩
    show xs = xs.take k ++ (xs.getD k ((0, 0), (0, 0), 0) :: xs.drop (k + 1))
    rw [← getD_drop hk', List.take_append_drop]
  · have h : ¬ (k : Int) < xs.length := of_decide_eq_false h
    exact List.take_of_length_le (by omega)
theorem mk44 : MkOK Tryz.prog 79 80 105 := by
  refine ⟨enters_of Tryz.func79 (by kernel_rfl) rfl, fun W v => ?_⟩
  cases v <;>
  · go_enter Tryz.func79, Tryz.ntmps79
    go_wp2
    go_ret
    exact ⟨W.heap.size, rfl, Nat.le_refl _, World.alloc_heap_new W _, (Below.refl _ _).alloc (Nat.le_refl _) _⟩
theorem st83 : StatOK Tryz.prog (S0 [] []) := (env .nil .nil .nil).st
theorem ct83 : CtOK Tryz.prog (assoc glT) (S0 [] []) := (env .nil .nil .nil).ct
theorem ok79 : CallsOK Tryz.prog (assoc glT) 79 f79_ct where
  enters := mk44.1
  calls := fun X W x y vs cs hX hg hv hc Q hQ => by
    obtain ⟨v, rfl, hv⟩ := hv
    have hc : cs = [] := hc
    subst hc
    have hsl : ∃ A n c, v = .slice A n c := by
      obtain ⟨A, c, h1, _⟩ := hv
      exact ⟨_, _, _, h1⟩
    refine (mk44.2 W v).mono ?_
    rintro e w' ⟨b, rfl, hb, hcell, hbel⟩
    have hQ : Q x := hQ
    have e1 : Evo X W X w' := Evo.below hX hbel
    refine ⟨x, _, rfl, ⟨⟨_, _, _, rfl⟩, fun X' W' hev => ?_⟩, .ofBelow hbel, hQ⟩
    have hxb : ¬ X b := fun h => by have := hX b h; omega
    have hbw : b < w'.heap.size := (Array.getElem?_eq_some_iff.1 hcell).1
    have hv2 := (Kd.stands Tryz.prog k80).val hev ((Kd.stands Tryz.prog k80).val e1 hv)
    refine seq_of (A := k79) (C := arg1 (.ptr 80 k80)) (y := (x, ())) Tryz.func105 (by kernel_rfl) (by kernel_rfl) f105_an (fun l => y83_ct l x) (fun _ => st83) (fun _ => ct83) (fun _ => rfl) (fun T hT hx B0 We => ?_) (fun l => (V83E l x).mp p105) hev.low (hg.evo (e1.trans hev)) (cs := [.pointer (some ⟨b, 0, none⟩)]) ?_
    · have := yopY_ok (A := k79) (T := T) (B0 := B0) (We := We) st83 ct83 rfl hT (fun lab => Nat.beq lab 302) (fun _ => 0)
      rw [hx] at this
      exact this
    · obtain ⟨A, n, c, rfl⟩ := hsl
      refine ⟨_, _, rfl, ⟨b, _, rfl, hev.notIn hxb hbw, (hev.keep b ⟨_, _, _, hcell⟩ hxb).trans hcell, ?_⟩, rfl⟩
      exact ⟨_, rfl, rfl, hv2⟩
end Go.Proofs.Rz
